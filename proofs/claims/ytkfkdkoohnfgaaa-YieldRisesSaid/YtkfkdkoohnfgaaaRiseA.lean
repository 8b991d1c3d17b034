/-
  DERIVED. The bounds of a yield do not fall if the number of good ones rises, and grow wider if the part falls: the plain law, and the walk of YieldRises.
-/
import Derived.Test.YtkfkdkoohnfgaaaLawA
namespace Go.Proofs.Ytkfkdkoohnfgaaa
open Go.RowKit

theorem down_le {p : Int → Bool} : ∀ x : Nat, down p x ≤ x
  | 0 => by simp [down]
  | x + 1 => by
    unfold down
    split
    · omega
    · have := down_le (p := p) x; omega
theorem down_nonneg {p : Int → Bool} : ∀ x : Nat, 0 ≤ down p x
  | 0 => by simp [down]
  | x + 1 => by
    unfold down
    split
    · omega
    · exact down_nonneg x
theorem up_le {p : Int → Bool} : ∀ x : Nat, up p x ≤ 100
  | 0 => by simp [up]
  | x + 1 => by
    unfold up
    split
    · omega
    · exact up_le x
theorem up_ge {p : Int → Bool} : ∀ x : Nat, 100 - (x : Int) ≤ up p x
  | 0 => by simp [up]
  | x + 1 => by
    unfold up
    split
    · omega
    · have := up_ge (p := p) x; omega

theorem down_mono {p q : Int → Bool} : ∀ x : Nat, (∀ i : Int, 1 ≤ i → i ≤ x → p i = true → q i = true) → down p x ≤ down q x
  | 0, _ => by simp [down]
  | x + 1, h => by
    by_cases hp : p ((x : Int) + 1) = true
    · have hq := h _ (by omega) (by omega) hp
      simp [down, hp, hq]
    · by_cases hq : q ((x : Int) + 1) = true
      · have := down_le (p := p) x
        simp [down, hp, hq]; omega
      · simp only [down, hp, hq]
        exact down_mono x (fun i h1 h2 => h i h1 (by omega))

theorem up_mono {p q : Int → Bool} : ∀ x : Nat, (∀ i : Int, 100 - (x : Int) ≤ i → i ≤ 99 → q i = true → p i = true) → up p x ≤ up q x
  | 0, _ => by simp [up]
  | x + 1, h => by
    by_cases hq : q (100 - ((x : Int) + 1)) = true
    · have hp := h _ (by omega) (by omega) hq
      simp [up, hp, hq]
    · by_cases hp : p (100 - ((x : Int) + 1)) = true
      · have := up_ge (p := q) x
        simp only [up, hp, hq]; simp; omega
      · simp only [up, hp, hq]
        exact up_mono x (fun i h1 h2 => h i (by omega) h2)

theorem psum_front (N : Nat) (x : Int) (A : Nat) : ∀ k, psum N x A (k + 1) = term N x A + psum N x (A + 1) k
  | 0 => by simp [psum]
  | k + 1 => by
    have h := psum_front N x A k
    show psum N x A (k + 1) + term N x (A + (k + 1)) = term N x A + (psum N x (A + 1) k + term N x (A + 1 + k))
    rw [h, show A + (k + 1) = A + 1 + k by omega]
    omega

theorem small_more {N k : Nat} {M M' x : Int} {T : Nat} (hM : M ≤ M') (h : smallB N k T M x = true) : smallB N k T M' x = true := by
  unfold smallB at *
  simp at *
  omega

theorem small_up {N k : Nat} {M x : Int} (hN : N ≤ 200) (hk : k < N) (h0 : 0 ≤ x) (h1 : x ≤ 100) (h : smallB N k N M x = true) : smallB N (k + 1) N M x = true := by
  unfold smallB at *
  simp only [decide_eq_true_eq] at *
  rw [show N + 1 - k = (N + 1 - (k + 1)) + 1 by omega, psum_front] at h
  have := (term_bd (N := N) (j := k) hN h0 h1 (by omega)).1
  omega

theorem small_less {N k : Nat} {M x : Int} (hN : N ≤ 200) (hk : k < N) (h0 : 0 ≤ x) (h1 : x ≤ 100) (h : smallB N 0 (k + 1) M x = true) : smallB N 0 k M x = true := by
  unfold smallB at *
  simp only [decide_eq_true_eq, Nat.sub_zero] at *
  rw [show psum N x 0 (k + 1 + 1) = psum N x 0 (k + 1) + term N x (0 + (k + 1)) from rfl] at h
  have := (term_bd (N := N) (j := 0 + (k + 1)) hN h0 h1 (by omega)).1
  omega

theorem low_rises {N k : Nat} {d : Int} (hN : N ≤ 200) (hk : k < N) : lowOf N k d ≤ lowOf N (k + 1) d := by
  unfold lowOf
  rw [if_pos (show 0 < k + 1 by omega)]
  split
  · exact down_mono 100 (fun i h1 h2 h => small_up hN hk (by omega) (by omega) h)
  · exact down_nonneg _
theorem high_rises {N k : Nat} {d : Int} (hN : N ≤ 200) (hk : k < N) : highOf N k d ≤ highOf N (k + 1) d := by
  unfold highOf
  rw [if_pos hk]
  split
  · exact up_mono 100 (fun i h1 h2 h => small_less hN hk (by omega) (by omega) h)
  · exact up_le _
theorem scale_le {N : Nat} {d d' : Int} (h : d ≤ d') : d * 100 ^ N ≤ d' * 100 ^ N := Int.mul_le_mul_of_nonneg_right h (Int.pow_nonneg (by decide))
theorem low_wide {N k : Nat} {d d' : Int} (h : d ≤ d') : lowOf N k d ≤ lowOf N k d' := by
  unfold lowOf
  split
  · exact down_mono 100 (fun i _ _ hh => small_more (scale_le h) hh)
  · exact Int.le_refl _
theorem high_wide {N k : Nat} {d d' : Int} (h : d ≤ d') : highOf N k d' ≤ highOf N k d := by
  unfold highOf
  split
  · exact up_mono 100 (fun i _ _ hh => small_more (scale_le h) hh)
  · exact Int.le_refl _

end Go.Proofs.Ytkfkdkoohnfgaaa
