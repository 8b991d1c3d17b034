/-
  DERIVED. Plain law of fractions in lowest terms: the core's rational numbers, and how the program reckons them.
-/
import Derived.Test.YtkfkdkoohnfgaaaSizeH
namespace Go.Proofs.Ytkfkdkoohnfgaaa
open Go.RowKit

/-- an integer of its sign and its size (a size 0 may bear any sign) -/
def sgn (s : Bool) (m : Nat) : Int := if s then -(m : Int) else m

theorem sgn_abs (s : Bool) (m : Nat) : (sgn s m).natAbs = m := by unfold sgn; split <;> omega
theorem sgn_of (z : Int) : sgn (decide (z < 0)) z.natAbs = z := by
  unfold sgn
  by_cases h : z < 0
  · rw [decide_eq_true h, if_pos rfl]; omega
  · rw [decide_eq_false h, if_neg (by decide)]; omega
theorem sgn_neg (s : Bool) (m : Nat) : decide (sgn s m < 0) = (s && decide (0 < m)) := by
  unfold sgn
  cases s <;> simp <;> omega
theorem sgn_mul (s : Bool) (m k : Nat) : sgn s (m * k) = sgn s m * k := by
  unfold sgn
  cases s <;> simp [Int.neg_mul]
theorem sgn_div (s : Bool) {m g : Nat} (h : g ∣ m) : sgn s (m / g) = sgn s m / g := by
  unfold sgn
  cases s
  · simp
  · simp only [if_true]
    rw [Int.natCast_ediv, Int.neg_ediv_of_dvd (Int.natCast_dvd_natCast.2 h)]
theorem sgn_ne (s t : Bool) (m k : Nat) : sgn (s != t) (m * k) = sgn s m * sgn t k := by
  unfold sgn
  cases s <;> cases t <;> simp [Int.neg_mul, Int.mul_neg]

/-- a product -/
theorem rat_mul (r s : Rat) : (r * s).num = r.num / (r.num.natAbs.gcd s.den : Nat) * (s.num / (s.num.natAbs.gcd r.den : Nat)) ∧ (r * s).den = r.den / (s.num.natAbs.gcd r.den) * (s.den / (r.num.natAbs.gcd s.den)) := by
  show (Rat.mul r s).num = _ ∧ (Rat.mul r s).den = _
  rw [Rat.mul]
  exact ⟨by simp [Int.divExact_eq_ediv], by simp [Nat.divExact_eq_div]⟩

/-- a sum -/
theorem rat_add (r s : Rat) : let g := r.den.gcd s.den; let n := r.num * (s.den / g : Nat) + s.num * (r.den / g : Nat); let h := n.natAbs.gcd g
    (r + s).num = n / (h : Nat) ∧ (r + s).den = r.den / g * (s.den / h) := by
  intro g n h
  have hgs : g ∣ s.den := Nat.gcd_dvd_right _ _
  have hhg : h ∣ g := Nat.gcd_dvd_right _ _
  show (Rat.add r s).num = _ ∧ (Rat.add r s).den = _
  rw [Rat.add]
  by_cases hg : r.den.gcd s.den = 1
  · simp only [dif_pos hg]
    have h1 : h = 1 := by
      have : g = 1 := hg
      show n.natAbs.gcd g = 1
      rw [this, Nat.gcd_one_right]
    have hg1 : g = 1 := hg
    refine ⟨?_, ?_⟩
    · rw [h1]; show _ = (r.num * (s.den / g : Nat) + s.num * (r.den / g : Nat)) / _; rw [hg1]; simp
    · rw [h1, hg1]; simp
  · simp only [dif_neg hg]
    rw [Rat.maybeNormalize_eq]
    refine ⟨rfl, ?_⟩
    show r.den / g * s.den / h = r.den / g * (s.den / h)
    rw [Nat.mul_div_assoc _ (Nat.dvd_trans hhg hgs)]

/-- the fraction of two integers -/
theorem rat_make (n : Int) {d : Nat} (hd : d ≠ 0) : (mkRat n d).num = n / (n.natAbs.gcd d : Nat) ∧ (mkRat n d).den = d / n.natAbs.gcd d := by
  rw [Rat.mkRat_def, dif_neg hd, Rat.normalize_eq]
  exact ⟨rfl, rfl⟩

end Go.Proofs.Ytkfkdkoohnfgaaa
