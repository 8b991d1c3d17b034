/-
  DERIVED. Plain law of the reference's division: how often the divisor may be taken, by the highest digits; taking it.
-/
import Derived.Test.YtkfkdkoohnfgaaaRefG
namespace Go.Proofs.Ytkfkdkoohnfgaaa

theorem val_take_all (l : List Int) {k : Nat} (h : l.length ≤ k) : val (l.take k) = val l := by rw [List.take_of_length_le h]

theorem lt_of_pow_mul_lt {a b p : Int} (hp : 0 < p) (h : a * p < b * p) : a < b := Int.lt_of_mul_lt_mul_right h (by omega)

/-- how often, by the highest digits -/
theorem often {x y m : Nat} (_ : 0 < y) (hm : m + 1 = (digs y).length) (hxy : x < y * 1000000000) (hle : y ≤ x) {hi top bt : Int}
    (h1 : (digs x).getD (m + 1) 0 = hi) (h2 : (digs x).getD m 0 = top) (h3 : (digs y).getD m 0 = bt) {k : Int} (hk : k = if (hi * 1000000000 + top) / (bt + 1) = 0 then 1 else (hi * 1000000000 + top) / (bt + 1)) :
    1 ≤ k ∧ k < 1000000000 ∧ k * y ≤ x ∧ 0 ≤ hi ∧ hi < 1000000000 ∧ 0 ≤ top ∧ top < 1000000000 ∧ 0 ≤ bt ∧ bt < 1000000000 := by
  have d1 := (dig_digs x).all (m + 1)
  have d2 := (dig_digs x).all m
  have d3 := (dig_digs y).all m
  rw [h1] at d1; rw [h2] at d2; rw [h3] at d3
  have hlx : (digs x).length ≤ m + 2 := by
    refine length_digs_le ?_
    have := digs_lt y
    rw [← hm] at this
    calc x < y * 1000000000 := hxy
      _ ≤ 1000000000 ^ (m + 1) * 1000000000 := Nat.mul_le_mul_right _ (by omega)
      _ = 1000000000 ^ (m + 2) := (Nat.pow_succ ..).symm
  have ex : (x : Int) = val ((digs x).take m) + (top + hi * 1000000000) * 1000000000 ^ m := by
    rw [← val_digs x, ← val_take_all (digs x) hlx, val_take_next, val_take_next, h1, h2, Int.pow_succ, Int.add_mul]
    rw [show hi * (1000000000 ^ m * 1000000000) = hi * 1000000000 * 1000000000 ^ m by rw [Int.mul_comm (1000000000 ^ m), Int.mul_assoc]]
    rw [Int.add_assoc]
  have ey : (y : Int) = val ((digs y).take m) + bt * 1000000000 ^ m := by
    rw [← val_digs y, ← val_take_all (digs y) (k := m + 1) (by omega), val_take_next, h3]
  have px : 0 ≤ val ((digs x).take m) := val_nonneg ((dig_digs x).take m)
  have py : val ((digs y).take m) < 1000000000 ^ m := by
    have := val_lt ((dig_digs y).take m)
    rw [List.length_take, Nat.min_eq_left (by omega)] at this
    exact this
  have hp : (0 : Int) < 1000000000 ^ m := Int.pow_pos (by decide)
  generalize hP : (1000000000 : Int) ^ m = p at *
  have hyb : (y : Int) < (bt + 1) * p := by rw [Int.add_mul]; omega
  have hA : (hi * 1000000000 + top) * p ≤ x := by rw [Int.add_comm (hi * 1000000000)]; omega
  have hT : hi * 1000000000 + top < (bt + 1) * 1000000000 := by
    refine lt_of_pow_mul_lt hp ?_
    have : (x : Int) < y * 1000000000 := by omega
    have h4 : (y : Int) * 1000000000 ≤ (bt + 1) * p * 1000000000 := Int.mul_le_mul_of_nonneg_right (by omega) (by decide)
    rw [Int.mul_assoc, Int.mul_comm p, ← Int.mul_assoc] at h4
    omega
  generalize hu : hi * 1000000000 + top = u at *
  have hu0 : 0 ≤ u := by omega
  have hq0 : 0 ≤ u / (bt + 1) := Int.ediv_nonneg hu0 (by omega)
  have hq1 : u / (bt + 1) < 1000000000 := by
    refine Int.ediv_lt_of_lt_mul (by omega) ?_
    rw [Int.mul_comm]; exact hT
  have hq2 : u / (bt + 1) * (bt + 1) ≤ u := Int.ediv_mul_le _ (by omega)
  refine ⟨?_, ?_, ?_, d1.1, d1.2, d2.1, d2.2, d3.1, d3.2⟩
  · rw [hk]; split <;> omega
  · rw [hk]; split <;> omega
  · rw [hk]; split
    · omega
    · have h5 : u / (bt + 1) * (y : Int) ≤ u / (bt + 1) * ((bt + 1) * p) := Int.mul_le_mul_of_nonneg_left (by omega) hq0
      rw [← Int.mul_assoc] at h5
      have h6 : u / (bt + 1) * (bt + 1) * p ≤ u * p := Int.mul_le_mul_of_nonneg_right hq2 (by omega)
      omega

/-- ahead of round i of taking k times ys from rs -/
def D1 (rs ys : List Int) (k : Int) (i : Nat) (cr : Int) (out : List Int) : Prop :=
  out.length = rs.length ∧ Dig out ∧ (∀ j, i ≤ j → out.getD j 0 = rs.getD j 0) ∧ val (out.take i) + cr * 1000000000 ^ i = val (rs.take i) - k * val (ys.take i) ∧ -1000000000 ≤ cr ∧ cr ≤ 0

theorem D1.start {rs ys : List Int} {k : Int} (h : Dig rs) : D1 rs ys k 0 0 rs := ⟨rfl, h, fun _ _ => rfl, by simp [val], by omega, by omega⟩

theorem mul_bd2 {x k : Int} (hx : 0 ≤ x ∧ x < 1000000000) (hk : 0 ≤ k ∧ k < 1000000000) : 0 ≤ x * k ∧ x * k ≤ 999999998000000001 := mul_bounds hx hk

theorem D1.step {rs ys out : List Int} {k cr : Int} {i : Nat} (h : D1 rs ys k i cr out) (hy : Dig ys) (hk0 : 0 ≤ k) (hk1 : k < 1000000000) (hi : i < rs.length) :
    D1 rs ys k (i + 1) ((rs.getD i 0 - ys.getD i 0 * k + cr) / 1000000000) (out.set i ((rs.getD i 0 - ys.getD i 0 * k + cr) % 1000000000)) := by
  obtain ⟨h1, h2, h3, h4, h5, h6⟩ := h
  have a := h2.all i
  rw [h3 i (Nat.le_refl _)] at a
  have b := mul_bd2 (hy.all i) ⟨hk0, hk1⟩
  refine ⟨by simpa using h1, fun j _ => ?_, fun j hj => ?_, ?_, by omega, by omega⟩
  · rw [getD_set]; split
    · omega
    · exact h2.all j
  · rw [getD_set, if_neg (by omega)]; exact h3 j (by omega)
  · rw [val_take_next, val_take_next, val_take_next, getD_set, if_pos ⟨rfl, by omega⟩, List.take_set_of_le (Nat.le_refl _)]
    generalize rs.getD i 0 = d at *
    generalize ys.getD i 0 = y at *
    generalize val (out.take i) = vo at *
    generalize val (rs.take i) = vr at *
    generalize val (ys.take i) = vy at *
    rw [Int.pow_succ]
    generalize (1000000000 : Int) ^ i = p at *
    have e : (d - y * k + cr) % 1000000000 * p + (d - y * k + cr) / 1000000000 * (p * 1000000000) = (d - y * k + cr) * p := by
      rw [Int.mul_comm p 1000000000, ← Int.mul_assoc, ← Int.add_mul]
      congr 1
      omega
    have e2 : (d - y * k + cr) * p = d * p - k * (y * p) + cr * p := by
      rw [Int.add_mul, Int.sub_mul, Int.mul_comm y k, Int.mul_assoc]
    have e3 : k * (vy + y * p) = k * vy + k * (y * p) := Int.mul_add _ _ _
    omega

theorem D1.done {rs ys out : List Int} {k cr : Int} (h : D1 rs ys k rs.length cr out) (hl : ys.length ≤ rs.length) (hle : k * val ys ≤ val rs) : Dig out ∧ val out = val rs - k * val ys := by
  obtain ⟨h1, h2, h3, h4, h5, h6⟩ := h
  rw [← h1, List.take_length, h1, List.take_length, val_take_all ys hl] at h4
  refine ⟨h2, ?_⟩
  have hlt := val_lt h2
  rw [h1] at hlt
  have hp : (0 : Int) < 1000000000 ^ rs.length := Int.pow_pos (by decide)
  generalize (1000000000 : Int) ^ rs.length = p at *
  have : cr = 0 := by
    apply Decidable.byContradiction
    intro hc
    have : cr * p ≤ -1 * p := Int.mul_le_mul_of_nonneg_right (by omega) (by omega)
    omega
  subst this
  omega

end Go.Proofs.Ytkfkdkoohnfgaaa
