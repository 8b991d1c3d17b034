/-
  DERIVED. Plain law of the division of long integers, digit by digit (Knuth's algorithm D).
-/
import Derived.Test.YtkfkdkoohnfgaaaSizeF
namespace Go.Proofs.Ytkfkdkoohnfgaaa
open Go.RowKit

/-- the highest digits of what is divided, and of the divisor -/
def Tops (U V P u0 u1 u2 v0 v1 : Int) : Prop :=
  ∃ lo lv : Int, 0 ≤ lo ∧ lo < P ∧ 0 ≤ lv ∧ lv < P ∧ U = lo + P * (u0 + 1000000000 * (u1 + 1000000000 * u2)) ∧ V = lv + P * (v0 + 1000000000 * v1) ∧
    0 ≤ u0 ∧ u0 < 1000000000 ∧ 0 ≤ u1 ∧ u1 < 1000000000 ∧ 0 ≤ u2 ∧ u2 < 1000000000 ∧ 0 ≤ v0 ∧ v0 < 1000000000 ∧ 1 ≤ v1 ∧ v1 < 1000000000 ∧ U < V * 1000000000

theorem Tops.V_pos {U V P u0 u1 u2 v0 v1 : Int} (h : Tops U V P u0 u1 u2 v0 v1) : 0 < V := by
  obtain ⟨lo, lv, h1, h2, h3, h4, hU, hV, a1, a2, a3, a4, a5, a6, a7, a8, a9, a10, hlt⟩ := h
  have : P * 1 ≤ P * (v0 + 1000000000 * v1) := Int.mul_le_mul_of_nonneg_left (by omega) (by omega)
  omega

theorem Tops.u2_le {U V P u0 u1 u2 v0 v1 : Int} (h : Tops U V P u0 u1 u2 v0 v1) : u2 ≤ v1 := by
  obtain ⟨lo, lv, h1, h2, h3, h4, hU, hV, a1, a2, a3, a4, a5, a6, a7, a8, a9, a10, hlt⟩ := h
  apply Decidable.byContradiction
  intro hn
  have k1 : P * (1000000000 * (1000000000 * (v1 + 1))) ≤ P * (u0 + 1000000000 * (u1 + 1000000000 * u2)) := Int.mul_le_mul_of_nonneg_left (by omega) (by omega)
  have k2 : P * (v0 + 1000000000 * v1) ≤ P * (1000000000 * (v1 + 1) - 1) := Int.mul_le_mul_of_nonneg_left (by omega) (by omega)
  rw [Int.mul_sub, Int.mul_one] at k2
  have k3 : P * (1000000000 * (1000000000 * (v1 + 1))) = 1000000000 * (P * (1000000000 * (v1 + 1))) := by rw [Int.mul_left_comm]
  omega

/-- the estimate: not less than the digit -/
def Est (U V top v1 d rest : Int) : Prop := top = d * v1 + rest ∧ 0 ≤ rest ∧ 0 ≤ d ∧ U / V ≤ d

theorem Est.start {U V P u0 u1 u2 v0 v1 : Int} (h : Tops U V P u0 u1 u2 v0 v1) : Est U V (u2 * 1000000000 + u1) v1 ((u2 * 1000000000 + u1) / v1) ((u2 * 1000000000 + u1) % v1) ∧ (u2 * 1000000000 + u1) / v1 ≤ 2000000000 ∧ (u2 * 1000000000 + u1) % v1 < v1 := by
  have hVp := h.V_pos
  have hu2 := h.u2_le
  obtain ⟨lo, lv, h1, h2, h3, h4, hU, hV, a1, a2, a3, a4, a5, a6, a7, a8, a9, a10, hlt⟩ := h
  have e := Int.mul_ediv_add_emod (u2 * 1000000000 + u1) v1
  have r0 := Int.emod_nonneg (u2 * 1000000000 + u1) (show v1 ≠ 0 by omega)
  have r1 := Int.emod_lt_of_pos (u2 * 1000000000 + u1) (show 0 < v1 by omega)
  have d0 : 0 ≤ (u2 * 1000000000 + u1) / v1 := Int.ediv_nonneg (by omega) (by omega)
  have d1 : (u2 * 1000000000 + u1) / v1 ≤ 2000000000 := by
    have : (u2 * 1000000000 + u1) / v1 < 2000000001 := Int.ediv_lt_of_lt_mul (by omega) (by omega)
    omega
  generalize (u2 * 1000000000 + u1) / v1 = d at *
  generalize (u2 * 1000000000 + u1) % v1 = r at *
  refine ⟨⟨by rw [← e, Int.mul_comm], r0, d0, ?_⟩, d1, r1⟩
  have : U / V < d + 1 := by
    refine Int.ediv_lt_of_lt_mul hVp ?_
    -- U < (d + 1) V
    have k1 : (d + 1) * (P * (1000000000 * v1)) ≤ (d + 1) * V := Int.mul_le_mul_of_nonneg_left (by
      have : P * (1000000000 * v1) ≤ P * (v0 + 1000000000 * v1) := Int.mul_le_mul_of_nonneg_left (by omega) (by omega)
      omega) (by omega)
    have k2 : (d + 1) * (P * (1000000000 * v1)) = P * (1000000000 * (v1 * d + v1)) := by
      rw [Int.mul_left_comm, show (d + 1) * (1000000000 * v1) = 1000000000 * ((d + 1) * v1) by rw [Int.mul_left_comm], Int.add_mul, Int.one_mul, Int.mul_comm d]
    have k3 : P * (u0 + 1000000000 * (u1 + 1000000000 * u2) + 1) ≤ P * (1000000000 * (v1 * d + v1)) := Int.mul_le_mul_of_nonneg_left (by omega) (by omega)
    rw [Int.mul_add P _ 1, Int.mul_one] at k3
    omega
  omega

theorem Est.next {U V P u0 u1 u2 v0 v1 d rest : Int} (h : Tops U V P u0 u1 u2 v0 v1) (he : Est U V (u2 * 1000000000 + u1) v1 d rest) (hc : 1000000000 ≤ d ∨ rest * 1000000000 + u0 < d * v0) :
    Est U V (u2 * 1000000000 + u1) v1 (d - 1) (rest + v1) ∧ 1 ≤ d := by
  have hVp := h.V_pos
  obtain ⟨lo, lv, h1, h2, h3, h4, hU, hV, a1, a2, a3, a4, a5, a6, a7, a8, a9, a10, hlt⟩ := h
  obtain ⟨e1, e2, e3, e4⟩ := he
  have hq0 : 0 ≤ U / V := Int.ediv_nonneg (by
    have : 0 ≤ P * (u0 + 1000000000 * (u1 + 1000000000 * u2)) := Int.mul_nonneg (by omega) (by omega)
    omega) (by omega)
  have hq : U / V < d := by
    rcases hc with hc | hc
    · have : U / V < 1000000000 := Int.ediv_lt_of_lt_mul hVp (by rw [Int.mul_comm]; omega)
      omega
    · apply Decidable.byContradiction
      intro hn
      have k0 : d * V ≤ U := by
        have := Int.mul_le_mul_of_nonneg_right (show d ≤ U / V by omega) (show 0 ≤ V by omega)
        have := Int.ediv_mul_le U (show V ≠ 0 by omega)
        omega
      have k1 : d * (P * (v0 + 1000000000 * v1)) ≤ d * V := Int.mul_le_mul_of_nonneg_left (by omega) e3
      have k2 : d * (P * (v0 + 1000000000 * v1)) = P * (d * v0 + 1000000000 * (d * v1)) := by
        rw [Int.mul_left_comm, Int.mul_add, show d * (1000000000 * v1) = 1000000000 * (d * v1) by rw [Int.mul_left_comm]]
      have k3 : P * (u0 + 1000000000 * (u1 + 1000000000 * u2) + 1) ≤ P * (d * v0 + 1000000000 * (d * v1)) := Int.mul_le_mul_of_nonneg_left (by omega) (by omega)
      rw [Int.mul_add P _ 1, Int.mul_one] at k3
      omega
  refine ⟨⟨by rw [Int.sub_mul, Int.one_mul]; omega, by omega, by omega, by omega⟩, by omega⟩

/-- the estimate is the digit, or one more -/
theorem Est.done {U V P u0 u1 u2 v0 v1 d rest : Int} (h : Tops U V P u0 u1 u2 v0 v1) (he : Est U V (u2 * 1000000000 + u1) v1 d rest) (hc : (d < 1000000000 ∧ d * v0 ≤ rest * 1000000000 + u0) ∨ 1000000000 ≤ rest) :
    d < 1000000000 ∧ (d = U / V ∨ d = U / V + 1) := by
  have hVp := h.V_pos
  have hu2 := h.u2_le
  obtain ⟨lo, lv, h1, h2, h3, h4, hU, hV, a1, a2, a3, a4, a5, a6, a7, a8, a9, a10, hlt⟩ := h
  obtain ⟨e1, e2, e3, e4⟩ := he
  have hd : d < 1000000000 := by
    rcases hc with hc | hc
    · exact hc.1
    · apply Decidable.byContradiction
      intro hn
      have : 1000000000 * v1 ≤ d * v1 := Int.mul_le_mul_of_nonneg_right (by omega) (by omega)
      omega
  have hv : d * v0 ≤ rest * 1000000000 + u0 := by
    rcases hc with hc | hc
    · exact hc.2
    · have : d * v0 ≤ 999999999 * v0 := Int.mul_le_mul_of_nonneg_right (by omega) (by omega)
      omega
  refine ⟨hd, ?_⟩
  have key : d * V < U + V := by
    have k1 : d * lv ≤ d * P := Int.mul_le_mul_of_nonneg_left (by omega) e3
    have k2 : d * P ≤ 999999999 * P := Int.mul_le_mul_of_nonneg_right (by omega) (by omega)
    have k3 : d * V = d * lv + P * (d * v0 + 1000000000 * (d * v1)) := by
      rw [hV, Int.mul_add, Int.mul_left_comm d P, Int.mul_add d v0, show d * (1000000000 * v1) = 1000000000 * (d * v1) by rw [Int.mul_left_comm]]
    have k4 : P * (d * v0 + 1000000000 * (d * v1)) ≤ P * (u0 + 1000000000 * (u1 + 1000000000 * u2)) := Int.mul_le_mul_of_nonneg_left (by omega) (by omega)
    have k5 : P * (1000000000 * 1) ≤ P * (v0 + 1000000000 * v1) := Int.mul_le_mul_of_nonneg_left (by omega) (by omega)
    omega
  have hge : d - 1 ≤ U / V := (Int.le_ediv_iff_mul_le hVp).2 (by rw [Int.sub_mul, Int.one_mul]; omega)
  omega

/-- the digit that was subtracted, and perhaps added again -/
theorem sub_done {U V d vo cr p : Int} (hV : 0 < V) (hU : 0 ≤ U) (hd : d = U / V ∨ d = U / V + 1) (h0 : 0 ≤ vo) (h1 : vo < p) (hc : cr = 0 ∨ cr = -1) (hv : vo = U - d * V - cr * p) :
    (cr = 0 → d = U / V ∧ vo = U % V) ∧ (cr = -1 → d = U / V + 1 ∧ ∀ vo2 cr2 : Int, 0 ≤ vo2 → vo2 < p → (cr2 = 0 ∨ cr2 = 1) → vo2 = vo + V - cr2 * p → vo2 = U % V) := by
  have e := Int.mul_ediv_add_emod U V
  have r0 := Int.emod_nonneg U (show V ≠ 0 by omega)
  have r1 := Int.emod_lt_of_pos U hV
  have hq : 0 ≤ U / V := Int.ediv_nonneg hU (by omega)
  rw [Int.mul_comm] at e
  generalize U / V = q at *
  generalize U % V = r at *
  have e2 : (q + 1) * V = q * V + V := by rw [Int.add_mul, Int.one_mul]
  constructor
  · rintro rfl
    rcases hd with rfl | rfl
    · exact ⟨rfl, by omega⟩
    · exfalso; rw [e2] at hv; omega
  · rintro rfl
    rcases hd with rfl | rfl
    · exfalso; omega
    · refine ⟨rfl, fun vo2 cr2 g0 g1 g2 g3 => ?_⟩
      rw [e2] at hv
      rcases g2 with rfl | rfl
      · omega
      · omega

/-- ahead of round j: what is left, and the digits of the quotient from place j on -/
def KD (L : Nat) (vs : List Int) (W : Int) (j : Nat) (us qs : List Int) : Prop :=
  us.length = L ∧ Dig us ∧ qs.length + vs.length = L ∧ Dig qs ∧ W = val us + val vs * (1000000000 ^ j * val (qs.drop j)) ∧ val us < val vs * 1000000000 ^ j

theorem KD.start {L : Nat} {vs us : List Int} {W : Int} (h1 : us.length = L) (h2 : Dig us) (hl : vs.length ≤ L) (hW : W = val us) (hlt : val us < val vs * 1000000000 ^ (L - vs.length)) : KD L vs W (L - vs.length) us (List.replicate (L - vs.length) 0) := by
  refine ⟨h1, h2, by simp; omega, fun j _ => by rw [getD_rep]; omega, ?_, hlt⟩
  rw [hW, List.drop_of_length_le (by simp)]; simp [val]

theorem KD.win {L : Nat} {vs us qs : List Int} {W : Int} {j : Nat} (h : KD L vs W (j + 1) us qs) (hj : j + vs.length + 1 ≤ L) (hv : Dig vs) :
    0 ≤ val ((us.drop j).take (vs.length + 1)) ∧ val ((us.drop j).take (vs.length + 1)) < val vs * 1000000000 ∧ val (us.drop (j + (vs.length + 1))) = 0 ∧ val us = val (us.take j) + 1000000000 ^ j * val ((us.drop j).take (vs.length + 1)) := by
  obtain ⟨h1, h2, h3, h4, h5, h6⟩ := h
  have hw := val_win us (j := j) (n := vs.length + 1) (by omega)
  have n1 := val_nonneg (h2.take j)
  have n2 := val_nonneg ((h2.drop j).take (vs.length + 1))
  have n3 := val_nonneg (h2.drop (j + (vs.length + 1)))
  have l1 := val_lt hv
  have p0 : (0 : Int) < 1000000000 ^ j := Int.pow_pos (by decide)
  have p1 : (0 : Int) < 1000000000 ^ (vs.length + 1) := Int.pow_pos (by decide)
  have e1 : (1000000000 : Int) ^ (vs.length + 1) = 1000000000 ^ vs.length * 1000000000 := Int.pow_succ ..
  rw [Int.pow_succ] at h6
  generalize val ((us.drop j).take (vs.length + 1)) = U at *
  generalize val (us.drop (j + (vs.length + 1))) = R at *
  generalize val (us.take j) = T at *
  generalize val vs = V at *
  have hlt : U + 1000000000 ^ (vs.length + 1) * R < V * 1000000000 := by
    apply Int.lt_of_mul_lt_mul_left (a := 1000000000 ^ j) _ (by omega)
    rw [show 1000000000 ^ j * (V * 1000000000) = V * (1000000000 ^ j * 1000000000) by rw [Int.mul_left_comm]]
    omega
  have hR : R = 0 := by
    apply Decidable.byContradiction
    intro hn
    have : 1000000000 ^ (vs.length + 1) * 1 ≤ 1000000000 ^ (vs.length + 1) * R := Int.mul_le_mul_of_nonneg_left (by omega) (by omega)
    have : V * 1000000000 ≤ 1000000000 ^ vs.length * 1000000000 := Int.mul_le_mul_of_nonneg_right (by omega) (by omega)
    omega
  subst hR
  rw [Int.mul_zero, Int.add_zero] at hw hlt
  exact ⟨n2, hlt, rfl, hw⟩

theorem KD.step {L : Nat} {vs us qs out : List Int} {W : Int} {j : Nat} (h : KD L vs W (j + 1) us qs) (hj : j + vs.length + 1 ≤ L) (hv : Dig vs) (hV : 0 < val vs) (hol : out.length = vs.length + 1) (hod : Dig out)
    (ho : val out = val ((us.drop j).take (vs.length + 1)) % val vs) : KD L vs W j (spl us j out) (qs.set j (val ((us.drop j).take (vs.length + 1)) / val vs)) := by
  obtain ⟨w1, w2, w3, w4⟩ := h.win hj hv
  obtain ⟨h1, h2, h3, h4, h5, h6⟩ := h
  have e := Int.mul_ediv_add_emod (val ((us.drop j).take (vs.length + 1))) (val vs)
  have r1 := Int.emod_lt_of_pos (val ((us.drop j).take (vs.length + 1))) hV
  have hq0 : 0 ≤ val ((us.drop j).take (vs.length + 1)) / val vs := Int.ediv_nonneg w1 (by omega)
  have hq1 : val ((us.drop j).take (vs.length + 1)) / val vs < 1000000000 := Int.ediv_lt_of_lt_mul hV (by rw [Int.mul_comm]; exact w2)
  have hs := val_spl (us := us) (out := out) (j := j) (by omega)
  rw [hol, w3, Int.mul_zero, Int.add_zero, ho] at hs
  have hT := val_lt (h2.take j)
  have hTl : (us.take j).length = j := by simp; omega
  rw [hTl] at hT
  generalize hU : val ((us.drop j).take (vs.length + 1)) = U at *
  generalize U / val vs = q at *
  generalize U % val vs = r at *
  refine ⟨by rw [spl_len (by omega)]; exact h1, dig_spl h2 hod, by simpa using h3, fun i _ => ?_, ?_, ?_⟩
  · rw [getD_set]; split
    · omega
    · exact h4.all i
  · rw [h5, hs, w4, val_drop (l := qs.set j q) (by simp; omega), getD_set, if_pos ⟨rfl, by omega⟩, List.drop_set_of_lt (by omega), ← e, Int.pow_succ]
    generalize val (us.take j) = T at *
    generalize (1000000000 : Int) ^ j = p at *
    generalize val (qs.drop (j + 1)) = Z at *
    generalize val vs = V at *
    have x1 : p * (V * q + r) = p * (V * q) + p * r := Int.mul_add ..
    have x2 : V * (p * (q + 1000000000 * Z)) = p * (V * q) + V * (p * 1000000000 * Z) := by
      rw [Int.mul_add p, Int.mul_add V, Int.mul_left_comm V p q, Int.mul_assoc p]
    omega
  · rw [hs]
    generalize val (us.take j) = T at *
    have : 1000000000 ^ j * r ≤ 1000000000 ^ j * (val vs - 1) := Int.mul_le_mul_of_nonneg_left (by omega) (Int.le_of_lt (Int.pow_pos (by decide)))
    rw [Int.mul_sub, Int.mul_one, Int.mul_comm _ (val vs)] at this
    omega

theorem tops_of {win vs : List Int} (hl : win.length = vs.length + 1) (hn : 2 ≤ vs.length) (hw : Dig win) (hv : Dig vs) (h1 : 1 ≤ vs.getD (vs.length - 1) 0) (hlt : val win < val vs * 1000000000) :
    Tops (val win) (val vs) (1000000000 ^ (vs.length - 2)) (win.getD (vs.length - 2) 0) (win.getD (vs.length - 1) 0) (win.getD vs.length 0) (vs.getD (vs.length - 2) 0) (vs.getD (vs.length - 1) 0) := by
  obtain ⟨k, hk⟩ : ∃ k, vs.length = k + 2 := ⟨vs.length - 2, by omega⟩
  rw [hk, show k + 2 - 1 = k + 1 by omega] at h1
  rw [hk, show k + 2 - 1 = k + 1 by omega, Nat.add_sub_cancel]
  rw [hk] at hl
  have a0 := hw.all k; have a1 := hw.all (k + 1); have a2 := hw.all (k + 2)
  have b0 := hv.all k; have b1 := hv.all (k + 1)
  refine ⟨val (win.take k), val (vs.take k), val_nonneg (hw.take k), ?_, val_nonneg (hv.take k), ?_, ?_, ?_, a0.1, a0.2, a1.1, a1.2, a2.1, a2.2, b0.1, b0.2, h1, b1.2, hlt⟩
  · have := val_lt (hw.take k)
    rwa [show (win.take k).length = k by simp; omega] at this
  · have := val_lt (hv.take k)
    rwa [show (vs.take k).length = k by simp; omega] at this
  · have e := val_append (win.take k) (win.drop k)
    rw [List.take_append_drop, show (win.take k).length = k by simp; omega, val_drop (by omega), val_drop (by omega), val_drop (by omega), List.drop_of_length_le (by omega)] at e
    rw [e]; simp [val]
  · have e := val_append (vs.take k) (vs.drop k)
    rw [List.take_append_drop, show (vs.take k).length = k by simp; omega, val_drop (by omega), val_drop (by omega), List.drop_of_length_le (by omega)] at e
    rw [e]; simp [val]

theorem win_get {us : List Int} {j n i : Nat} (hi : i < n) : ((us.drop j).take n).getD i 0 = us.getD (j + i) 0 := by
  rw [getD_take hi]
  simp only [List.getD_eq_getElem?_getD, List.getElem?_drop]

/-- the factor that makes the highest digit great -/
theorem scale_ok {y m : Nat} {bt f : Int} (hm : (digs y).length = m + 1) (hb : (digs y).getD m 0 = bt) (hf : f = 1000000000 / (bt + 1)) :
    1 ≤ bt ∧ bt < 1000000000 ∧ 1 ≤ f ∧ f < 1000000000 ∧ (y : Int) * f < 1000000000 ^ (m + 1) ∧ 1000000000 ^ m ≤ (y : Int) := by
  have hd := dig_digs y
  have ht := top_digs y (by omega)
  rw [hm, Nat.add_sub_cancel, hb] at ht
  have a := hd.all m
  rw [hb] at a
  have e := val_take_succ (l := digs y) (k := m) (by omega)
  rw [List.take_of_length_le (by omega), val_digs, hb] at e
  have l := val_lt (hd.take m)
  rw [show ((digs y).take m).length = m by simp; omega] at l
  have n := val_nonneg (hd.take m)
  have hp : (0 : Int) < 1000000000 ^ m := Int.pow_pos (by decide)
  have f1 : 1 ≤ f := by rw [hf]; exact (Int.le_ediv_iff_mul_le (by omega)).2 (by omega)
  have f2 : f * (bt + 1) ≤ 1000000000 := by rw [hf]; exact Int.ediv_mul_le _ (by omega)
  have f3 : f < 1000000000 := by
    have : f * 2 ≤ f * (bt + 1) := Int.mul_le_mul_of_nonneg_left (by omega) (by omega)
    omega
  refine ⟨by omega, a.2, f1, f3, ?_, ?_⟩
  · have k1 : (y : Int) * f < (bt + 1) * 1000000000 ^ m * f := Int.mul_lt_mul_of_pos_right (by rw [Int.add_mul, Int.one_mul]; omega) (by omega)
    have k2 : (bt + 1) * 1000000000 ^ m * f = (f * (bt + 1)) * 1000000000 ^ m := by rw [Int.mul_comm _ f, ← Int.mul_assoc]
    have k3 : (f * (bt + 1)) * 1000000000 ^ m ≤ 1000000000 * 1000000000 ^ m := Int.mul_le_mul_of_nonneg_right f2 (by omega)
    rw [Int.pow_succ]
    omega
  · have : 1 * (1000000000 : Int) ^ m ≤ bt * 1000000000 ^ m := Int.mul_le_mul_of_nonneg_right (by omega) (by omega)
    omega

theorem scaled {vs : List Int} {M : Nat} {Y : Int} (hl : vs.length = M + 1 + 1) (hd : Dig vs) (hv : val vs = Y) (h1 : Y < 1000000000 ^ (M + 1)) (h2 : 1000000000 ^ M ≤ Y) :
    val (vs.take (M + 1)) = Y ∧ 1 ≤ (vs.take (M + 1)).getD M 0 ∧ (vs.take (M + 1)).length = M + 1 ∧ Dig (vs.take (M + 1)) := by
  have e := val_append (vs.take (M + 1)) (vs.drop (M + 1))
  have hL : (vs.take (M + 1)).length = M + 1 := by simp; omega
  rw [List.take_append_drop, hv, hL] at e
  have n1 := val_nonneg (hd.take (M + 1))
  have n2 := val_nonneg (hd.drop (M + 1))
  have p1 : (0 : Int) < 1000000000 ^ (M + 1) := Int.pow_pos (by decide)
  have p0 : (0 : Int) < 1000000000 ^ M := Int.pow_pos (by decide)
  have hz : val (vs.drop (M + 1)) = 0 := by
    apply Decidable.byContradiction
    intro hn
    have : 1000000000 ^ (M + 1) * 1 ≤ 1000000000 ^ (M + 1) * val (vs.drop (M + 1)) := Int.mul_le_mul_of_nonneg_left (by omega) (by omega)
    omega
  rw [hz, Int.mul_zero, Int.add_zero] at e
  refine ⟨e.symm, ?_, hL, hd.take _⟩
  have e2 := val_take_succ (l := vs) (k := M) (by omega)
  have l2 := val_lt (hd.take M)
  rw [show (vs.take M).length = M by simp; omega] at l2
  rw [getD_take (by omega)]
  apply Decidable.byContradiction
  intro hn
  have a := hd.all M
  have hz2 : vs.getD M 0 = 0 := by omega
  rw [hz2, Int.zero_mul] at e2
  omega

theorem scaled_lt {x n M : Nat} {f Y y : Int} (hx : x < 1000000000 ^ n) (hM : M ≤ n) (hf : 1 ≤ f) (hy : 1000000000 ^ M ≤ y) (hY : Y = y * f) : (x : Int) * f < Y * 1000000000 ^ (n - M) := by
  have h1 : (x : Int) < 1000000000 ^ n := by
    have := Int.ofNat_lt.2 hx
    rwa [Int.natCast_pow] at this
  have h2 : (1000000000 : Int) ^ n = 1000000000 ^ M * 1000000000 ^ (n - M) := by rw [← Int.pow_add, Nat.add_sub_cancel' hM]
  have h3 : (1000000000 : Int) ^ M * 1000000000 ^ (n - M) ≤ y * 1000000000 ^ (n - M) := Int.mul_le_mul_of_nonneg_right hy (Int.le_of_lt (Int.pow_pos (by decide)))
  have h4 : (x : Int) * f < y * 1000000000 ^ (n - M) * f := Int.mul_lt_mul_of_pos_right (by omega) (by omega)
  rw [hY, Int.mul_assoc y f, Int.mul_comm f, ← Int.mul_assoc]
  exact h4

theorem KD.stepm {L m : Nat} {vs us qs out : List Int} {W : Int} {j : Nat} (h : KD L vs W (j + 1) us qs) (hm : vs.length = m) (hj : j + m + 1 ≤ L) (hv : Dig vs) (hV : 0 < val vs) (hol : out.length = m + 1) (hod : Dig out)
    (ho : val out = val ((us.drop j).take (m + 1)) % val vs) : KD L vs W j (spl us j out) (qs.set j (val ((us.drop j).take (m + 1)) / val vs)) := by
  subst hm
  exact h.step hj hv hV hol hod ho

theorem spl_win {us out : List Int} {j m : Nat} (hm : out.length = m) (h : j + m ≤ us.length) : ((spl us j out).drop j).take m = out := by
  subst hm
  have h1 : (us.take j).length = j := by simp; omega
  simp only [spl]
  rw [List.append_assoc, List.drop_append, h1, List.drop_of_length_le (by omega), Nat.sub_self, List.drop_zero, List.nil_append, List.take_append, List.take_of_length_le (Nat.le_refl _), Nat.sub_self, List.take_zero, List.append_nil]

theorem spl_spl {us out out2 : List Int} {j m : Nat} (h1 : out.length = m) (h2 : out2.length = m) (h : j + m ≤ us.length) : spl (spl us j out) j out2 = spl us j out2 := by
  have hj : (us.take j).length = j := by simp; omega
  have ht : (spl us j out).take j = us.take j := by
    simp only [spl]
    rw [List.append_assoc, List.take_append, hj, Nat.sub_self, List.take_zero, List.append_nil, List.take_of_length_le (by omega)]
  have hd : (spl us j out).drop (j + m) = us.drop (j + m) := by
    simp only [spl]
    rw [h1, List.drop_append, List.length_append, hj, h1, Nat.sub_self, List.drop_zero, List.drop_of_length_le (by simp; omega), List.nil_append]
  simp only [spl] at ht hd ⊢
  rw [h2, ht, hd]

theorem Blk.only {w w' : World} {g b : Nat} {zs : List Int} (h : Blk w g zs) (ho : OnlyB b w w') (hne : g ≠ b) : Blk w' g zs := by
  obtain ⟨r, h⟩ := h
  exact ⟨r, (ho.block g hne).trans h⟩

theorem Blk.setCell_ne {w : World} {g b : Nat} {zs : List Int} (h : Blk w g zs) (hne : g < b) (i : Nat) (v : Value) : Blk (w.setCell ⟨b, i, none⟩ v) g zs :=
  Cells.other h ⟨b, i, none⟩ (by show b ≠ g; omega) v

theorem kd_end {x y f u q : Int} (hf : 1 ≤ f) (hy : 0 < y) (h : x * f = u + y * f * q) (h0 : 0 ≤ u) (h1 : u < y * f) : q = x / y ∧ u = x % y * f := by
  have e : u = (x - y * q) * f := by
    rw [Int.sub_mul, Int.mul_assoc y q f, Int.mul_comm q f, ← Int.mul_assoc]; omega
  have t0 : 0 ≤ x - y * q := by
    apply Decidable.byContradiction
    intro hn
    have : (x - y * q) * f ≤ -1 * f := Int.mul_le_mul_of_nonneg_right (by omega) (by omega)
    omega
  have t1 : x - y * q < y := Int.lt_of_mul_lt_mul_right (a := f) (by omega) (by omega)
  have hx : x = (x - y * q) + y * q := by omega
  generalize x - y * q = t at *
  subst hx
  refine ⟨?_, ?_⟩
  · rw [Int.add_mul_ediv_left _ _ (by omega), Int.ediv_eq_zero_of_lt t0 t1, Int.zero_add]
  · rw [Int.add_mul_emod_self_left, Int.emod_eq_of_lt t0 t1, e]

theorem val_take_of_lt {l : List Int} {k : Nat} (hd : Dig l) (hk : k ≤ l.length) (h : val l < 1000000000 ^ k) : val (l.take k) = val l := by
  have e := val_append (l.take k) (l.drop k)
  rw [List.take_append_drop, show (l.take k).length = k by simp; omega] at e
  have n1 := val_nonneg (hd.take k)
  have n2 := val_nonneg (hd.drop k)
  have hz : val (l.drop k) = 0 := by
    apply Decidable.byContradiction
    intro hn
    have : 1000000000 ^ k * 1 ≤ 1000000000 ^ k * val (l.drop k) := Int.mul_le_mul_of_nonneg_left (by omega) (Int.le_of_lt (Int.pow_pos (by decide)))
    omega
  rw [hz, Int.mul_zero, Int.add_zero] at e
  exact e.symm

end Go.Proofs.Ytkfkdkoohnfgaaa
