/-
  DERIVED. Several texts in one: YieldC, YieldD, YieldE, YieldF, YieldG, YieldH, LawA, LensD, SurfA, SurfC, SurfD.
-/
import Derived.Test.YthommhfppeonpaaGreatDoorGab
import Derived.BigRegion
import Derived.Defers
import Derived.Recover
import Derived.Test.YthommhfppeonpaaGreatDoorGaa
import Derived.Deep.MidRow
import Derived.Laws.ResultCell
import Derived.Laws.Rows
import Derived.Deep.DeepCutAuto
import Derived.Deep.CutBlock
namespace Go.Proofs.YthommhfppeonpaaGreatDoor
open Go.RowKit

/-- the number of choices of k out of n -/
def ch : Nat → Nat → Nat
  | _, 0 => 1
  | 0, _ + 1 => 0
  | n + 1, k + 1 => ch n k + ch n (k + 1)

theorem ch_zero (n : Nat) : ch n 0 = 1 := by cases n <;> rfl
theorem ch_succ (n k : Nat) : ch (n + 1) (k + 1) = ch n k + ch n (k + 1) := rfl
theorem ch_gt : ∀ (n k : Nat), n < k → ch n k = 0
  | 0, k + 1, _ => rfl
  | n + 1, k + 1, h => by rw [ch_succ, ch_gt n k (by omega), ch_gt n (k + 1) (by omega)]
theorem ch_self (n : Nat) : ch n n = 1 := by
  induction n with
  | zero => rfl
  | succ n ih => rw [ch_succ, ih, ch_gt n (n + 1) (by omega)]
theorem ch_le : ∀ (n k : Nat), ch n k ≤ 2 ^ n
  | n, 0 => by rw [ch_zero]; exact Nat.one_le_two_pow
  | 0, k + 1 => by rw [ch_gt 0 (k + 1) (by omega)]; omega
  | n + 1, k + 1 => by rw [ch_succ, Nat.pow_succ]; have := ch_le n k; have := ch_le n (k + 1); omega
theorem ch_fit {n : Nat} (h : n ≤ 200) (k : Nat) : (digs ((ch n k : Nat) : Int).natAbs).length ≤ 600 := by
  rw [Int.natAbs_natCast]
  refine Nat.le_trans (length_digs_mono (Nat.le_trans (ch_le n k) (Nat.pow_le_pow_right (by omega) h))) ?_
  refine Nat.le_trans (length_digs_le (k := 7) ?_) (by omega)
  decide +kernel

/-- the numbers of choices of 0 to n out of n -/
def bin (n : Nat) : List Int := (List.range (n + 1)).map fun k => ((ch n k : Nat) : Int)
/-- the row under way: those below j are those of n + 1, the others still those of n -/
def mid (n j : Nat) : List Int := (List.range (n + 2)).map fun p => if p < j then ((ch (n + 1) p : Nat) : Int) else ((ch n (p - 1) : Nat) : Int)

theorem length_bin (n : Nat) : (bin n).length = n + 1 := by simp [bin]
theorem length_mid (n j : Nat) : (mid n j).length = n + 2 := by simp [mid]
theorem bin_get (n j : Nat) (h : j ≤ n) : (bin n).getD j 0 = ((ch n j : Nat) : Int) := by
  simp [bin, List.getD_eq_getElem?_getD, List.getElem?_range (show j < n + 1 by omega)]
theorem mid_one (n : Nat) : [1] ++ bin n = mid n 1 := by
  apply List.ext_getElem
  · simp [length_bin, length_mid]
  · intro p h1 h2
    cases p with
    | zero => simp [mid, ch_zero]
    | succ p => simp [mid, bin]
theorem mid_set (n j : Nat) (h1 : 1 ≤ j) (h2 : j ≤ n) : (mid n j).set j (((ch n (j - 1) : Nat) : Int) + ((ch n j : Nat) : Int)) = mid n (j + 1) := by
  apply List.ext_getElem
  · simp [length_mid]
  · intro p h3 h4
    rw [List.getElem_set]
    by_cases e : j = p
    · subst e
      rw [if_pos rfl]
      obtain ⟨j, rfl⟩ : ∃ i, j = i + 1 := ⟨j - 1, by omega⟩
      simp [mid, ch_succ]
    · rw [if_neg e]
      simp only [mid, List.getElem_map, List.getElem_range]
      by_cases e2 : p < j
      · rw [if_pos e2, if_pos (by omega)]
      · rw [if_neg e2, if_neg (by omega)]
theorem mid_last (n : Nat) : (mid n (n + 1)).set (n + 1) 1 = bin (n + 1) := by
  apply List.ext_getElem
  · simp [length_mid, length_bin]
  · intro p h3 h4
    rw [List.getElem_set]
    rw [length_bin] at h4
    by_cases e : n + 1 = p
    · subst e
      rw [if_pos rfl]
      simp [bin, ch_self]
    · rw [if_neg e]
      simp only [mid, bin, List.getElem_map, List.getElem_range]
      rw [if_pos (by omega)]

set_option maxRecDepth 100000 in
set_option maxHeartbeats 1600000 in
theorem row_any (N : Nat) (w : World) (hN : N ≤ 200) :
    Calls Tryz.prog 40 #[.int .i64 (N : Int)] w (RetR w (bin N)) := by
  go_enter Tryz.func40, Tryz.ntmps40
  go_wp2_with fail
  refine (of_any 1 w (by omega) (by omega)).mono ?_
  rintro e w1 ⟨s, a, n, c, rfl, hlg, hb1, hf1⟩
  go_wp2_with fail
  go_loopw [3, 9] (fun lv kv wr => ∃ (i g cap : Nat), i ≤ N ∧ kv = .int .i64 i ∧ lv = .slice (some ⟨g, 0, none⟩) (i + 1) cap ∧ RowL wr.heap.size w.heap.size wr g cap (bin i) ∧ Below w.heap.size w wr) (fun _ kv _ => N - (intOf kv).toNat)
  case atStart =>
    refine ⟨0, _, _, Nat.zero_le _, rfl, rfl, ?_, hb1.alloc hb1.size _⟩
    have := RowL.one hlg (base := w.heap.size) hb1.size hf1
    simpa [bin, ch] using this
  case round =>
    clear hlg hb1
    obtain ⟨i, g, cap, hi, rfl, rfl, hrow, hbw⟩ := hrel
    by_cases hin : i < N
    · have Hrow := Lib.hid hrow; clear hrow
      obtain ⟨wo, rfl⟩ : ∃ wo : World, wo = wr := ⟨_, rfl⟩
      go_wp2_with fail
      refine (of_any 1 wo (by omega) (by omega)).mono ?_
      rintro e w2 ⟨s2, a2, n2, c2, rfl, hlg2, hb2, hf2⟩
      have hone := RowL.one hlg2 (base := w.heap.size) (Nat.le_trans hbw.size hb2.size) (hf2.mono hbw.size)
      have hb2' := hb2.alloc hb2.size (.cells #[.bool s2, .slice a2 n2 c2] 110)
      go_wp2_with (refine wpList_append_row rfl (.tmp 12) (.tmp 13) rfl (zs := [1]) rfl rfl hone (M := i + 1) (ys := bin i) rfl (by rw [length_bin]) (Hrow.out.keep hb2') hb2.size (Nat.le_refl _) (by rw [length_bin]; omega) (by rw [length_bin]; simp; omega) ?_)
      intro g' cap' w3 hrow3 hgg hbel3
      have e1 : 1 :: bin i = mid i 1 := mid_one i
      rw [e1] at hrow3
      rw [show 1 + (i + 1) = i + 2 by omega]
      have hb3 := hbel3 _ _ hb2.size hb2'
      have hgb : wo.heap.size ≤ g' := Nat.le_trans hb2.size hgg
      clear hbel3 hone hb2' hlg2 hb2 e1 hf2 hgg
      go_wp2_with fail
      go_loopw [5] (fun jv wr => ∃ (q : Nat), q ≤ i ∧ jv = .int .i64 ((q : Int) + 1) ∧ RowL wr.heap.size w.heap.size wr g' cap' (mid i (q + 1)) ∧ Below wo.heap.size wo wr) (fun jv _ => i + 1 - (intOf jv).toNat)
      case atStart => exact ⟨0, Nat.zero_le _, rfl, hrow3, hb3⟩
      case round =>
        clear hrow3 hb3
        obtain ⟨q, hq, rfl, hrow4, hb4⟩ := hrel
        have hgl := Hrow.out.lt
        have hgl4 : g < wr.heap.size := Nat.lt_of_lt_of_le hgl hb4.size
        have hgl' := hrow4.lt
        by_cases hqi : q < i
        · have Hrow4 := Lib.hid hrow4; clear hrow4
          obtain ⟨s1, a1, n1, c1, k1, k2, hl1, _⟩ := ((Hrow.out.keep hb4).mono hb4.size).get (j := q) (by rw [length_bin]; omega)
          obtain ⟨s3, a3, n3, c3, k3, k4, hl3, _⟩ := ((Hrow.out.keep hb4).mono hb4.size).get (j := q + 1) (by rw [length_bin]; omega)
          rw [bin_get _ _ (by omega)] at hl1 hl3
          obtain rfl : s1 = false := by rw [hl1.1]; simp
          obtain rfl : s3 = false := by rw [hl3.1]; simp
          have Hl1 := Lib.hid hl1; have Hl3 := Lib.hid hl3; clear hl1 hl3
          have i1 : (0 : Int) ≤ (q : Int) := by omega
          have i2 : (q : Int) < (i : Int) + 1 := by omega
          have i5 : (0 : Int) ≤ (q : Int) + 1 := by omega
          have i3 : (q : Int) + 1 < (i : Int) + 1 := by omega
          have i4 : (q : Int) + 1 < (i : Int) + 2 := by omega
          have r1 : IntKind.i64.wrap (q : Int) = (q : Int) := IntWalk.i64_in _ (by omega)
          have r2 : ((q : Int) + 1).toNat = q + 1 := by omega
          go_wp2_with fail
          refine wp_region_eager 16 [(0, true), (1, true), (2, true), (3, true), (4, true), (5, true), (6, true), (7, true), (8, true), (9, true), (10, true), (11, false), (12, true), (13, true), (14, false), (15, true)] (by kernel_rfl) (by kernel_rfl) ?_
          iterate 11
            refine wpOrd_yield (v := ?_) rfl (fun _ _ _ h => h) (by rfl) ?_ ?_
            rotate_left
            · intro x hx
              have q1 := (hx.cell (p := ⟨g, q * 2, none⟩) hgl4).trans k1
              have q2 := (hx.cell (p := ⟨g, q * 2 + 1, none⟩) hgl4).trans k2
              have q3 := (hx.cell (p := ⟨g, (q + 1) * 2, none⟩) hgl4).trans k3
              have q4 := (hx.cell (p := ⟨g, (q + 1) * 2 + 1, none⟩) hgl4).trans k4
              go_simp
              with_reducible rfl
            try simp only [Act.put, List.setIfInBounds_toArray, List.set_cons_zero, List.set_cons_succ]
          have f1 : (digs ((((ch i q : Nat) : Int) + ((ch i (q + 1) : Nat) : Int))).natAbs).length ≤ 600 := by
            have := ch_fit (n := i + 1) (by omega) (q + 1)
            rw [ch_succ, Int.natCast_add] at this
            exact this
          have F1 := Lib.hid f1; clear f1
          refine wpOrd_step rfl rfl (fun K hK => ?_)
          go_simp
          refine (add_same false _ _ a1 a3 n1 n3 c1 c3 _ (by exact Hl1.out) (by exact Hl3.out) F1.out).mono ?_
          rintro e w4 ⟨s5, a5, n5, c5, rfl, hl5, hb5, hf5⟩
          refine hK _ _ hb5 ?_
          clear hK K
          try simp only [Act.put, List.setIfInBounds_toArray, List.set_cons_zero, List.set_cons_succ]
          iterate 2
            refine wpOrd_yield (v := ?_) rfl (fun _ _ _ h => h) (by rfl) ?_ ?_
            rotate_left
            · intro x hx
              go_simp
              with_reducible rfl
            try simp only [Act.put, List.setIfInBounds_toArray, List.set_cons_zero, List.set_cons_succ]
          refine wpOrd_step rfl rfl (fun K hK => ?_)
          go_simp
          refine (mustL_ok s5 a5 n5 c5 _).mono ?_
          rintro e w5 ⟨rfl, hb6⟩
          refine hK _ _ hb6 ?_
          clear hK K
          have hb45 : Below wr.heap.size wr w5 := (below_undrew (k := 1) hb5).trans (hb6.mono hb5.size)
          have hrow5 := Hrow4.out.go hb45
          have hset := hrow5.set (j := q + 1) (by rw [length_mid]; omega) (hl5.go hb6) (fun b off e h0 => by have := hf5 b off e h0; have : wr.heap.size ≤ b := this; omega) (hf5.mono (Nat.le_trans hbw.size hb4.size))
          have u1 := hrow5.free ((q + 1) * 2)
          have u2 := hrow5.free ((q + 1) * 2 + 1)
          obtain ⟨s6, a6, n6, c6, u3, u4, _⟩ := hrow5.get (j := q + 1) (by rw [length_mid]; omega)
          try simp only [Act.put, List.setIfInBounds_toArray, List.set_cons_zero, List.set_cons_succ]
          iterate 1
            refine wpOrd_yield (v := ?_) rfl (fun _ _ _ h => h) (by rfl) ?_ ?_
            rotate_left
            · intro x hx
              go_simp
              with_reducible rfl
            try simp only [Act.put, List.setIfInBounds_toArray, List.set_cons_zero, List.set_cons_succ]
          refine wpOrd_nil rfl ?_
          have Hset := Lib.hid hset; clear hset hrow5
          go_wp2
          go_roundw
          case rel =>
            refine ⟨q + 1, by omega, by go_num, ?_, ((hb4.trans (hb45.mono hb4.size)).setCell hgb _).setCell hgb _⟩
            have := Hset.out
            have e2 := mid_set i (q + 1) (by omega) (by omega)
            rw [Nat.add_sub_cancel] at e2
            rw [e2] at this
            exact this
          case measure => simp [intOf]; omega
        · obtain rfl : q = i := by omega
          have Hrow4 := Lib.hid hrow4; clear hrow4
          go_wp2_with fail
          refine (of_any 1 wr (by omega) (by omega)).mono ?_
          rintro e w4 ⟨s5, a5, n5, c5, rfl, hl5, hb5, hf5⟩
          have hrow5 := Hrow4.out.go hb5
          have hset := hrow5.set (j := q + 1) (by rw [length_mid]; omega) hl5 (fun b off e h0 => by have := hf5 b off e h0; omega) (hf5.mono (Nat.le_trans hbw.size hb4.size))
          rw [mid_last] at hset
          have u1 := hrow5.free ((q + 1) * 2)
          have u2 := hrow5.free ((q + 1) * 2 + 1)
          obtain ⟨s6, a6, n6, c6, u3, u4, _⟩ := hrow5.get (j := q + 1) (by rw [length_mid]; omega)
          have r2 : ((q : Int) + 1).toNat = q + 1 := by omega
          have Hset := Lib.hid hset; clear hset hrow5
          go_wp2
          go_roundw
          case rel =>
            refine ⟨q + 1, g', cap', by omega, by go_num, rfl, Hset.out, hbw.trans ((((hb4.trans (hb5.mono hb4.size)).setCell hgb _).setCell hgb _).mono hbw.size)⟩
          case measure => simp [intOf]; omega
    · obtain rfl : i = N := by omega
      go_wp2
      go_ret
      refine ⟨g, cap, ?_, hrow, hbw⟩
      rw [length_bin]
      rfl

end Go.Proofs.YthommhfppeonpaaGreatDoor

namespace Go.Proofs.YthommhfppeonpaaGreatDoor
open Go.RowKit

/-- how likely j good ones of N are, at x of 100, times 100^N -/
def term (N : Nat) (x : Int) (j : Nat) : Int := ((ch N j : Nat) : Int) * (x ^ j * (100 - x) ^ (N - j))
/-- the sum of k of them, from A on -/
def psum (N : Nat) (x : Int) (A : Nat) : Nat → Int
  | 0 => 0
  | k + 1 => psum N x A k + term N x (A + k)

theorem pow_bd {x : Int} (h0 : 0 ≤ x) (h1 : x ≤ 100) {j : Nat} (hj : j ≤ 200) : 0 ≤ x ^ j ∧ x ^ j ≤ 100 ^ 200 := by
  refine ⟨Int.pow_nonneg h0, ?_⟩
  obtain ⟨y, rfl⟩ := Int.eq_ofNat_of_zero_le h0
  have h2 : y ≤ 100 := by omega
  have : y ^ j ≤ 100 ^ 200 := Nat.le_trans (Nat.pow_le_pow_left h2 j) (Nat.pow_le_pow_right (by omega) hj)
  have e : ((y ^ j : Nat) : Int) ≤ ((100 ^ 200 : Nat) : Int) := Int.ofNat_le.2 this
  rw [Int.natCast_pow, Int.natCast_pow] at e
  exact e

theorem mul_bd {a b A B : Int} (h1 : 0 ≤ a) (h2 : a ≤ A) (h3 : 0 ≤ b) (h4 : b ≤ B) : 0 ≤ a * b ∧ a * b ≤ A * B :=
  ⟨Int.mul_nonneg h1 h3, Int.mul_le_mul h2 h4 h3 (by omega)⟩

theorem fit_of_lt {z : Int} (h0 : 0 ≤ z) (h : z < ((1000000000 ^ 300 : Nat) : Int)) : (digs z.natAbs).length ≤ 600 := by
  refine Nat.le_trans (length_digs_le (k := 300) ?_) (by omega)
  apply Int.ofNat_lt.1
  rw [Int.natAbs_of_nonneg h0]
  exact h

theorem ch_bd {N j : Nat} (hN : N ≤ 200) : (0 : Int) ≤ ((ch N j : Nat) : Int) ∧ ((ch N j : Nat) : Int) ≤ 100 ^ 200 := by
  refine ⟨by omega, ?_⟩
  have h1 : ch N j ≤ 100 ^ 200 := Nat.le_trans (ch_le N j) (Nat.le_trans (Nat.pow_le_pow_right (by omega) hN) (Nat.pow_le_pow_left (by omega) 200))
  have e : ((ch N j : Nat) : Int) ≤ ((100 ^ 200 : Nat) : Int) := Int.ofNat_le.2 h1
  rw [Int.natCast_pow] at e
  exact e

theorem gb_bd {N j : Nat} {x : Int} (hN : N ≤ 200) (h0 : 0 ≤ x) (h1 : x ≤ 100) (hj : j ≤ N) : 0 ≤ x ^ j * (100 - x) ^ (N - j) ∧ x ^ j * (100 - x) ^ (N - j) ≤ 100 ^ 200 * 100 ^ 200 := by
  have a := pow_bd h0 h1 (show j ≤ 200 by omega)
  have b := pow_bd (x := 100 - x) (by omega) (by omega) (show N - j ≤ 200 by omega)
  exact mul_bd a.1 a.2 b.1 b.2

theorem term_bd {N j : Nat} {x : Int} (hN : N ≤ 200) (h0 : 0 ≤ x) (h1 : x ≤ 100) (hj : j ≤ N) : 0 ≤ term N x j ∧ term N x j ≤ 100 ^ 200 * (100 ^ 200 * 100 ^ 200) := by
  have a := gb_bd hN h0 h1 hj
  have c := ch_bd (N := N) (j := j) hN
  exact mul_bd c.1 c.2 a.1 a.2

theorem psum_bd {N A : Nat} {x : Int} (hN : N ≤ 200) (h0 : 0 ≤ x) (h1 : x ≤ 100) : ∀ k, A + k ≤ N + 1 → 0 ≤ psum N x A k ∧ psum N x A k ≤ (k : Int) * (100 ^ 200 * (100 ^ 200 * 100 ^ 200))
  | 0, _ => by simp [psum]
  | k + 1, h => by
    have ih := psum_bd (A := A) hN h0 h1 k (by omega)
    have t := term_bd hN h0 h1 (show A + k ≤ N by omega)
    simp only [psum]
    generalize (100 : Int) ^ 200 * (100 ^ 200 * 100 ^ 200) = C at *
    have e : (((k + 1 : Nat) : Int)) * C = (k : Int) * C + C := by rw [show (((k + 1 : Nat) : Int)) = (k : Int) + 1 by omega, Int.add_mul, Int.one_mul]
    rw [e]
    omega

theorem fit_gb {N j : Nat} {x : Int} (hN : N ≤ 200) (h0 : 0 ≤ x) (h1 : x ≤ 100) (hj : j ≤ N) : (digs (x ^ j * (100 - x) ^ (N - j)).natAbs).length ≤ 600 := by
  have a := gb_bd hN h0 h1 hj
  exact fit_of_lt a.1 (Int.lt_of_le_of_lt a.2 (by decide +kernel))
theorem fit_term {N j : Nat} {x : Int} (hN : N ≤ 200) (h0 : 0 ≤ x) (h1 : x ≤ 100) (hj : j ≤ N) : (digs (term N x j).natAbs).length ≤ 600 := by
  have a := term_bd hN h0 h1 hj
  exact fit_of_lt a.1 (Int.lt_of_le_of_lt a.2 (by decide +kernel))
theorem psum_small {N A k : Nat} {x : Int} (hN : N ≤ 200) (h0 : 0 ≤ x) (h1 : x ≤ 100) (h : A + k ≤ N + 1) : 0 ≤ psum N x A k ∧ psum N x A k ≤ 201 * (100 ^ 200 * (100 ^ 200 * 100 ^ 200)) := by
  have a := psum_bd hN h0 h1 k h
  refine ⟨a.1, Int.le_trans a.2 (Int.mul_le_mul_of_nonneg_right (by omega) (by decide +kernel))⟩
theorem fit_psum {N A k : Nat} {x : Int} (hN : N ≤ 200) (h0 : 0 ≤ x) (h1 : x ≤ 100) (h : A + k ≤ N + 1) : (digs (psum N x A k).natAbs).length ≤ 600 := by
  have a := psum_small hN h0 h1 h
  exact fit_of_lt a.1 (Int.lt_of_le_of_lt a.2 (by decide +kernel))
theorem fit_mil {N A k : Nat} {x : Int} (hN : N ≤ 200) (h0 : 0 ≤ x) (h1 : x ≤ 100) (h : A + k ≤ N + 1) : (digs (psum N x A k * 1000000).natAbs).length ≤ 600 := by
  have a := psum_small hN h0 h1 h
  have b := mul_bd (b := 1000000) (B := 1000000) a.1 a.2 (by omega) (by omega)
  exact fit_of_lt b.1 (Int.lt_of_le_of_lt b.2 (by decide +kernel))

theorem fit_pow {x : Int} (h0 : 0 ≤ x) (h1 : x ≤ 100) {N : Nat} (hN : N ≤ 200) : (digs (x ^ N).natAbs).length ≤ 600 := by
  have a := pow_bd h0 h1 hN
  exact fit_of_lt a.1 (Int.lt_of_le_of_lt a.2 (by decide +kernel))

/-- whether the tail is small, at x of 100 -/
def smallB (N A T : Nat) (M x : Int) : Bool := decide (psum N x A (T + 1 - A) * 1000000 ≤ M)

theorem cmpZ_le {a b : Int} : cmpZ a b ≤ 0 ↔ a ≤ b := by
  unfold cmpZ
  by_cases h : a < b
  · rw [if_pos h]; omega
  · rw [if_neg h]
    by_cases h2 : b < a
    · rw [if_pos h2]; omega
    · rw [if_neg h2]; omega

set_option maxRecDepth 100000 in
set_option maxHeartbeats 3200000 in
theorem small_any (N A T : Nat) (M x : Int) (g cap : Nat) (s : Bool) (a : Option Addr) (n c : Nat) (w : World) (hN : N ≤ 200) (hA : A ≤ T) (hT : T ≤ N) (h0 : 0 ≤ x) (h1 : x ≤ 100)
    (hrow : RowL w.heap.size 0 w g cap (bin N)) (hM : LG w.heap.size w s a n c M) :
    Calls Tryz.prog 45 #[.agg #[.int .i64 (N : Int), .int .i64 (A : Int), .int .i64 (T : Int), .slice (some ⟨g, 0, none⟩) (N + 1) cap, .bool s, .slice a n c], .int .i64 x] w
      (RetB w (.bool (smallB N A T M x))) := by
  have Hrow := Lib.hid hrow; have HM := Lib.hid hM; clear hrow hM
  have hgl := Hrow.out.lt
  go_enter Tryz.func45, Tryz.ntmps45
  go_wp2_with fail
  refine wp_region_eager 9 [(0, true), (1, true), (2, true), (4, true), (5, true), (6, true), (7, true), (3, false), (8, false)] (by kernel_rfl) (by kernel_rfl) ?_
  have y0 : IntKind.i64.wrap (100 - x) = 100 - x := IntWalk.i64_in _ (by omega)
  iterate 7
    refine wpOrd_yield (v := ?_) rfl (fun _ _ _ h => h) (by rfl) ?_ ?_
    rotate_left
    · intro x hx
      have q1 := (hx.cell (p := ⟨w.heap.size, 0, none⟩) (by simp)).trans ((World.cell?_alloc_at (w := w) #[.int .i64 (N : Int), .int .i64 (A : Int), .int .i64 (T : Int), .slice (some ⟨g, 0, none⟩) (N + 1) cap, .bool s, .slice a n c] 115 _ 0 rfl).trans rfl)
      go_simp
      with_reducible rfl
    try simp only [Act.put, List.setIfInBounds_toArray, List.set_cons_zero, List.set_cons_succ]
  refine wpOrd_step rfl rfl (fun K hK => ?_)
  go_simp
  refine (powers_any x _ _ h0 (by omega) N rfl (by omega) (fit_pow h0 h1 hN)).mono ?_
  rintro e w2 ⟨g2, cap2, rfl, hrow2, hb2⟩
  refine hK _ _ hb2 ?_
  clear hK K
  have hb2' := below_undrew (k := 1) hb2
  simp only [length_pw]
  refine wpOrd_step rfl rfl (fun K hK => ?_)
  go_simp
  refine (powers_any (100 - x) _ _ (by omega) (by omega) N rfl (by omega) (fit_pow (by omega) (by omega) hN)).mono ?_
  rintro e w3 ⟨g3, cap3, rfl, hrow3, hb3⟩
  refine hK _ _ hb3 ?_
  clear hK K
  simp only [length_pw]
  refine wpOrd_nil rfl ?_
  go_wp2_with fail
  refine (of_any 0 w3 (by omega) (by omega)).mono ?_
  rintro e w4 ⟨s4, a4, n4, c4, rfl, hl4, hb4, hf4⟩
  have hb24 : Below w2.heap.size w2 w4 := hb3.trans (hb4.mono hb3.size)
  have hb14 := hb2'.trans (hb24.mono hb2'.size)
  obtain ⟨kb, _, ks⟩ := kept_new hb14
  have hb04 := below_alloc hb14
  have Hrow0 := Lib.hid (Hrow.out.keep hb04)
  have Hrow2 := Lib.hid ((hrow2.keep hb24).mono hb24.size)
  have Hrow3 := Lib.hid ((hrow3.keep hb4).mono hb4.size)
  have HM4 := Lib.hid (HM.out.go hb04)
  have hs04 := hb04.size
  obtain rfl : s4 = false := by rw [hl4.1]; simp
  clear hrow2 hrow3 hb2 hb3 hb4 hb24 hb14 hb2'
  have Kb := Lib.hid kb; clear kb
  have Hl4 := Lib.hid hl4; clear hl4
  have kb1 := (Kb.out 1).trans rfl
  go_wp2_with fail
  clear kb1
  go_loopw [8] (fun jv wr => ∃ (j : Nat) (a7 : Option Addr) (n7 c7 : Nat), A ≤ j ∧ j ≤ T + 1 ∧ jv = .int .i64 (j : Int) ∧ wr.heap[w4.heap.size]? = some (.cells #[.bool false, .slice a7 n7 c7] 110 (0, 0)) ∧
      LG wr.heap.size wr false a7 n7 c7 (psum N x A (j - A)) ∧ (∀ b off, a7 = some ⟨b, off, none⟩ → 0 < n7 → b ≠ w4.heap.size) ∧ Below w4.heap.size w4 wr ∧ w4.heap.size + 1 ≤ wr.heap.size) (fun jv _ => T + 1 - (intOf jv).toNat)
  case atStart =>
    refine ⟨A, a4, n4, c4, Nat.le_refl _, by omega, rfl, heap_alloc_new _ _, ?_, ?_, (Below.refl _ _).alloc (Nat.le_refl _) _, by simp⟩
    · rw [Nat.sub_self]
      exact Hl4.out.go ((Below.refl _ _).alloc (Nat.le_refl _) _)
    · intro b off e h0
      have := LG.lt_of Hl4.out e h0
      omega
  case round =>
    obtain ⟨j, a7, n7, c7, hj1, hj2, rfl, h7, hl7, ho7, hbw, hsz⟩ := hrel
    have H7 := Lib.hid h7; have Hl7 := Lib.hid hl7; clear h7 hl7
    have hbs := hbw.size
    have u0 := (hbw.cell (p := ⟨w.heap.size, 0, none⟩) ks).trans ((Kb.out 0).trans rfl)
    have u2 := (hbw.cell (p := ⟨w.heap.size, 2, none⟩) ks).trans ((Kb.out 2).trans rfl)
    have u3 := (hbw.cell (p := ⟨w.heap.size, 3, none⟩) ks).trans ((Kb.out 3).trans rfl)
    have u4 := (hbw.cell (p := ⟨w.heap.size, 4, none⟩) ks).trans ((Kb.out 4).trans rfl)
    have u5 := (hbw.cell (p := ⟨w.heap.size, 5, none⟩) ks).trans ((Kb.out 5).trans rfl)
    have v0 : wr.cell? ⟨w4.heap.size, 0, none⟩ = some (.bool false) := by simp [World.cell?, H7.out]
    have v1 : wr.cell? ⟨w4.heap.size, 1, none⟩ = some (.slice a7 n7 c7) := by simp [World.cell?, H7.out]
    have hls : w.heap.size < wr.heap.size := by omega
    have hl4s : w4.heap.size < wr.heap.size := by omega
    by_cases hjT : j ≤ T
    · have f0 : wr.frozen? ⟨w4.heap.size, 0, none⟩ = false := by simp [World.frozen?, H7.out]
      have f1 : wr.frozen? ⟨w4.heap.size, 1, none⟩ = false := by simp [World.frozen?, H7.out]
      have hg1 : g < wr.heap.size := by omega
      have hg2 : g2 < wr.heap.size := by have := Hrow2.out.lt; omega
      have hg3 : g3 < wr.heap.size := by have := Hrow3.out.lt; omega
      obtain ⟨s1, a1, n1, c1, k1, k2, hl1, _⟩ := ((Hrow0.out.keep (hbw.mono hs04)).mono (by omega : w.heap.size ≤ wr.heap.size)).get (j := j) (by rw [length_bin]; omega)
      obtain ⟨s5, a5, n5, c5, k3, k4, hl5, _⟩ := ((Hrow2.out.keep hbw).mono hbs).get (j := j) (by rw [length_pw]; omega)
      obtain ⟨s6, a6, n6, c6, k5, k6, hl6, _⟩ := ((Hrow3.out.keep hbw).mono hbs).get (j := N - j) (by rw [length_pw]; omega)
      rw [bin_get _ _ (by omega)] at hl1
      rw [pw_get _ _ _ (by omega)] at hl5 hl6
      have Hl1 := Lib.hid hl1; have Hl5 := Lib.hid hl5; have Hl6 := Lib.hid hl6; clear hl1 hl5 hl6
      have i1 : (0 : Int) ≤ (j : Int) := by omega
      have i2 : (j : Int) < (N : Int) + 1 := by omega
      have i6 : j ≤ N := by omega
      have i3 : (0 : Int) ≤ (N : Int) - (j : Int) := by omega
      have i4 : (N : Int) - (j : Int) < (N : Int) + 1 := by omega
      have r1 : IntKind.i64.wrap ((N : Int) - (j : Int)) = (N : Int) - (j : Int) := IntWalk.i64_in _ (by omega)
      have r2 : ((N : Int) - (j : Int)).toNat = N - j := by omega
      go_wp2_with fail
      refine wp_region_eager 23 [(0, true), (1, true), (2, true), (3, true), (4, true), (5, true), (6, true), (7, true), (8, true), (9, true), (10, true), (11, true), (12, true), (13, true), (14, true), (15, true), (16, true), (17, false), (18, false), (19, false), (20, true), (21, true), (22, false)] (by kernel_rfl) (by kernel_rfl) ?_
      iterate 17
        refine wpOrd_yield (v := ?_) rfl (fun _ _ _ h => h) (by rfl) ?_ ?_
        rotate_left
        · intro x hx
          have q0 := (hx.cell (p := ⟨w.heap.size, 0, none⟩) hls).trans u0
          have q1 := (hx.cell (p := ⟨w.heap.size, 3, none⟩) hls).trans u3
          have q2 := (hx.cell (p := ⟨w4.heap.size, 0, none⟩) hl4s).trans v0
          have q3 := (hx.cell (p := ⟨w4.heap.size, 1, none⟩) hl4s).trans v1
          have q4 := (hx.cell (p := ⟨g, j * 2, none⟩) hg1).trans k1
          have q5 := (hx.cell (p := ⟨g, j * 2 + 1, none⟩) hg1).trans k2
          have q6 := (hx.cell (p := ⟨g2, j * 2, none⟩) hg2).trans k3
          have q7 := (hx.cell (p := ⟨g2, j * 2 + 1, none⟩) hg2).trans k4
          have q8 := (hx.cell (p := ⟨g3, (N - j) * 2, none⟩) hg3).trans k5
          have q9 := (hx.cell (p := ⟨g3, (N - j) * 2 + 1, none⟩) hg3).trans k6
          go_simp
          with_reducible rfl
        try simp only [Act.put, List.setIfInBounds_toArray, List.set_cons_zero, List.set_cons_succ]
      have F1 := Lib.hid (fit_gb hN h0 h1 i6)
      have F2 := Lib.hid (fit_term hN h0 h1 i6)
      have hps : psum N x A (j - A) + term N x j = psum N x A (j + 1 - A) := by
        rw [show j + 1 - A = (j - A) + 1 by omega]
        simp only [psum]
        rw [show A + (j - A) = j by omega]
      have F3 : Hid ((digs (psum N x A (j - A) + term N x j).natAbs).length ≤ 600) := Lib.hid (by rw [hps]; exact fit_psum hN h0 h1 (by omega))
      have Hps := Lib.hid hps; clear hps
      have htn := (term_bd hN h0 h1 i6).1
      have Htn := Lib.hid htn; clear htn
      refine wpOrd_step rfl rfl (fun K hK => ?_)
      go_simp
      refine (ymul_any s5 s6 _ _ a5 a6 n5 n6 c5 c6 _ (by exact Hl5.out) (by exact Hl6.out) F1.out).mono ?_
      rintro e x5 ⟨s8, a8, n8, c8, rfl, hl8, hx5, hf8⟩
      refine hK _ _ hx5 ?_
      clear hK K
      have hx5' : Below wr.heap.size wr x5 := below_undrew (k := 1) hx5
      try simp only [Act.put, List.setIfInBounds_toArray, List.set_cons_zero, List.set_cons_succ]
      refine wpOrd_step rfl rfl (fun K hK => ?_)
      go_simp
      refine (ymul_any s1 s8 _ _ a1 a8 n1 n8 c1 c8 _ (by exact Hl1.out.go hx5') hl8 F2.out).mono ?_
      rintro e x6 ⟨s9, a9, n9, c9, rfl, hl9, hx6, hf9⟩
      refine hK _ _ hx6 ?_
      clear hK K
      have hx6' := hx5'.trans (hx6.mono hx5'.size)
      obtain rfl : s9 = false := by rw [hl9.1]; simp; exact Htn.out
      try simp only [Act.put, List.setIfInBounds_toArray, List.set_cons_zero, List.set_cons_succ]
      refine wpOrd_step rfl rfl (fun K hK => ?_)
      go_simp
      refine (add_same false _ _ a7 a9 n7 n9 c7 c9 _ (Hl7.out.go hx6') hl9 F3.out).mono ?_
      rintro e x7 ⟨s10, a10, n10, c10, rfl, hl10, hx7, hf10⟩
      refine hK _ _ hx7 ?_
      clear hK K
      try simp only [Act.put, List.setIfInBounds_toArray, List.set_cons_zero, List.set_cons_succ]
      iterate 2
        refine wpOrd_yield (v := ?_) rfl (fun _ _ _ h => h) (by rfl) ?_ ?_
        rotate_left
        · intro x hx
          go_simp
          with_reducible rfl
        try simp only [Act.put, List.setIfInBounds_toArray, List.set_cons_zero, List.set_cons_succ]
      refine wpOrd_step rfl rfl (fun K hK => ?_)
      go_simp
      refine (mustL_ok s10 a10 n10 c10 _).mono ?_
      rintro e x8 ⟨rfl, hx8⟩
      refine hK _ _ hx8 ?_
      clear hK K
      try simp only [Act.put, List.setIfInBounds_toArray, List.set_cons_zero, List.set_cons_succ]
      have hx68 := hx7.trans (hx8.mono hx7.size)
      have hx8' := hx6'.trans (hx68.mono hx6'.size)
      have hl11 : LG x8.heap.size x8 s10 a10 n10 c10 (psum N x A (j + 1 - A)) := by rw [← Hps.out]; exact hl10.go hx8
      have hs8 := hx8'.size
      have hs6 := hx6'.size
      have h78 := (hx8'.block w4.heap.size hl4s).trans H7.out
      have y0 : x8.cell? ⟨w4.heap.size, 0, none⟩ = some (.bool false) := by simp [World.cell?, h78]
      have y1 : x8.cell? ⟨w4.heap.size, 1, none⟩ = some (.slice a7 n7 c7) := by simp [World.cell?, h78]
      have y2 : x8.frozen? ⟨w4.heap.size, 0, none⟩ = false := by simp [World.frozen?, h78]
      have y3 : x8.frozen? ⟨w4.heap.size, 1, none⟩ = false := by simp [World.frozen?, h78]
      have hne : ∀ b off, a10 = some ⟨b, off, none⟩ → 0 < n10 → b ≠ w4.heap.size := fun b off e h0 => by have := hf10 b off e h0; omega
      have hl12 := (hl11.setCell ⟨w4.heap.size, 0, none⟩ (.bool s10) hne).setCell ⟨w4.heap.size, 1, none⟩ (.slice a10 n10 c10) hne
      have h79 := obj_setCell (obj_setCell h78 0 (.bool s10)) 1 (.slice a10 n10 c10)
      obtain rfl : s10 = false := by rw [hl11.1]; simp; exact (psum_bd (A := A) hN h0 h1 _ (by omega)).1
      have H79 := Lib.hid h79; have Hl12 := Lib.hid hl12; clear h78 h79 hl12 hl11 hl10
      refine wpOrd_nil rfl ?_
      go_wp2
      go_roundw
      case rel =>
        refine ⟨j + 1, a10, n10, c10, by omega, by omega, by go_num, ?_, ?_, hne, ((hbw.trans (hx8'.mono hbs)).setCell (Nat.le_refl _) _).setCell (Nat.le_refl _) _, ?_⟩
        · have := H79.out
          simpa using this
        · have := Hl12.out
          simpa using this
        · simp; omega
      case measure => simp [intOf]; omega
    · obtain rfl : j = T + 1 := by omega
      have F1 := Lib.hid (fit_mil (A := A) (k := T + 1 - A) hN h0 h1 (by omega))
      go_wp2_with fail
      refine wp_region_eager 10 [(0, true), (3, true), (4, true), (1, false), (2, false), (5, false), (6, true), (7, true), (8, false), (9, true)] (by kernel_rfl) (by kernel_rfl) ?_
      iterate 3
        refine wpOrd_yield (v := ?_) rfl (fun _ _ _ h => h) (by rfl) ?_ ?_
        rotate_left
        · intro x hx
          have q0 := (hx.cell (p := ⟨w.heap.size, 4, none⟩) hls).trans u4
          have q1 := (hx.cell (p := ⟨w.heap.size, 5, none⟩) hls).trans u5
          have q2 := (hx.cell (p := ⟨w4.heap.size, 0, none⟩) hl4s).trans v0
          have q3 := (hx.cell (p := ⟨w4.heap.size, 1, none⟩) hl4s).trans v1
          go_simp
          with_reducible rfl
        try simp only [Act.put, List.setIfInBounds_toArray, List.set_cons_zero, List.set_cons_succ]
      refine wpOrd_step rfl rfl (fun K hK => ?_)
      go_simp
      refine (of_any 1000000 _ (by omega) (by omega)).mono ?_
      rintro e x5 ⟨s8, a8, n8, c8, rfl, hl8, hx5, hf8⟩
      refine hK _ _ hx5 ?_
      clear hK K
      have hx5' : Below wr.heap.size wr x5 := below_undrew (k := 1) hx5
      try simp only [Act.put, List.setIfInBounds_toArray, List.set_cons_zero, List.set_cons_succ]
      refine wpOrd_step rfl rfl (fun K hK => ?_)
      go_simp
      refine (ymul_any false s8 _ _ a7 a8 n7 n8 c7 c8 _ (by exact Hl7.out.go hx5') hl8 F1.out).mono ?_
      rintro e x6 ⟨s9, a9, n9, c9, rfl, hl9, hx6, hf9⟩
      refine hK _ _ hx6 ?_
      clear hK K
      have hx6' := hx5'.trans (hx6.mono hx5'.size)
      try simp only [Act.put, List.setIfInBounds_toArray, List.set_cons_zero, List.set_cons_succ]
      refine wpOrd_step rfl rfl (fun K hK => ?_)
      go_simp
      have hM6 : LG x6.heap.size x6 s a n c M := ((HM4.out.below hbw (Nat.le_refl _)).mono hbs).go hx6'
      refine (lcmp_any s9 s _ _ a9 a n9 n c9 c _ hl9 hM6).mono ?_
      rintro e x7 ⟨rfl, hx7⟩
      refine hK _ _ hx7 ?_
      clear hK K
      try simp only [Act.put, List.setIfInBounds_toArray, List.set_cons_zero, List.set_cons_succ]
      iterate 2
        refine wpOrd_yield (v := ?_) rfl (fun _ _ _ h => h) (by rfl) ?_ ?_
        rotate_left
        · intro x hx
          go_simp
          with_reducible rfl
        try simp only [Act.put, List.setIfInBounds_toArray, List.set_cons_zero, List.set_cons_succ]
      refine wpOrd_step rfl rfl (fun K hK => ?_)
      go_simp
      refine (mustI_ok _ _).mono ?_
      rintro e x8 ⟨rfl, hx8⟩
      refine hK _ _ hx8 ?_
      clear hK K
      try simp only [Act.put, List.setIfInBounds_toArray, List.set_cons_zero, List.set_cons_succ]
      iterate 1
        refine wpOrd_yield (v := ?_) rfl (fun _ _ _ h => h) (by rfl) ?_ ?_
        rotate_left
        · intro x hx
          go_simp
          with_reducible rfl
        try simp only [Act.put, List.setIfInBounds_toArray, List.set_cons_zero, List.set_cons_succ]
      refine wpOrd_nil rfl ?_
      go_wp2
      go_ret
      refine ⟨?_, hb04.trans ((hbw.trans ((hx6'.trans ((hx7.trans (hx8.mono hx7.size)).mono hx6'.size)).mono hbs)).mono hs04)⟩
      show Ending.returned (.bool _) = _
      congr 2
      unfold smallB
      exact decide_eq_decide.2 cmpZ_le

end Go.Proofs.YthommhfppeonpaaGreatDoor

namespace Go.Proofs.YthommhfppeonpaaGreatDoor
open Go.RowKit

/-- trials, as a value -/
def trialsV (N A T : Nat) (g cap : Nat) (s : Bool) (a : Option Addr) (n c : Nat) : Value :=
  .agg #[.int .i64 (N : Int), .int .i64 (A : Int), .int .i64 (T : Int), .slice (some ⟨g, 0, none⟩) (N + 1) cap, .bool s, .slice a n c]

set_option maxHeartbeats 400000 in
theorem holds_any (N A T : Nat) (M x : Int) (g cap : Nat) (s : Bool) (a : Option Addr) (n c : Nat) (w : World) (hN : N ≤ 200) (hA : A ≤ T) (hT : T ≤ N) (h0 : 0 ≤ x) (h1 : x ≤ 100)
    (hrow : RowL w.heap.size 0 w g cap (bin N)) (hM : LG w.heap.size w s a n c M) :
    Calls Tryz.prog 44 #[.agg #[.int .i64 (N : Int), .int .i64 (A : Int), .int .i64 (T : Int), .slice (some ⟨g, 0, none⟩) (N + 1) cap, .bool s, .slice a n c], .int .i64 x] w
      (RetB w (.bool (smallB N A T M x))) := by
  have Hrow := Lib.hid hrow; have HM := Lib.hid hM; clear hrow hM
  have hb := (Below.refl w.heap.size w).alloc (Nat.le_refl _) (.cells #[.int .i64 (N : Int), .int .i64 (A : Int), .int .i64 (T : Int), .slice (some ⟨g, 0, none⟩) (N + 1) cap, .bool s, .slice a n c] 115)
  go_enter Tryz.func44, Tryz.ntmps44
  go_wp2_with fail
  refine (small_any N A T M x g cap s a n c _ hN hA hT h0 h1 (by exact Hrow.out.go hb) (by exact HM.out.go hb)).mono ?_
  rintro e w1 ⟨rfl, hb1⟩
  go_wp2
  go_ret
  exact ⟨rfl, below_alloc hb1⟩

set_option maxHeartbeats 800000 in
theorem first_any (N A T : Nat) (M x0 step : Int) (m : Nat) (g cap : Nat) (s : Bool) (a : Option Addr) (n c : Nat) (w : World) (hN : N ≤ 200) (hA : A ≤ T) (hT : T ≤ N)
    (hrow : RowL w.heap.size 0 w g cap (bin N)) (hM : LG w.heap.size w s a n c M) (hst : step = 1 ∨ step = -1) (hr : ∀ i : Nat, i ≤ m → 0 ≤ x0 + i * step ∧ x0 + i * step ≤ 100)
    (hno : ∀ i : Nat, i < m → smallB N A T M (x0 + i * step) = false) (hyes : smallB N A T M (x0 + m * step) = true) :
    Calls Tryz.prog 46 #[.int .i64 x0, .int .i64 step, .agg #[.int .i64 (N : Int), .int .i64 (A : Int), .int .i64 (T : Int), .slice (some ⟨g, 0, none⟩) (N + 1) cap, .bool s, .slice a n c], .func (.func 44) #[] #[]] w
      (RetB w (.int .i64 (x0 + m * step))) := by
  have Hrow := Lib.hid hrow; have HM := Lib.hid hM; have Hno := Lib.hid hno; have Hyes := Lib.hid hyes; have Hr := Lib.hid hr; have Hst := Lib.hid hst; clear hrow hM hno hyes hr hst
  have hgl := Hrow.out.lt
  go_enter Tryz.func46, Tryz.ntmps46
  go_wp2_with fail
  go_loopw [0] (fun xv wr => ∃ (i : Nat), i ≤ m ∧ xv = .int .i64 (x0 + i * step) ∧ Below (w.alloc (.cells #[.int .i64 (N : Int), .int .i64 (A : Int), .int .i64 (T : Int), .slice (some ⟨g, 0, none⟩) (N + 1) cap, .bool s, .slice a n c] 115)).heap.size (w.alloc (.cells #[.int .i64 (N : Int), .int .i64 (A : Int), .int .i64 (T : Int), .slice (some ⟨g, 0, none⟩) (N + 1) cap, .bool s, .slice a n c] 115)) wr) (fun xv _ => (m : Nat) - ((intOf xv - x0) * step).toNat)
  case atStart => exact ⟨0, Nat.zero_le _, by simp, Below.refl _ _⟩
  case round =>
    obtain ⟨i, hi, rfl, hbw⟩ := hrel
    obtain ⟨kb, _, ks⟩ := kept_new hbw
    have u0 := (kb 0).trans rfl
    have u1 := (kb 1).trans rfl
    have u2 := (kb 2).trans rfl
    have u3 := (kb 3).trans rfl
    have u4 := (kb 4).trans rfl
    have u5 := (kb 5).trans rfl
    clear kb
    have hb0 := below_alloc hbw
    have hxr := Hr.out i hi
    have Hb := Lib.hid hbw
    generalize hx : x0 + (i : Int) * step = x at *
    have Hx := Lib.hid hx; clear hx
    go_wp2_with fail
    refine (holds_any N A T M x g cap s a n c _ hN hA hT hxr.1 hxr.2 (by exact Hrow.out.go hb0) (by exact HM.out.go hb0)).mono ?_
    rintro e w1 ⟨rfl, hb1⟩
    have hbn := Hb.out.trans (hb1.mono Hb.out.size)
    by_cases him : i < m
    · have hf := Hno.out i him
      rw [Hx.out] at hf
      rw [hf]
      have st1 : -1 ≤ step := by rcases Hst.out with h | h <;> omega
      have st2 : step ≤ 1 := by rcases Hst.out with h | h <;> omega
      obtain ⟨hx1, hx2⟩ := hxr
      go_wp2
      go_roundw
      case rel => exact ⟨i + 1, by omega, by rw [show (((i + 1 : Nat) : Int)) = (i : Int) + 1 by omega, Int.add_mul, Int.one_mul, ← Int.add_assoc, Hx.out], hbn⟩
      case measure =>
        have e := Hx.out
        simp only [intOf]
        rcases Hst.out with h | h
        · subst h; simp; omega
        · subst h; simp; omega
    · obtain rfl : i = m := by omega
      have hf := Hyes.out
      rw [Hx.out] at hf
      rw [hf]
      go_wp2
      go_ret
      exact ⟨by rw [Hx.out]; rfl, below_alloc hbn⟩
end Go.Proofs.YthommhfppeonpaaGreatDoor

namespace Go.Proofs.YthommhfppeonpaaGreatDoor
open Go.RowKit

/-- the first one of x, x - 1 .. that serves; 0 if none above serves -/
def down (p : Int → Bool) : Nat → Int
  | 0 => 0
  | x + 1 => if p ((x : Int) + 1) then (x : Int) + 1 else down p x
/-- the first one of 100 - f, 100 - f + 1 .. that serves; 100 if none below serves -/
def up (p : Int → Bool) : Nat → Int
  | 0 => 100
  | f + 1 => if p (100 - ((f : Int) + 1)) then 100 - ((f : Int) + 1) else up p f

theorem down_spec {p : Int → Bool} (h0 : p 0 = true) : ∀ x : Nat, ∃ m : Nat, m ≤ x ∧ down p x = (x : Int) - m ∧ (∀ i : Nat, i < m → p ((x : Int) - i) = false) ∧ p ((x : Int) - m) = true
  | 0 => ⟨0, Nat.le_refl _, rfl, fun i h => absurd h (by omega), by simpa using h0⟩
  | x + 1 => by
    by_cases h : p ((x : Int) + 1) = true
    · exact ⟨0, Nat.zero_le _, by simp [down, h], fun i h => absurd h (by omega), by simpa using h⟩
    · obtain ⟨m, h1, h2, h3, h4⟩ := down_spec h0 x
      refine ⟨m + 1, by omega, ?_, fun i hi => ?_, ?_⟩
      · simp only [down, h]; simp [h2]; omega
      · cases i with
        | zero => simpa using h
        | succ i => rw [show (((x + 1 : Nat) : Int) - ((i + 1 : Nat) : Int)) = (x : Int) - i by omega]; exact h3 i (by omega)
      · rw [show (((x + 1 : Nat) : Int) - ((m + 1 : Nat) : Int)) = (x : Int) - m by omega]; exact h4

theorem up_spec {p : Int → Bool} (h0 : p 100 = true) : ∀ f : Nat, ∃ m : Nat, m ≤ f ∧ up p f = 100 - (f : Int) + m ∧ (∀ i : Nat, i < m → p (100 - (f : Int) + i) = false) ∧ p (100 - (f : Int) + m) = true
  | 0 => ⟨0, Nat.le_refl _, rfl, fun i h => absurd h (by omega), by simpa using h0⟩
  | f + 1 => by
    by_cases h : p (100 - ((f : Int) + 1)) = true
    · refine ⟨0, Nat.zero_le _, ?_, fun i h => absurd h (by omega), ?_⟩
      · simp only [up, h, if_true]; omega
      · rw [show (100 - ((f + 1 : Nat) : Int) + ((0 : Nat) : Int)) = 100 - ((f : Int) + 1) by omega]; exact h
    · obtain ⟨m, h1, h2, h3, h4⟩ := up_spec h0 f
      refine ⟨m + 1, by omega, ?_, fun i hi => ?_, ?_⟩
      · simp only [up, h]; simp [h2]; omega
      · cases i with
        | zero => rw [show (100 - ((f + 1 : Nat) : Int) + ((0 : Nat) : Int)) = 100 - ((f : Int) + 1) by omega]; simpa using h
        | succ i => rw [show (100 - ((f + 1 : Nat) : Int) + ((i + 1 : Nat) : Int)) = 100 - (f : Int) + i by omega]; exact h3 i (by omega)
      · rw [show (100 - ((f + 1 : Nat) : Int) + ((m + 1 : Nat) : Int)) = 100 - (f : Int) + m by omega]; exact h4

theorem psum_zero {N A : Nat} {x : Int} : ∀ k, (∀ j, A ≤ j → j < A + k → term N x j = 0) → psum N x A k = 0
  | 0, _ => rfl
  | k + 1, h => by
    simp only [psum]
    rw [psum_zero k (fun j h1 h2 => h j h1 (by omega)), h (A + k) (by omega) (by omega)]
    rfl

theorem small_low {N k : Nat} {M : Int} (hk : 0 < k) (hM : 0 ≤ M) : smallB N k N M 0 = true := by
  unfold smallB
  rw [psum_zero _ (fun j h1 h2 => by unfold term; rw [Int.zero_pow (by omega)]; simp)]
  simp
  exact hM

theorem small_high {N k : Nat} {M : Int} (hk : k < N) (hM : 0 ≤ M) : smallB N 0 k M 100 = true := by
  unfold smallB
  rw [psum_zero _ (fun j h1 h2 => by unfold term; rw [show (100 : Int) - 100 = 0 by omega, Int.zero_pow (by omega)]; simp)]
  simp
  exact hM

/-- the low bound, the high bound -/
def lowOf (N k : Nat) (d : Int) : Int := if 0 < k then down (smallB N k N (d * 100 ^ N)) 100 else 0
def highOf (N k : Nat) (d : Int) : Int := if k < N then up (smallB N 0 k (d * 100 ^ N)) 100 else 100

/-- a call that gives back two numbers -/
def Ret2 (w : World) (x y : Int) (e : Ending) (w' : World) : Prop := e = .returned (.agg #[.int .i64 x, .int .i64 y]) ∧ Below w.heap.size w w'

theorem most_fit {N : Nat} {d : Int} (hN : N ≤ 200) (h1 : 1 ≤ d) (h2 : d ≤ 999999) : 0 ≤ d * 100 ^ N ∧ (digs (d * 100 ^ N).natAbs).length ≤ 600 := by
  have a := pow_bd (x := 100) (by omega) (by omega) hN
  have b := mul_bd (a := d) (A := 1000000) (by omega) (by omega) a.1 a.2
  exact ⟨b.1, fit_of_lt b.1 (Int.lt_of_le_of_lt b.2 (by decide +kernel))⟩

theorem below_alloc_drew {w x : World} {o : Obj} (h : Below (w.alloc o).drew.heap.size (w.alloc o).drew x) : Below w.heap.size w x := below_alloc (below_undrew (k := 1) h)

set_option maxRecDepth 100000 in
set_option maxHeartbeats 6400000 in
theorem bound1_ok (N k : Nat) (d : Int) (bn bk bd : Nat) (w : World) (hN1 : 1 ≤ N) (hN : N ≤ 200) (hk : k ≤ N) (h1 : 1 ≤ d) (h2 : d ≤ 999999)
    (ln : bn < w.heap.size) (lk : bk < w.heap.size) (ld : bd < w.heap.size)
    (cn : w.cell? ⟨bn, 0, none⟩ = some (.int .i64 (N : Int))) (ck : w.cell? ⟨bk, 0, none⟩ = some (.int .i64 (k : Int))) (cd : w.cell? ⟨bd, 0, none⟩ = some (.int .i64 d)) :
    Calls Tryz.prog 38 #[.pointer (some ⟨bn, 0, none⟩), .pointer (some ⟨bk, 0, none⟩), .pointer (some ⟨bd, 0, none⟩)] w (Ret2 w (lowOf N k d) (highOf N k d)) := by
  have hMf := most_fit hN h1 h2
  have HM0 := Lib.hid hMf.1; have HMf := Lib.hid hMf.2; clear hMf
  have hfp := fit_pow (x := 100) (by omega) (by omega) hN
  have Hfp := Lib.hid hfp; clear hfp
  have z1 : ¬ ((N : Int) < 1) := by omega
  have z2 : ¬ (200 < (N : Int)) := by omega
  have z3 : ¬ ((N : Int) < (k : Int)) := by omega
  go_enter Tryz.func38, Tryz.ntmps38
  go_wp2_with fail
  refine wp_region_float 15 14 [(0, true), (1, true), (2, true), (3, true), (5, true), (7, true), (9, true), (4, false), (6, false), (8, false), (10, true), (11, true), (12, false), (13, true)] _ _
    (.cells #[.int .i64 0, .int .i64 0, .int .i64 0, .slice none 0 0, .bool false, .slice none 0 0] 115) rfl rfl rfl (by kernel_rfl) (by kernel_rfl) (fun _ _ => rfl) (fun _ _ _ _ h => h) (fun _ _ o _ _ h => by cases o <;> exact h) ?_
  iterate 7
    refine wpF_yield (v := ?_) rfl (by rfl) ?_ ?_
    rotate_left
    · intro x hx
      have hx' := below_alloc_drew hx
      have q0 := (hx'.cell (p := ⟨bn, 0, none⟩) ln).trans cn
      have q1 := (hx'.cell (p := ⟨bk, 0, none⟩) lk).trans ck
      have q2 := (hx'.cell (p := ⟨bd, 0, none⟩) ld).trans cd
      go_simp
      with_reducible rfl
    try simp only [Act.put, List.setIfInBounds_toArray, List.set_cons_zero, List.set_cons_succ]
  refine wpF_step rfl rfl (fun x1 hx1 K hK => ?_)
  go_simp
  have hx1' := below_alloc_drew hx1
  refine (row_any N _ hN).mono ?_
  rintro e w1 ⟨g, cap, rfl, hrow, hb1⟩
  refine hK _ _ hb1 ?_
  clear hK K
  simp only [length_bin]
  refine wpF_step rfl rfl (fun x2 hx2 K hK => ?_)
  go_simp
  refine (of_any d _ (by omega) (by omega)).mono ?_
  rintro e w2 ⟨s2, a2, n2, c2, rfl, hl2, hb2, hf2⟩
  refine hK _ _ hb2 ?_
  clear hK K
  refine wpF_step rfl rfl (fun x3 hx3 K hK => ?_)
  go_simp
  refine (powers_any 100 _ _ (by omega) (by omega) N rfl (by omega) Hfp.out).mono ?_
  rintro e w3 ⟨g3, cap3, rfl, hrow3, hb3⟩
  refine hK _ _ hb3 ?_
  clear hK K
  simp only [length_pw]
  have hx2' : Below w1.heap.size w1 x2 := hx2
  have hx3' : Below w2.heap.size w2 x3 := hx3
  obtain ⟨s5, a5, n5, c5, k1, k2, hl5, _⟩ := hrow3.get (j := N) (by rw [length_pw]; omega)
  rw [pw_get _ _ _ (Nat.le_refl _)] at hl5
  have hg3 := hrow3.lt
  have i1 : (0 : Int) ≤ (N : Int) := by omega
  have i2 : (N : Int) < (N : Int) + 1 := by omega
  have Hrow3 := Lib.hid hrow3; have Hl5 := Lib.hid hl5; have Hrow := Lib.hid hrow; have Hl2 := Lib.hid hl2; clear hrow3 hl5 hrow hl2
  iterate 2
    refine wpF_yield (v := ?_) rfl (by rfl) ?_ ?_
    rotate_left
    · intro x hx
      have q0 := (hx.cell (p := ⟨g3, N * 2, none⟩) hg3).trans k1
      have q1 := (hx.cell (p := ⟨g3, N * 2 + 1, none⟩) hg3).trans k2
      go_simp
      with_reducible rfl
    try simp only [Act.put, List.setIfInBounds_toArray, List.set_cons_zero, List.set_cons_succ]
  refine wpF_step rfl rfl (fun x4 hx4 K hK => ?_)
  go_simp
  have hb24 : Below w2.heap.size w2 x4 := hx3'.trans ((hb3.trans (hx4.mono hb3.size)).mono hx3'.size)
  refine (ymul_any s2 s5 d (100 ^ N) a2 a5 n2 n5 c2 c5 _ (Hl2.out.go hb24) (Hl5.out.go hx4) HMf.out).mono ?_
  rintro e w4 ⟨s6, a6, n6, c6, rfl, hl6, hb4, hf6⟩
  refine hK _ _ hb4 ?_
  clear hK K
  iterate 1
    refine wpF_yield (v := ?_) rfl (by rfl) ?_ ?_
    rotate_left
    · intro x hx
      go_simp
      with_reducible rfl
    try simp only [Act.put, List.setIfInBounds_toArray, List.set_cons_zero, List.set_cons_succ]
  refine wpF_nil rfl (fun b w5 hC hb5 hbl => ?_)
  obtain ⟨⟨⟨⟨hC0, hC1⟩, hC2⟩, hC3⟩, hC4⟩ := hC
  have hs1 := hb1.size; have hs2 := hb2.size; have hs3 := hb3.size; have hs4 := hb4.size; have hs5 := hb5.size
  have hs6 := hx2'.size; have hs7 := hx3'.size; have hs8 := hx4.size; have hs9 := hx1.size
  have hlb := lt_of_block hbl
  have hb15 : Below w1.heap.size w1 w5 := hx2'.trans ((hb2.trans ((hx3'.trans ((hb3.trans ((hx4.trans ((hb4.trans (hb5.mono hs4)).mono hs8)).mono hs3)).mono hs7)).mono hs2)).mono hs6)
  have hba5 : Below (w.alloc (.cells #[.int .i64 0, .int .i64 0] 89)).heap.size (w.alloc (.cells #[.int .i64 0, .int .i64 0] 89)) w5 := below_undrew (k := 1) (hx1.trans ((hb1.trans (hb15.mono hs1)).mono hs9))
  have Hrow5 := Lib.hid (Hrow.out.keep hb15)
  have Hl6 := Lib.hid (hl6.go hb5)
  have hne6 : ∀ b' off, a6 = some ⟨b', off, none⟩ → 0 < n6 → b' ≠ b := fun b' off e h0 => by
    have p1 := hf6 b' off e h0
    have p2 := LG.lt_of hl6 e h0
    omega
  have f0 := (obj_cell hbl 0).trans rfl
  have f1 := (obj_cell hbl 1).trans rfl
  have f2 := (obj_cell hbl 2).trans rfl
  have f3 := (obj_cell hbl 3).trans rfl
  have f4 := (obj_cell hbl 4).trans rfl
  have f5 := (obj_cell hbl 5).trans rfl
  have g0 := obj_free hbl 0
  have g1 := obj_free hbl 1
  have g2 := obj_free hbl 2
  have g4 := obj_free hbl 3
  have g5 := obj_free hbl 4
  have g6 := obj_free hbl 5
  have Hbl := Lib.hid hbl
  clear hl6 hb4 hb3 hb2 hb1 hx4 hx3' hx2' hx3 hx2 hx1 hx1' hbl hb24
  refine wpList_plain rfl (fun K hK => ?_)
  go_simp
  refine hK _ _ ?_
  refine gen_only (fun w' => wpList _ _ _ _ _ w') (obj_setCell (obj_setCell (obj_setCell (obj_setCell (obj_setCell (obj_setCell Hbl.out 0 _) 1 _) 2 _) 3 _) 4 _) 5 _) ((((((OnlyB.refl b w5).set 0 _).set 1 _).set 2 _).set 3 _).set 4 _ |>.set 5 _) (fun w6 hobj6 ho6 => ?_)
  have hobj6' : w6.heap[b]? = some (.cells #[.int .i64 (N : Int), .int .i64 (k : Int), .int .i64 (N : Int), .slice (some ⟨g, 0, none⟩) (N + 1) cap, .bool s6, .slice a6 n6 c6] 115 (0, 0)) := hobj6
  have hs10 : w5.heap.size ≤ w6.heap.size := by rw [ho6.size]; exact Nat.le_refl _
  have hba0 : w.heap.size < b := by simp at hC0; omega
  have hlb6 : b < w6.heap.size := by omega
  have Hobj6 := Lib.hid hobj6'
  have Hba6 : Hid (Below (w.alloc (.cells #[.int .i64 0, .int .i64 0] 89)).heap.size (w.alloc (.cells #[.int .i64 0, .int .i64 0] 89)) w6) := Lib.hid (hba5.trans (ho6.below hC0))
  have HC1 := Lib.hid hC1; have Hne6 := Lib.hid hne6
  have Hrow6x : Hid (RowL w1.heap.size x1.heap.size w6 g cap (bin N)) := Lib.hid (Hrow5.out.only ho6 (by omega))
  have hs1z : w1.heap.size ≤ w6.heap.size := by omega
  have Hrow6 := Lib.hid (((Hrow5.out.only ho6 (by omega)).rebase (Nat.zero_le _)).mono (by omega : w1.heap.size ≤ w6.heap.size))
  have Hl66 : Hid (LG w6.heap.size w6 s6 a6 n6 c6 (d * 100 ^ N)) := Lib.hid ((Hl6.out.only ho6 hne6).mono (by omega))
  clear hobj6 hobj6' ho6 hba5 hb15 hb5 hC0 hC1 hC2 hC3 hC4 f0 f1 f2 f3 f4 f5 g0 g1 g2 g4 g5 g6 hK K k1 k2 hg3 hf6 hf2 hne6
  have hdw := down_spec (p := smallB N k N (d * 100 ^ N))
  have huw := up_spec (p := smallB N 0 k (d * 100 ^ N))
  have Hdw := Lib.hid hdw; have Huw := Lib.hid huw; clear hdw huw
  by_cases hk0 : 0 < k
  · have hlow : lowOf N k d = down (smallB N k N (d * 100 ^ N)) 100 := by unfold lowOf; rw [if_pos hk0]
    have Hlow := Lib.hid hlow; clear hlow
    have hca := Hba6.out
    have cn6 := ((below_alloc hca).cell (p := ⟨bn, 0, none⟩) ln).trans cn
    have ck6 := ((below_alloc hca).cell (p := ⟨bk, 0, none⟩) lk).trans ck
    have ln6 : bn < w6.heap.size := Nat.lt_of_lt_of_le ln (below_alloc hca).size
    have lk6 : bk < w6.heap.size := Nat.lt_of_lt_of_le lk (below_alloc hca).size
    obtain ⟨hra, hrf, hrs⟩ := kept_new hca
    have ra6 := (hra 0).trans rfl
    have rb6 := (hra 1).trans rfl
    have rc6 := hrf 0
    have rd6 := hrf 1
    clear hra hrf
    have ec0 := (obj_cell Hobj6.out 0).trans rfl
    have ef0 := obj_free Hobj6.out 0
    have ec1 := (obj_cell Hobj6.out 1).trans rfl
    have ef1 := obj_free Hobj6.out 1
    have ec2 := (obj_cell Hobj6.out 2).trans rfl
    have ef2 := obj_free Hobj6.out 2
    have ec3 := (obj_cell Hobj6.out 3).trans rfl
    have ef3 := obj_free Hobj6.out 3
    have ec4 := (obj_cell Hobj6.out 4).trans rfl
    have ef4 := obj_free Hobj6.out 4
    have ec5 := (obj_cell Hobj6.out 5).trans rfl
    have ef5 := obj_free Hobj6.out 5
    obtain ⟨m, hm1, hm2, hm3, hm4⟩ := Hdw.out (small_low hk0 HM0.out) 100
    have hcast : ((100 : Nat) : Int) = 100 := rfl
    rw [hcast] at hm2
    have hm3' : ∀ i : Nat, i < m → smallB N k N (d * 100 ^ N) (100 + (i : Int) * -1) = false := fun i hi => by have := hm3 i hi; rw [hcast] at this; rw [show (100 : Int) + (i : Int) * -1 = 100 - i by omega]; exact this
    have hm4' : smallB N k N (d * 100 ^ N) (100 + (m : Int) * -1) = true := by rw [hcast] at hm4; rw [show (100 : Int) + (m : Int) * -1 = 100 - m by omega]; exact hm4
    have Hm2 := Lib.hid hm2; have Hm3 := Lib.hid hm3'; have Hm4 := Lib.hid hm4'; clear hm2 hm3 hm4 hm3' hm4' hcast
    have hk0' : (0 : Int) < (k : Int) := by omega
    go_wp2_with fail
    have hbz := (Below.refl w6.heap.size w6).alloc (Nat.le_refl _) (.cells #[.int .i64 0, .int .i64 100] 89)
    refine (first_any N k N (d * 100 ^ N) 100 (-1) m g cap s6 a6 n6 c6 _ hN hk (Nat.le_refl _) (by exact Hrow6.out.go hbz) (by exact Hl66.out.go hbz) (Or.inr rfl) (fun i hi => by omega) Hm3.out Hm4.out).mono ?_
    rintro e w8 ⟨rfl, hb8⟩
    obtain ⟨hoa, hof, hos⟩ := kept_new hb8
    have oa := (hoa 0).trans rfl
    have ob := (hoa 1).trans rfl
    have oc := hof 0
    have od := hof 1
    clear hoa hof
    have hb68 := below_alloc hb8
    have hobj8 : w8.heap[w6.heap.size]? = some (.cells #[.int .i64 0, .int .i64 100] 89 (0, 0)) := (hb8.block w6.heap.size (by simp)).trans (heap_alloc_new _ _)
    have Hb68 := Lib.hid hb68; have Hobj8 := Lib.hid hobj8; clear hb8 hb68 hobj8
    go_wp2_with fail
    refine gen_only (fun w' => Code.wp _ _ _ _ w') (obj_setCell Hobj8.out 0 _) ((OnlyB.refl w6.heap.size w8).set 0 _) (fun w9 hobj9 ho9 => ?_)
    have hobj9' : w9.heap[w6.heap.size]? = some (.cells #[.int .i64 (100 + -(m : Int)), .int .i64 100] 89 (0, 0)) := hobj9
    have Hb69 : Hid (Below w6.heap.size w6 w9) := Lib.hid (Hb68.out.trans (ho9.below (Nat.le_refl _)))
    have Hobj9 := Lib.hid hobj9'
    have hs9 := Hb69.out.size
    have hs9' : w6.heap.size < w9.heap.size := lt_of_block hobj9'
    clear hobj9 hobj9' ho9 oa ob oc od
    clear hca hrs cn6 ck6 ln6 lk6 ra6 rb6 rc6 rd6 ec0 ec1 ec2 ec3 ec4 ec5 ef0 ef1 ef2 ef3 ef4 ef5
    have hca := Hba6.out.trans (Hb69.out.mono Hba6.out.size)
    have cn9 := ((below_alloc hca).cell (p := ⟨bn, 0, none⟩) ln).trans cn
    have ck9 := ((below_alloc hca).cell (p := ⟨bk, 0, none⟩) lk).trans ck
    have ln9 : bn < w9.heap.size := Nat.lt_of_lt_of_le ln (below_alloc hca).size
    have lk9 : bk < w9.heap.size := Nat.lt_of_lt_of_le lk (below_alloc hca).size
    obtain ⟨hra, hrf, hrs⟩ := kept_new hca
    have ra9 := (hra 0).trans rfl
    have rb9 := (hra 1).trans rfl
    have rc9 := hrf 0
    have rd9 := hrf 1
    clear hra hrf
    have Hobjb : Hid (w9.heap[b]? = some (.cells #[.int .i64 (N : Int), .int .i64 (k : Int), .int .i64 (N : Int), .slice (some ⟨g, 0, none⟩) (N + 1) cap, .bool s6, .slice a6 n6 c6] 115 (0, 0))) := Lib.hid ((Hb69.out.block b hlb6).trans Hobj6.out)
    have ec0 := (obj_cell Hobjb.out 0).trans rfl
    have ef0 := obj_free Hobjb.out 0
    have ec1 := (obj_cell Hobjb.out 1).trans rfl
    have ef1 := obj_free Hobjb.out 1
    have ec2 := (obj_cell Hobjb.out 2).trans rfl
    have ef2 := obj_free Hobjb.out 2
    have ec3 := (obj_cell Hobjb.out 3).trans rfl
    have ef3 := obj_free Hobjb.out 3
    have ec4 := (obj_cell Hobjb.out 4).trans rfl
    have ef4 := obj_free Hobjb.out 4
    have ec5 := (obj_cell Hobjb.out 5).trans rfl
    have ef5 := obj_free Hobjb.out 5
    have Hca9 := Lib.hid hca
    clear hca
    go_region
    refine gen_only (b := b) (w := w9.drew) (fun w' => Exit.then _ _ _ _ w') (obj_setCell (obj_setCell (w := w9.drew) (by exact Hobjb.out) 1 _) 2 _) (((OnlyB.refl b w9.drew).set 1 _).set 2 _) (fun w10 hobj10 ho10 => ?_)
    have hobj10' : w10.heap[b]? = some (.cells #[.int .i64 (N : Int), .int .i64 0, .int .i64 (k : Int), .slice (some ⟨g, 0, none⟩) (N + 1) cap, .bool s6, .slice a6 n6 c6] 115 (0, 0)) := hobj10
    have Hb9a : Hid (Below b w9 w10) := Lib.hid (below_undrew (k := 1) (ho10.below (Nat.le_refl _)))
    have Hobj10 := Lib.hid hobj10'
    have Hout10 : Hid (w10.heap[w6.heap.size]? = some (.cells #[.int .i64 (100 + -(m : Int)), .int .i64 100] 89 (0, 0))) := Lib.hid ((ho10.block w6.heap.size (by omega)).trans Hobj9.out)
    have hs12 : w9.heap.size ≤ w10.heap.size := by rw [ho10.size]; exact Nat.le_refl _
    have Hrow10 : Hid (RowL w10.heap.size 0 w10 g cap (bin N)) := Lib.hid (by
      have p0 : RowL w1.heap.size x1.heap.size w9 g cap (bin N) := Hrow6x.out.keep (Hb69.out.mono hs1z)
      have p1 : RowL w1.heap.size x1.heap.size w9.drew g cap (bin N) := p0
      exact ((p1.only ho10 HC1.out).rebase (Nat.zero_le _)).mono (by omega))
    have Hl10 : Hid (LG w10.heap.size w10 s6 a6 n6 c6 (d * 100 ^ N)) := Lib.hid (by
      have p1 : LG w9.heap.size w9.drew s6 a6 n6 c6 (d * 100 ^ N) := Hl66.out.go Hb69.out
      exact (p1.only ho10 Hne6.out).mono (by omega))
    have Hca10 : Hid (Below (w.alloc (.cells #[.int .i64 0, .int .i64 0] 89)).heap.size (w.alloc (.cells #[.int .i64 0, .int .i64 0] 89)) w10) := Lib.hid (Hca9.out.trans (Hb9a.out.mono (by simp; omega)))
    clear hobj10 hobj10' ho10 cn9 ck9 ln9 lk9 ra9 rb9 rc9 rd9 ec0 ec1 ec2 ec3 ec4 ec5 ef0 ef1 ef2 ef3 ef4 ef5 hrs
    have hca := Hca10.out
    have cn10 := ((below_alloc hca).cell (p := ⟨bn, 0, none⟩) ln).trans cn
    have ck10 := ((below_alloc hca).cell (p := ⟨bk, 0, none⟩) lk).trans ck
    obtain ⟨hra, hrf, hrs⟩ := kept_new hca
    have ra10 := (hra 0).trans rfl
    have rb10 := (hra 1).trans rfl
    have rc10 := hrf 0
    have rd10 := hrf 1
    clear hra hrf hca
    have ec0 := (obj_cell Hobj10.out 0).trans rfl
    have ec1 := (obj_cell Hobj10.out 1).trans rfl
    have ec2 := (obj_cell Hobj10.out 2).trans rfl
    have ec3 := (obj_cell Hobj10.out 3).trans rfl
    have ec4 := (obj_cell Hobj10.out 4).trans rfl
    have ec5 := (obj_cell Hobj10.out 5).trans rfl
    have oa := (obj_cell Hout10.out 0).trans rfl
    have ob := (obj_cell Hout10.out 1).trans rfl
    have oc := obj_free Hout10.out 0
    have od := obj_free Hout10.out 1
    have hob : w6.heap.size < w10.heap.size := by omega
    by_cases hkN : k < N
    · have hhigh : highOf N k d = up (smallB N 0 k (d * 100 ^ N)) 100 := by unfold highOf; rw [if_pos hkN]
      obtain ⟨m2, hn1, hn2, hn3, hn4⟩ := Huw.out (small_high hkN HM0.out) 100
      have hcast : ((100 : Nat) : Int) = 100 := rfl
      rw [hcast] at hn2
      have hn3' : ∀ i : Nat, i < m2 → smallB N 0 k (d * 100 ^ N) (0 + (i : Int) * 1) = false := fun i hi => by have := hn3 i hi; rw [hcast] at this; rw [show (0 : Int) + (i : Int) * 1 = 100 - 100 + i by omega]; exact this
      have hn4' : smallB N 0 k (d * 100 ^ N) (0 + (m2 : Int) * 1) = true := by rw [hcast] at hn4; rw [show (0 : Int) + (m2 : Int) * 1 = 100 - 100 + m2 by omega]; exact hn4
      have Hhigh := Lib.hid hhigh; have Hn2 := Lib.hid hn2; have Hn3 := Lib.hid hn3'; have Hn4 := Lib.hid hn4'; clear hhigh hn2 hn3 hn4 hn3' hn4' hcast
      have hkN' : (k : Int) < (N : Int) := by omega
      go_wp2_with fail
      refine (first_any N 0 k (d * 100 ^ N) 0 1 m2 g cap s6 a6 n6 c6 _ hN (Nat.zero_le _) hk (by exact Hrow10.out) (by exact Hl10.out) (Or.inl rfl) (fun i hi => by omega) Hn3.out Hn4.out).mono ?_
      rintro e w11 ⟨rfl, hb11⟩
      have hb11' : Below w10.heap.size w10 w11 := hb11
      have pa := (hb11'.cell (p := ⟨w6.heap.size, 0, none⟩) hob).trans oa
      have pb := (hb11'.cell (p := ⟨w6.heap.size, 1, none⟩) hob).trans ob
      have pc := (hb11'.frozen (p := ⟨w6.heap.size, 0, none⟩) hob).trans oc
      have pd := (hb11'.frozen (p := ⟨w6.heap.size, 1, none⟩) hob).trans od
      have hlr : w.heap.size < w10.heap.size := hrs
      have ra11 := (hb11'.cell (p := ⟨w.heap.size, 0, none⟩) hlr).trans ra10
      have rb11 := (hb11'.cell (p := ⟨w.heap.size, 1, none⟩) hlr).trans rb10
      have rc11 := (hb11'.frozen (p := ⟨w.heap.size, 0, none⟩) hlr).trans rc10
      have rd11 := (hb11'.frozen (p := ⟨w.heap.size, 1, none⟩) hlr).trans rd10
      have hne : w6.heap.size ≠ w.heap.size := by omega
      have hne2 : w.heap.size ≠ w6.heap.size := by omega
      go_wp2
      refine bodyPost_ret (v := .agg #[.int .i64 (100 + -(m : Int)), .int .i64 (m2 : Int)]) ?_ rfl ?_
      · simp [results, Tryz.results38, go_sem, ra11, rb11]
      · refine ⟨?_, ((((below_alloc Hca10.out).trans (hb11'.mono (by omega))).setCell (by simp; omega) _).setCell (by simp) _).setCell (by simp) _⟩
        rw [Hlow.out, Hhigh.out, Hn2.out, Hm2.out]
        simp [Int.sub_eq_add_neg]
    · have hhigh : highOf N k d = 100 := by unfold highOf; rw [if_neg hkN]
      have Hhigh := Lib.hid hhigh; clear hhigh
      have hkN' : ¬ ((k : Int) < (N : Int)) := by omega
      have hne : w6.heap.size ≠ w.heap.size := by omega
      have hne2 : w.heap.size ≠ w6.heap.size := by omega
      go_wp2
      refine bodyPost_ret (v := .agg #[.int .i64 (100 + -(m : Int)), .int .i64 100]) ?_ rfl ?_
      · simp [results, Tryz.results38, go_sem, ra10, rb10]
      · refine ⟨?_, ((below_alloc Hca10.out).setCell (by simp) _).setCell (by simp) _⟩
        rw [Hlow.out, Hhigh.out, Hm2.out]
        simp [Int.sub_eq_add_neg]
  · have hlow : lowOf N k d = 0 := by unfold lowOf; rw [if_neg hk0]
    have Hlow := Lib.hid hlow; clear hlow
    have hk0' : ¬ ((0 : Int) < (k : Int)) := by omega
    have hca := Hba6.out
    have cn6 := ((below_alloc hca).cell (p := ⟨bn, 0, none⟩) ln).trans cn
    have ck6 := ((below_alloc hca).cell (p := ⟨bk, 0, none⟩) lk).trans ck
    have ln6 : bn < w6.heap.size := Nat.lt_of_lt_of_le ln (below_alloc hca).size
    have lk6 : bk < w6.heap.size := Nat.lt_of_lt_of_le lk (below_alloc hca).size
    obtain ⟨hra, hrf, hrs⟩ := kept_new hca
    have ra6 := (hra 0).trans rfl
    have rb6 := (hra 1).trans rfl
    have rc6 := hrf 0
    have rd6 := hrf 1
    clear hra hrf
    have ec0 := (obj_cell Hobj6.out 0).trans rfl
    have ef0 := obj_free Hobj6.out 0
    have ec1 := (obj_cell Hobj6.out 1).trans rfl
    have ef1 := obj_free Hobj6.out 1
    have ec2 := (obj_cell Hobj6.out 2).trans rfl
    have ef2 := obj_free Hobj6.out 2
    have ec3 := (obj_cell Hobj6.out 3).trans rfl
    have ef3 := obj_free Hobj6.out 3
    have ec4 := (obj_cell Hobj6.out 4).trans rfl
    have ef4 := obj_free Hobj6.out 4
    have ec5 := (obj_cell Hobj6.out 5).trans rfl
    have ef5 := obj_free Hobj6.out 5
    go_wp2_with fail
    refine gen_only (b := w6.heap.size) (w := w6.alloc (.cells #[.int .i64 0, .int .i64 100] 89)) (cs := #[.int .i64 0, .int .i64 100]) (T := 89) (fun w' => Code.wp _ _ _ _ w') (heap_alloc_new _ _) (OnlyB.refl _ _) (fun w9 hobj9 ho9 => ?_)
    have Hb69 : Hid (Below w6.heap.size w6 w9) := Lib.hid (((Below.refl _ _).alloc (Nat.le_refl _) _).trans (ho9.below (Nat.le_refl _)))
    have Hobj9 := Lib.hid hobj9
    have hs9 := Hb69.out.size
    have hs9' : w6.heap.size < w9.heap.size := lt_of_block hobj9
    clear hobj9 ho9
    clear hca hrs cn6 ck6 ln6 lk6 ra6 rb6 rc6 rd6 ec0 ec1 ec2 ec3 ec4 ec5 ef0 ef1 ef2 ef3 ef4 ef5
    have hca := Hba6.out.trans (Hb69.out.mono Hba6.out.size)
    have cn9 := ((below_alloc hca).cell (p := ⟨bn, 0, none⟩) ln).trans cn
    have ck9 := ((below_alloc hca).cell (p := ⟨bk, 0, none⟩) lk).trans ck
    have ln9 : bn < w9.heap.size := Nat.lt_of_lt_of_le ln (below_alloc hca).size
    have lk9 : bk < w9.heap.size := Nat.lt_of_lt_of_le lk (below_alloc hca).size
    obtain ⟨hra, hrf, hrs⟩ := kept_new hca
    have ra9 := (hra 0).trans rfl
    have rb9 := (hra 1).trans rfl
    have rc9 := hrf 0
    have rd9 := hrf 1
    clear hra hrf
    have Hobjb : Hid (w9.heap[b]? = some (.cells #[.int .i64 (N : Int), .int .i64 (k : Int), .int .i64 (N : Int), .slice (some ⟨g, 0, none⟩) (N + 1) cap, .bool s6, .slice a6 n6 c6] 115 (0, 0))) := Lib.hid ((Hb69.out.block b hlb6).trans Hobj6.out)
    have ec0 := (obj_cell Hobjb.out 0).trans rfl
    have ef0 := obj_free Hobjb.out 0
    have ec1 := (obj_cell Hobjb.out 1).trans rfl
    have ef1 := obj_free Hobjb.out 1
    have ec2 := (obj_cell Hobjb.out 2).trans rfl
    have ef2 := obj_free Hobjb.out 2
    have ec3 := (obj_cell Hobjb.out 3).trans rfl
    have ef3 := obj_free Hobjb.out 3
    have ec4 := (obj_cell Hobjb.out 4).trans rfl
    have ef4 := obj_free Hobjb.out 4
    have ec5 := (obj_cell Hobjb.out 5).trans rfl
    have ef5 := obj_free Hobjb.out 5
    have Hca9 := Lib.hid hca
    clear hca
    go_region
    refine gen_only (b := b) (w := w9.drew) (fun w' => Exit.then _ _ _ _ w') (obj_setCell (obj_setCell (w := w9.drew) (by exact Hobjb.out) 1 _) 2 _) (((OnlyB.refl b w9.drew).set 1 _).set 2 _) (fun w10 hobj10 ho10 => ?_)
    have hobj10' : w10.heap[b]? = some (.cells #[.int .i64 (N : Int), .int .i64 0, .int .i64 (k : Int), .slice (some ⟨g, 0, none⟩) (N + 1) cap, .bool s6, .slice a6 n6 c6] 115 (0, 0)) := hobj10
    have Hb9a : Hid (Below b w9 w10) := Lib.hid (below_undrew (k := 1) (ho10.below (Nat.le_refl _)))
    have Hobj10 := Lib.hid hobj10'
    have Hout10 : Hid (w10.heap[w6.heap.size]? = some (.cells #[.int .i64 0, .int .i64 100] 89 (0, 0))) := Lib.hid ((ho10.block w6.heap.size (by omega)).trans Hobj9.out)
    have hs12 : w9.heap.size ≤ w10.heap.size := by rw [ho10.size]; exact Nat.le_refl _
    have Hrow10 : Hid (RowL w10.heap.size 0 w10 g cap (bin N)) := Lib.hid (by
      have p0 : RowL w1.heap.size x1.heap.size w9 g cap (bin N) := Hrow6x.out.keep (Hb69.out.mono hs1z)
      have p1 : RowL w1.heap.size x1.heap.size w9.drew g cap (bin N) := p0
      exact ((p1.only ho10 HC1.out).rebase (Nat.zero_le _)).mono (by omega))
    have Hl10 : Hid (LG w10.heap.size w10 s6 a6 n6 c6 (d * 100 ^ N)) := Lib.hid (by
      have p1 : LG w9.heap.size w9.drew s6 a6 n6 c6 (d * 100 ^ N) := Hl66.out.go Hb69.out
      exact (p1.only ho10 Hne6.out).mono (by omega))
    have Hca10 : Hid (Below (w.alloc (.cells #[.int .i64 0, .int .i64 0] 89)).heap.size (w.alloc (.cells #[.int .i64 0, .int .i64 0] 89)) w10) := Lib.hid (Hca9.out.trans (Hb9a.out.mono (by simp; omega)))
    clear hobj10 hobj10' ho10 cn9 ck9 ln9 lk9 ra9 rb9 rc9 rd9 ec0 ec1 ec2 ec3 ec4 ec5 ef0 ef1 ef2 ef3 ef4 ef5 hrs
    have hca := Hca10.out
    have cn10 := ((below_alloc hca).cell (p := ⟨bn, 0, none⟩) ln).trans cn
    have ck10 := ((below_alloc hca).cell (p := ⟨bk, 0, none⟩) lk).trans ck
    obtain ⟨hra, hrf, hrs⟩ := kept_new hca
    have ra10 := (hra 0).trans rfl
    have rb10 := (hra 1).trans rfl
    have rc10 := hrf 0
    have rd10 := hrf 1
    clear hra hrf hca
    have ec0 := (obj_cell Hobj10.out 0).trans rfl
    have ec1 := (obj_cell Hobj10.out 1).trans rfl
    have ec2 := (obj_cell Hobj10.out 2).trans rfl
    have ec3 := (obj_cell Hobj10.out 3).trans rfl
    have ec4 := (obj_cell Hobj10.out 4).trans rfl
    have ec5 := (obj_cell Hobj10.out 5).trans rfl
    have oa := (obj_cell Hout10.out 0).trans rfl
    have ob := (obj_cell Hout10.out 1).trans rfl
    have oc := obj_free Hout10.out 0
    have od := obj_free Hout10.out 1
    have hob : w6.heap.size < w10.heap.size := by omega
    by_cases hkN : k < N
    · have hhigh : highOf N k d = up (smallB N 0 k (d * 100 ^ N)) 100 := by unfold highOf; rw [if_pos hkN]
      obtain ⟨m2, hn1, hn2, hn3, hn4⟩ := Huw.out (small_high hkN HM0.out) 100
      have hcast : ((100 : Nat) : Int) = 100 := rfl
      rw [hcast] at hn2
      have hn3' : ∀ i : Nat, i < m2 → smallB N 0 k (d * 100 ^ N) (0 + (i : Int) * 1) = false := fun i hi => by have := hn3 i hi; rw [hcast] at this; rw [show (0 : Int) + (i : Int) * 1 = 100 - 100 + i by omega]; exact this
      have hn4' : smallB N 0 k (d * 100 ^ N) (0 + (m2 : Int) * 1) = true := by rw [hcast] at hn4; rw [show (0 : Int) + (m2 : Int) * 1 = 100 - 100 + m2 by omega]; exact hn4
      have Hhigh := Lib.hid hhigh; have Hn2 := Lib.hid hn2; have Hn3 := Lib.hid hn3'; have Hn4 := Lib.hid hn4'; clear hhigh hn2 hn3 hn4 hn3' hn4' hcast
      have hkN' : (k : Int) < (N : Int) := by omega
      go_wp2_with fail
      refine (first_any N 0 k (d * 100 ^ N) 0 1 m2 g cap s6 a6 n6 c6 _ hN (Nat.zero_le _) hk (by exact Hrow10.out) (by exact Hl10.out) (Or.inl rfl) (fun i hi => by omega) Hn3.out Hn4.out).mono ?_
      rintro e w11 ⟨rfl, hb11⟩
      have hb11' : Below w10.heap.size w10 w11 := hb11
      have pa := (hb11'.cell (p := ⟨w6.heap.size, 0, none⟩) hob).trans oa
      have pb := (hb11'.cell (p := ⟨w6.heap.size, 1, none⟩) hob).trans ob
      have pc := (hb11'.frozen (p := ⟨w6.heap.size, 0, none⟩) hob).trans oc
      have pd := (hb11'.frozen (p := ⟨w6.heap.size, 1, none⟩) hob).trans od
      have hlr : w.heap.size < w10.heap.size := hrs
      have ra11 := (hb11'.cell (p := ⟨w.heap.size, 0, none⟩) hlr).trans ra10
      have rb11 := (hb11'.cell (p := ⟨w.heap.size, 1, none⟩) hlr).trans rb10
      have rc11 := (hb11'.frozen (p := ⟨w.heap.size, 0, none⟩) hlr).trans rc10
      have rd11 := (hb11'.frozen (p := ⟨w.heap.size, 1, none⟩) hlr).trans rd10
      have hne : w6.heap.size ≠ w.heap.size := by omega
      have hne2 : w.heap.size ≠ w6.heap.size := by omega
      go_wp2
      refine bodyPost_ret (v := .agg #[.int .i64 0, .int .i64 (m2 : Int)]) ?_ rfl ?_
      · simp [results, Tryz.results38, go_sem, ra11, rb11]
      · refine ⟨?_, ((((below_alloc Hca10.out).trans (hb11'.mono (by omega))).setCell (by simp; omega) _).setCell (by simp) _).setCell (by simp) _⟩
        rw [Hlow.out, Hhigh.out, Hn2.out]
        simp
    · exact absurd (by omega : k < N) hkN

end Go.Proofs.YthommhfppeonpaaGreatDoor

namespace Go.Proofs.YthommhfppeonpaaGreatDoor
open Go.RowKit

set_option maxHeartbeats 400000 in
theorem refuse_arg (w : World) :
    Calls Tryz.prog 39 #[.int .i64 2] w (fun e w' => e = .panicked [{ v := .iface 156 (.agg #[.int .i64 2]), recovered := false }] ∧ w = w') := by
  go_enter Tryz.func39, Tryz.ntmps39
  go_wp2
  exact ⟨rfl, rfl, rfl⟩

set_option maxHeartbeats 800000 in
set_option maxRecDepth 100000 in
theorem bound1_no (n k d : Int) (bn bk bd : Nat) (w : World) (hno : n < 1 ∨ 200 < n ∨ k < 0 ∨ n < k ∨ d < 1 ∨ 999999 < d)
    (ln : bn < w.heap.size) (lk : bk < w.heap.size) (ld : bd < w.heap.size)
    (cn : w.cell? ⟨bn, 0, none⟩ = some (.int .i64 n)) (ck : w.cell? ⟨bk, 0, none⟩ = some (.int .i64 k)) (cd : w.cell? ⟨bd, 0, none⟩ = some (.int .i64 d)) :
    Calls Tryz.prog 38 #[.pointer (some ⟨bn, 0, none⟩), .pointer (some ⟨bk, 0, none⟩), .pointer (some ⟨bd, 0, none⟩)] w
      (fun e w' => e = .panicked [{ v := .iface 156 (.agg #[.int .i64 2]), recovered := false }] ∧ Below w.heap.size w w') := by
  have Hno := Lib.hid hno; clear hno
  have hfin : ∀ o : Obj, Below w.heap.size w (w.alloc o) := fun o => (Below.refl _ _).alloc (Nat.le_refl _) _
  by_cases h1 : n < 1
  · go_enter Tryz.func38, Tryz.ntmps38
    go_wp2_with fail
    refine (refuse_arg _).mono ?_
    rintro e w' ⟨rfl, rfl⟩
    exact ⟨rfl, rfl, hfin _⟩
  by_cases h2 : 200 < n
  · go_enter Tryz.func38, Tryz.ntmps38
    go_wp2_with fail
    refine (refuse_arg _).mono ?_
    rintro e w' ⟨rfl, rfl⟩
    exact ⟨rfl, rfl, hfin _⟩
  by_cases h3 : k < 0
  · go_enter Tryz.func38, Tryz.ntmps38
    go_wp2_with fail
    refine (refuse_arg _).mono ?_
    rintro e w' ⟨rfl, rfl⟩
    exact ⟨rfl, rfl, hfin _⟩
  by_cases h4 : n < k
  · go_enter Tryz.func38, Tryz.ntmps38
    go_wp2_with fail
    refine (refuse_arg _).mono ?_
    rintro e w' ⟨rfl, rfl⟩
    exact ⟨rfl, rfl, hfin _⟩
  by_cases h5 : d < 1
  · go_enter Tryz.func38, Tryz.ntmps38
    go_wp2_with fail
    refine (refuse_arg _).mono ?_
    rintro e w' ⟨rfl, rfl⟩
    exact ⟨rfl, rfl, hfin _⟩
  have h6 : 999999 < d := by have := Hno.out; omega
  go_enter Tryz.func38, Tryz.ntmps38
  go_wp2_with fail
  refine (refuse_arg _).mono ?_
  rintro e w' ⟨rfl, rfl⟩
  exact ⟨rfl, rfl, hfin _⟩

theorem caught_idle (p q : Addr) (w : World) :
    CallsD Tryz.prog 75 #[.pointer (some p), .pointer (some q)] .returning w fun e u' w' => e = .returned (.tuple #[]) ∧ u' = .returning ∧ w' = w := by
  refine callsD_of_wpS Tryz.func75 rfl fun c₀ cs hu => ?_
  apply wpS_seq
  apply wpS_region
  simp [wpOpsS, go_sem, recoverD, hu, Tryz.ntmps75, Exit.thenS]
  apply wpS_seq
  apply wpS_region
  simp [wpOpsS, go_sem, Exit.thenS]
  refine wpS_cond (t := false) (by simp [Act.eval]) ?_
  simp only [Bool.false_eq_true, if_false]
  refine wpS_of_wp (wp_skip ?_)
  cases c₀
  simp_all [bodyPostS, results, Tryz.results75]

theorem caught_broken (p q : Nat) (en : Int) (w : World) (hpq : p ≠ q) (hp : w.heap[p]? = some (.cells #[.int .i64 0, .int .i64 0] 89 (0, 0))) (hq : w.heap[q]? = some (.cells #[.int .i64 0] 40 (0, 0))) :
    CallsD Tryz.prog 75 #[.pointer (some ⟨p, 0, none⟩), .pointer (some ⟨q, 0, none⟩)] (.panicking ({ v := .iface 156 (.agg #[.int .i64 en]), recovered := false } :: [])) w fun e u' w' =>
      e = .returned (.tuple #[]) ∧ u' = .panicking ({ v := .iface 156 (.agg #[.int .i64 en]), recovered := true } :: []) ∧
        w'.heap[p]? = some (.cells #[.int .i64 0, .int .i64 0] 89 (0, 0)) ∧ w'.heap[q]? = some (.cells #[.int .i64 en] 40 (0, 0)) ∧ Below (min p q) w w' := by
  have lp := lt_of_block hp
  have lq := lt_of_block hq
  have p0 := (obj_cell hp 0).trans rfl
  have p1 := (obj_cell hp 1).trans rfl
  have q0 := (obj_cell hq 0).trans rfl
  have p2 := obj_free hp 0
  have p3 := obj_free hp 1
  have q2 := obj_free hq 0
  refine callsD_of_wpS Tryz.func75 rfl fun c₀ cs hu => ?_
  apply wpS_seq
  apply wpS_region
  simp [wpOpsS, go_sem, recoverD, hu, Tryz.ntmps75, Exit.thenS]
  apply wpS_seq
  apply wpS_region
  simp [wpOpsS, go_sem, Exit.thenS]
  refine wpS_cond (t := true) (by simp [Act.eval]) ?_
  simp only [if_true]
  have hta : ∀ w : World, (Instr.typeAssert (.iface 156 (.agg #[.int .i64 en])) 20 156 true).run Tryz.prog w = .ok (.tuple #[.agg #[.int .i64 en], .bool true]) w := fun _ => by kernel_rfl
  clear hu
  refine wpS_of_wp ?_
  simp [Array.replicate, List.replicate]
  go_wp2_with fail
  have hqp : q ≠ p := fun e => hpq e.symm
  go_region
  go_wp2
  refine ⟨rfl, _, rfl, .tuple #[], by simp [results, Tryz.results75], rfl, rfl, ?_, ?_, ?_⟩
  · have e1 := obj_other (obj_setCell (obj_setCell hp 0 (.int .i64 0)) 1 (.int .i64 0)) ⟨q, 0, none⟩ hqp (.int .i64 en)
    show ((((w.setCell _ _).setCell _ _).setCell _ _).alloc _ |>.alloc _).heap[p]? = _
    rw [Below.heap_alloc _ _ _ (by simp; omega), Below.heap_alloc _ _ _ (by simp; omega), e1]
    rfl
  · have e1 := obj_setCell (obj_other (obj_other hq ⟨p, 0, none⟩ hpq (.int .i64 0)) ⟨p, 1, none⟩ hpq (.int .i64 0)) 0 (.int .i64 en)
    show ((((w.setCell _ _).setCell _ _).setCell _ _).alloc _ |>.alloc _).heap[q]? = _
    rw [Below.heap_alloc _ _ _ (by simp; omega), Below.heap_alloc _ _ _ (by simp; omega), e1]
    rfl
  · exact ((((((Below.refl _ _).setCell (by simp; omega) _).setCell (by simp; omega) _).setCell (by simp; omega) _).alloc (by simp; omega) _).alloc (by simp; omega) _).drew

theorem makeFunc_run (fn : Fn) (first cap : Array Value) (w : World) : (Instr.makeFunc fn first cap).run Tryz.prog w = .ok (.func fn first cap) w := rfl

set_option maxHeartbeats 800000 in
theorem caught_ret (x y : Int) (p1 p2 p3 : Value) (w : World)
    (hcall : Calls Tryz.prog 38 #[p1, p2, p3] ((w.alloc (.cells #[.int .i64 0, .int .i64 0] 89)).alloc (.cells #[.int .i64 0] 40)) (Ret2 ((w.alloc (.cells #[.int .i64 0, .int .i64 0] 89)).alloc (.cells #[.int .i64 0] 40)) x y)) :
    Calls Tryz.prog 37 #[.func (.func 38) #[] #[p1, p2, p3]] w (fun e w' => e = .returned (.tuple #[.agg #[.int .i64 x, .int .i64 y], .int .i64 0]) ∧ Below w.heap.size w w') := by
  have Hcall := Lib.hid hcall; clear hcall
  have hmf := makeFunc_run
  go_enter_defers Tryz.func37, Tryz.ntmps37
  go_wp2_with fail
  refine Hcall.out.mono ?_
  rintro e w1 ⟨rfl, hb1⟩
  have h0 : w1.heap[w.heap.size]? = some (.cells #[.int .i64 0, .int .i64 0] 89 (0, 0)) := (hb1.block w.heap.size (by simp; omega)).trans (heap_two w _ _).1
  have h1 : w1.heap[w.heap.size + 1]? = some (.cells #[.int .i64 0] 40 (0, 0)) := (hb1.block (w.heap.size + 1) (by simp)).trans (heap_two w _ _).2
  have a0 := (obj_cell h0 0).trans rfl
  have a1 := (obj_cell h0 1).trans rfl
  have a2 := (obj_cell h1 0).trans rfl
  have b0 := obj_free h0 0
  have b1 := obj_free h0 1
  have b2 := obj_free h1 0
  have hbb : Below w.heap.size w w1 := (below_two _ _).trans (hb1.mono (by simp; omega))
  clear h0 h1
  go_wp2
  refine leaves_cons (f := 75) (args := #[.pointer (some ⟨w.heap.size, 0, none⟩), .pointer (some ⟨w.heap.size + 1, 0, none⟩)]) (by simp) (by simp [go_sem]) ?_
  refine (caught_idle _ _ _).mono ?_
  rintro e u' w'' ⟨rfl, rfl, rfl⟩
  simp [Leaves, settle, results, Tryz.results37, go_sem, a0, a1, a2]
  exact ((hbb.setCell (by simp) _).setCell (by simp) _).setCell (by simp) _

set_option maxHeartbeats 800000 in
theorem caught_pan (en : Int) (p1 p2 p3 : Value) (w : World)
    (hcall : Calls Tryz.prog 38 #[p1, p2, p3] ((w.alloc (.cells #[.int .i64 0, .int .i64 0] 89)).alloc (.cells #[.int .i64 0] 40))
      (fun e w' => e = .panicked [{ v := .iface 156 (.agg #[.int .i64 en]), recovered := false }] ∧ Below ((w.alloc (.cells #[.int .i64 0, .int .i64 0] 89)).alloc (.cells #[.int .i64 0] 40)).heap.size ((w.alloc (.cells #[.int .i64 0, .int .i64 0] 89)).alloc (.cells #[.int .i64 0] 40)) w')) :
    Calls Tryz.prog 37 #[.func (.func 38) #[] #[p1, p2, p3]] w (fun e w' => e = .returned (.tuple #[.agg #[.int .i64 0, .int .i64 0], .int .i64 en]) ∧ Below w.heap.size w w') := by
  have Hcall := Lib.hid hcall; clear hcall
  have hmf := makeFunc_run
  go_enter_defers Tryz.func37, Tryz.ntmps37
  go_wp2_with fail
  refine Hcall.out.mono ?_
  rintro e w1 ⟨rfl, hb1⟩
  have h0 : w1.heap[w.heap.size]? = some (.cells #[.int .i64 0, .int .i64 0] 89 (0, 0)) := (hb1.block w.heap.size (by simp; omega)).trans (heap_two w _ _).1
  have h1 : w1.heap[w.heap.size + 1]? = some (.cells #[.int .i64 0] 40 (0, 0)) := (hb1.block (w.heap.size + 1) (by simp)).trans (heap_two w _ _).2
  have hbb : Below w.heap.size w w1 := (below_two _ _).trans (hb1.mono (by simp; omega))
  refine leaves_cons (f := 75) (args := #[.pointer (some ⟨w.heap.size, 0, none⟩), .pointer (some ⟨w.heap.size + 1, 0, none⟩)]) (by simp) (by simp [go_sem]) ?_
  refine (caught_broken _ _ en _ (by omega) h0 h1).mono ?_
  rintro e u' w'' ⟨rfl, rfl, g0, g1, gb⟩
  have a0 := (obj_cell g0 0).trans rfl
  have a1 := (obj_cell g0 1).trans rfl
  have a2 := (obj_cell g1 0).trans rfl
  simp [Leaves, settle, results, Tryz.results37, go_sem, a0, a1, a2]
  exact hbb.trans (gb.mono (by omega))

end Go.Proofs.YthommhfppeonpaaGreatDoor

namespace Go.Proofs.YthommhfppeonpaaGreatDoor
open Go.RowKit

/-- a call that gives back three values -/
def Ret3 (w : World) (x y z : Value) (e : Ending) (w' : World) : Prop := e = .returned (.tuple #[x, y, z]) ∧ Below w.heap.size w w'

set_option maxHeartbeats 800000 in
theorem bound_rest (n k d x y en : Int) (w : World)
    (hc : ∀ w1 : World, Below w.heap.size w w1 → w.heap.size + 3 ≤ w1.heap.size → w1.cell? ⟨w.heap.size, 0, none⟩ = some (.int .i64 n) → w1.cell? ⟨w.heap.size + 1, 0, none⟩ = some (.int .i64 k) → w1.cell? ⟨w.heap.size + 1 + 1, 0, none⟩ = some (.int .i64 d) →
      Calls Tryz.prog 37 #[.func (.func 38) #[] #[.pointer (some ⟨w.heap.size, 0, none⟩), .pointer (some ⟨w.heap.size + 1, 0, none⟩), .pointer (some ⟨w.heap.size + 1 + 1, 0, none⟩)]] w1 (fun e w' => e = .returned (.tuple #[.agg #[.int .i64 x, .int .i64 y], .int .i64 en]) ∧ Below w1.heap.size w1 w')) :
    Calls Tryz.prog 18 #[.int .i64 n, .int .i64 k, .int .i64 d] w (Ret3 w (.int .i64 x) (.int .i64 y) (.int .i64 en)) := by
  have Hc := Lib.hid hc; clear hc
  have hmf := makeFunc_run
  have c3 := cells3 w #[.int .i64 n] #[.int .i64 k] #[.int .i64 d] 3 3 3
  have C3 := Lib.hid c3; clear c3
  go_enter Tryz.func18, Tryz.ntmps18
  go_wp2_with fail
  refine (Hc.out _ (below3 _ _ _ _) (by simp) (C3.out.1 0) (C3.out.2.1 0) (C3.out.2.2 0)).mono ?_
  rintro e w1 ⟨rfl, hb1⟩
  have hbb := (below3 w _ _ _).trans (hb1.mono (by simp; omega))
  go_wp2_with fail
  go_quiet (fail)
  go_wp2
  go_ret3
  exact ⟨rfl, below_drewN (hbb.alloc hbb.size _) _⟩

theorem bound_ok (N k : Nat) (d : Int) (w : World) (hN1 : 1 ≤ N) (hN : N ≤ 200) (hk : k ≤ N) (h1 : 1 ≤ d) (h2 : d ≤ 999999) :
    Calls Tryz.prog 18 #[.int .i64 (N : Int), .int .i64 (k : Int), .int .i64 d] w (Ret3 w (.int .i64 (lowOf N k d)) (.int .i64 (highOf N k d)) (.int .i64 0)) := by
  refine bound_rest _ _ _ _ _ _ w (fun w1 hb hs c0 c1 c2 => caught_ret _ _ _ _ _ w1 ?_)
  have hb2 := below_two (w := w1) (.cells #[.int .i64 0, .int .i64 0] 89) (.cells #[.int .i64 0] 40)
  exact bound1_ok N k d _ _ _ _ hN1 hN hk h1 h2 (by simp; omega) (by simp; omega) (by simp; omega)
    ((hb2.cell (p := ⟨w.heap.size, 0, none⟩) (by show w.heap.size < _; omega)).trans c0) ((hb2.cell (p := ⟨w.heap.size + 1, 0, none⟩) (by show w.heap.size + 1 < _; omega)).trans c1) ((hb2.cell (p := ⟨w.heap.size + 1 + 1, 0, none⟩) (by show w.heap.size + 1 + 1 < _; omega)).trans c2)

theorem bound_no (n k d : Int) (w : World) (hno : n < 1 ∨ 200 < n ∨ k < 0 ∨ n < k ∨ d < 1 ∨ 999999 < d) :
    Calls Tryz.prog 18 #[.int .i64 n, .int .i64 k, .int .i64 d] w (Ret3 w (.int .i64 0) (.int .i64 0) (.int .i64 2)) := by
  refine bound_rest _ _ _ _ _ _ w (fun w1 hb hs c0 c1 c2 => caught_pan _ _ _ _ w1 ?_)
  have hb2 := below_two (w := w1) (.cells #[.int .i64 0, .int .i64 0] 89) (.cells #[.int .i64 0] 40)
  exact bound1_no n k d _ _ _ _ hno (by simp; omega) (by simp; omega) (by simp; omega)
    ((hb2.cell (p := ⟨w.heap.size, 0, none⟩) (by show w.heap.size < _; omega)).trans c0) ((hb2.cell (p := ⟨w.heap.size + 1, 0, none⟩) (by show w.heap.size + 1 < _; omega)).trans c1) ((hb2.cell (p := ⟨w.heap.size + 1 + 1, 0, none⟩) (by show w.heap.size + 1 + 1 < _; omega)).trans c2)

set_option maxHeartbeats 400000 in
theorem draw_no (s n : Int) (w : World) (h : n < 1 ∨ 2147483648 < n) :
    Calls Tryz.prog 6 #[.int .u64 s, .int .i64 n] w (Ret3 w (.int .u64 0) (.int .i64 0) (.int .i64 2)) := by
  rcases h with h | h
  · go_enter Tryz.func6, Tryz.ntmps6
    go_wp2
    go_ret3
    exact ⟨rfl, Below.refl _ _⟩
  · go_enter Tryz.func6, Tryz.ntmps6
    go_wp2
    go_ret3
    exact ⟨rfl, Below.refl _ _⟩

/-- the state after a state; the number that it gives -/
def nextS (s : Int) : Int := IntKind.u64.wrap (IntKind.u64.wrap (6364136223846793005 * s) + 1442695040888963407)
def pickS (t n : Int) : Int := (wrap64 (t / 8589934592)).tmod n

set_option maxHeartbeats 400000 in
theorem roll_any (p : Nat) (s n : Int) (w : World) (hp : w.heap[p]? = some (.cells #[.int .u64 s] 71 (0, 0))) (hn : 1 ≤ n) (hn2 : n ≤ 2147483648) :
    Calls Tryz.prog 20 #[.pointer (some ⟨p, 0, none⟩), .int .i64 n] w (fun e w' => e = .returned (.int .i64 (pickS (nextS s) n)) ∧ w.setCell ⟨p, 0, none⟩ (.int .u64 (nextS s)) = w') := by
  have p0 := (obj_cell hp 0).trans rfl
  have p1 := obj_free hp 0
  go_enter Tryz.func20, Tryz.ntmps20
  go_wp2
  go_ret
  exact ⟨rfl, rfl⟩

set_option maxHeartbeats 400000 in
theorem draw_any (s n : Int) (w : World) (hn : 1 ≤ n) (hn2 : n ≤ 2147483648) :
    Calls Tryz.prog 6 #[.int .u64 s, .int .i64 n] w (Ret3 w (.int .u64 (nextS s)) (.int .i64 (pickS (nextS s) n)) (.int .i64 0)) := by
  have h1 : ¬ n < 1 := by omega
  have h2 : ¬ 2147483648 < n := by omega
  have hnew := heap_alloc_new w (.cells #[.int .u64 s] 71)
  have Hnew := Lib.hid hnew; clear hnew
  go_enter Tryz.func6, Tryz.ntmps6
  go_wp2_with fail
  refine (roll_any w.heap.size s n _ Hnew.out hn hn2).mono ?_
  rintro e w' ⟨rfl, rfl⟩
  go_wp2
  go_ret3
  exact ⟨rfl, (Below.refl _ _).alloc (Nat.le_refl _) _⟩

end Go.Proofs.YthommhfppeonpaaGreatDoor

namespace Go.Proofs.YthommhfppeonpaaGreatDoor
open Go.RowKit

set_option maxHeartbeats 400000 in
theorem bounds_true (N k : Nat) (d lo hi : Int) (w : World) (hN1 : 1 ≤ N) (hN : N ≤ 200) (hk : k ≤ N) (h1 : 1 ≤ d) (h2 : d ≤ 999999) (hlo : lowOf N k d = lo) (hhi : highOf N k d = hi) :
    Calls Tryz.prog 19 #[.int .i64 (N : Int), .int .i64 (k : Int), .int .i64 d, .int .i64 lo, .int .i64 hi] w (RetB w (.bool true)) := by
  have hb := bound_ok N k d w hN1 hN hk h1 h2
  rw [hlo, hhi] at hb
  have Hb := Lib.hid hb; clear hb hlo hhi
  go_enter Tryz.func19, Tryz.ntmps19
  go_wp2_with fail
  refine Hb.out.mono ?_
  rintro e w1 ⟨rfl, hb1⟩
  go_wp2
  go_ret
  exact ⟨by simp, hb1⟩

theorem ex1 : lowOf 1 1 500000 = 50 ∧ highOf 1 1 500000 = 100 := by decide +kernel
theorem ex2 : lowOf 1 0 250000 = 0 ∧ highOf 1 0 250000 = 75 := by decide +kernel
theorem ex3 : lowOf 2 2 250000 = 50 ∧ highOf 2 2 250000 = 100 := by decide +kernel
theorem ex4 : lowOf 2 1 750000 = 50 ∧ highOf 2 1 750000 = 50 := by decide +kernel
theorem exD : nextS 0 = 1442695040888963407 ∧ pickS (nextS 0) 10 = 7 := by decide +kernel

set_option maxRecDepth 100000 in
set_option maxHeartbeats 1600000 in
theorem works_true (w : World) : Calls Tryz.prog 5 #[] w (RetB w (.bool true)) := by
  have hd := draw_any 0 10
  rw [exD.2, exD.1] at hd
  have Hd := Lib.hid hd; clear hd
  go_enter Tryz.func5, Tryz.ntmps5
  go_wp2_with fail
  refine (Hd.out w (by omega) (by omega)).mono ?_
  rintro e w1 ⟨rfl, hb1⟩
  go_wp2_with fail
  refine (draw_no 0 0 w1 (by omega)).mono ?_
  rintro e w2 ⟨rfl, hb2⟩
  go_wp2_with fail
  refine (bound_no 0 0 1 w2 (by omega)).mono ?_
  rintro e w3 ⟨rfl, hb3⟩
  go_wp2_with fail
  refine (bounds_true 1 1 500000 50 100 w3 (by omega) (by omega) (by omega) (by omega) (by omega) ex1.1 ex1.2).mono ?_
  rintro e w4 ⟨rfl, hb4⟩
  go_wp2_with fail
  refine (bounds_true 1 0 250000 0 75 w4 (by omega) (by omega) (by omega) (by omega) (by omega) ex2.1 ex2.2).mono ?_
  rintro e w5 ⟨rfl, hb5⟩
  go_wp2_with fail
  refine (bounds_true 2 2 250000 50 100 w5 (by omega) (by omega) (by omega) (by omega) (by omega) ex3.1 ex3.2).mono ?_
  rintro e w6 ⟨rfl, hb6⟩
  go_wp2_with fail
  refine (bounds_true 2 1 750000 50 50 w6 (by omega) (by omega) (by omega) (by omega) (by omega) ex4.1 ex4.2).mono ?_
  rintro e w7 ⟨rfl, hb7⟩
  go_wp2
  go_ret
  exact ⟨rfl, hb1.trans ((hb2.trans ((hb3.trans ((hb4.trans ((hb5.trans ((hb6.trans (hb7.mono hb6.size)).mono hb5.size)).mono hb4.size)).mono hb3.size)).mono hb2.size)).mono hb1.size)⟩

end Go.Proofs.YthommhfppeonpaaGreatDoor

namespace Go.Proofs.YthommhfppeonpaaGreatDoor
open Go.RowKit

/-- a surface, its coating apart -/
structure Surf where
  kind : Int
  curv : Int
  conic : Int
  curvX : Int
  conicX : Int
  a0 : Int
  a1 : Int
  a2 : Int
  a3 : Int
  p0 : Int
  p1 : Int
  order : Int
  thick : Int
  glass : ByteArray
  semi : Int
  hole : Int
  dx : Int
  dy : Int
  ax : Int
  ay : Int
  az : Int
  deriving DecidableEq

/-- the slice (a, n, c) of records of k ints each reads as the ints zs; its block is below N -/
def IR (N : Nat) (w : World) (k : Nat) (a : Option Addr) (n c : Nat) (zs : List Int) : Prop :=
  zs.length = n * k ∧ n ≤ c ∧ (0 < n → ∃ b off, a = some ⟨b, off, none⟩ ∧ b < N ∧ ∀ j, j < n * k → w.cell? ⟨b, off + j, none⟩ = some (.int .i64 (zs.getD j 0)))

theorem IR.below {N M : Nat} {w w' : World} {k : Nat} {a : Option Addr} {n c : Nat} {zs : List Int} (h : IR N w k a n c zs) (hb : Below M w w') (hN : N ≤ M) : IR N w' k a n c zs :=
  ⟨h.1, h.2.1, fun hn => let ⟨b, off, e, hlt, hc⟩ := h.2.2 hn; ⟨b, off, e, hlt, fun j hj => (hb.cell (p := ⟨b, off + j, none⟩) (Nat.lt_of_lt_of_le hlt hN)).trans (hc j hj)⟩⟩
theorem IR.mono {N M : Nat} {w : World} {k : Nat} {a : Option Addr} {n c : Nat} {zs : List Int} (h : IR N w k a n c zs) (hN : N ≤ M) : IR M w k a n c zs :=
  ⟨h.1, h.2.1, fun hn => let ⟨b, off, e, hlt, hc⟩ := h.2.2 hn; ⟨b, off, e, Nat.lt_of_lt_of_le hlt hN, hc⟩⟩
theorem IR.go {w w' : World} {k : Nat} {a : Option Addr} {n c : Nat} {zs : List Int} (h : IR w.heap.size w k a n c zs) (hb : Below w.heap.size w w') : IR w'.heap.size w' k a n c zs :=
  (h.below hb (Nat.le_refl _)).mono hb.size
theorem IR.nil (N : Nat) (w : World) (k : Nat) (a : Option Addr) (c : Nat) : IR N w k a 0 c [] := ⟨by simp, Nat.zero_le _, fun h => absurd h (by omega)⟩
theorem IR.of_sl {N : Nat} {w : World} {a : Option Addr} {n c : Nat} {zs : List Int} (h : SL N w a n c zs) : IR N w 1 a n c zs := ⟨by rw [Nat.mul_one]; exact h.1.symm, h.2.1, fun hn => by rw [Nat.mul_one]; exact h.2.2 hn⟩

/-- block g holds a surface -/
def SurfB (w : World) (g : Nat) (s : Surf) (a : Option Addr) (n c : Nat) : Prop := w.heap[g]? = some (.cells #[.int .i64 s.kind, .int .i64 s.curv, .int .i64 s.conic, .int .i64 s.curvX, .int .i64 s.conicX, .int .i64 s.a0, .int .i64 s.a1, .int .i64 s.a2, .int .i64 s.a3, .int .i64 s.p0, .int .i64 s.p1, .int .i64 s.order, .int .i64 s.thick, .string s.glass, .int .i64 s.semi, .int .i64 s.hole, .int .i64 s.dx, .int .i64 s.dy, .int .i64 s.ax, .int .i64 s.ay, .int .i64 s.az, .slice a n c] 92 (0, 0))

theorem SurfB.lt {w : World} {g : Nat} {s : Surf} {a : Option Addr} {n c : Nat} (h : SurfB w g s a n c) : g < w.heap.size := lt_of_block h
theorem SurfB.go {w w' : World} {g : Nat} {s : Surf} {a : Option Addr} {n c B : Nat} (h : SurfB w g s a n c) (hb : Below B w w') (hg : g < B) : SurfB w' g s a n c := (hb.block g hg).trans h
theorem SurfB.new (w : World) (s : Surf) (a : Option Addr) (n c : Nat) : SurfB (w.alloc (.cells #[.int .i64 s.kind, .int .i64 s.curv, .int .i64 s.conic, .int .i64 s.curvX, .int .i64 s.conicX, .int .i64 s.a0, .int .i64 s.a1, .int .i64 s.a2, .int .i64 s.a3, .int .i64 s.p0, .int .i64 s.p1, .int .i64 s.order, .int .i64 s.thick, .string s.glass, .int .i64 s.semi, .int .i64 s.hole, .int .i64 s.dx, .int .i64 s.dy, .int .i64 s.ax, .int .i64 s.ay, .int .i64 s.az, .slice a n c] 92)) w.heap.size s a n c := heap_alloc_new w _

theorem SurfB.cells {w : World} {g : Nat} {s : Surf} {a : Option Addr} {n c : Nat} (h : SurfB w g s a n c) :
    w.cell? ⟨g, 0, none⟩ = some (.int .i64 s.kind) ∧ w.cell? ⟨g, 1, none⟩ = some (.int .i64 s.curv) ∧ w.cell? ⟨g, 2, none⟩ = some (.int .i64 s.conic) ∧ w.cell? ⟨g, 3, none⟩ = some (.int .i64 s.curvX) ∧ w.cell? ⟨g, 4, none⟩ = some (.int .i64 s.conicX) ∧
    w.cell? ⟨g, 5, none⟩ = some (.int .i64 s.a0) ∧ w.cell? ⟨g, 6, none⟩ = some (.int .i64 s.a1) ∧ w.cell? ⟨g, 7, none⟩ = some (.int .i64 s.a2) ∧ w.cell? ⟨g, 8, none⟩ = some (.int .i64 s.a3) ∧ w.cell? ⟨g, 9, none⟩ = some (.int .i64 s.p0) ∧ w.cell? ⟨g, 10, none⟩ = some (.int .i64 s.p1) ∧
    w.cell? ⟨g, 11, none⟩ = some (.int .i64 s.order) ∧ w.cell? ⟨g, 12, none⟩ = some (.int .i64 s.thick) ∧ w.cell? ⟨g, 13, none⟩ = some (.string s.glass) ∧ w.cell? ⟨g, 14, none⟩ = some (.int .i64 s.semi) ∧ w.cell? ⟨g, 15, none⟩ = some (.int .i64 s.hole) ∧
    w.cell? ⟨g, 16, none⟩ = some (.int .i64 s.dx) ∧ w.cell? ⟨g, 17, none⟩ = some (.int .i64 s.dy) ∧ w.cell? ⟨g, 18, none⟩ = some (.int .i64 s.ax) ∧ w.cell? ⟨g, 19, none⟩ = some (.int .i64 s.ay) ∧ w.cell? ⟨g, 20, none⟩ = some (.int .i64 s.az) ∧ w.cell? ⟨g, 21, none⟩ = some (.slice a n c) := by
  unfold SurfB at h
  refine ⟨?_, ?_, ?_, ?_, ?_, ?_, ?_, ?_, ?_, ?_, ?_, ?_, ?_, ?_, ?_, ?_, ?_, ?_, ?_, ?_, ?_, ?_⟩ <;> simp [World.cell?, h]
theorem SurfB.free {w : World} {g : Nat} {s : Surf} {a : Option Addr} {n c : Nat} (h : SurfB w g s a n c) (k : Nat) : w.frozen? ⟨g, k, none⟩ = false := by
  unfold SurfB at h; simp [World.frozen?, h]

theorem below_chain {w A w' : World} (h1 : Below w.heap.size w A) (h2 : Below A.heap.size A w') : Below w.heap.size w w' := h1.trans (h2.mono h1.size)
theorem below_al {w A : World} {o : Obj} (h : Below w.heap.size w A) : Below w.heap.size w (A.alloc o) := h.alloc h.size _
theorem below_dr {w A : World} (h : Below w.heap.size w A) : Below w.heap.size w A.drew := ⟨h.os, h.tape, h.output, h.size, h.block⟩
theorem below_st {w A : World} {p : Addr} {v : Value} (h : Below w.heap.size w A) (hp : w.heap.size ≤ p.block) : Below w.heap.size w (A.setCell p v) := h.setCell hp _

theorem heap3 (w : World) (o p q : Obj) : (((w.alloc o).alloc p).alloc q).heap[w.heap.size]? = some o ∧ (((w.alloc o).alloc p).alloc q).heap[w.heap.size + 1]? = some p ∧ (((w.alloc o).alloc p).alloc q).heap[w.heap.size + 2]? = some q := by
  obtain ⟨e1, e2⟩ := heap_two w o p
  refine ⟨?_, ?_, ?_⟩
  · rw [Below.heap_alloc _ _ _ (by simp <;> omega)]; exact e1
  · rw [Below.heap_alloc _ _ _ (by simp)]; exact e2
  · have := heap_alloc_new ((w.alloc o).alloc p) q
    simpa using this
theorem belowT (w : World) (o p q : Obj) : Below w.heap.size w (((w.alloc o).alloc p).alloc q) := below_al (below_al (below_al (Below.refl _ _)))

/-- from here on only this is known of the world -/
theorem step_world {P : Program} {c : Code} {Q : Exit → Act → World → Prop} {a : Act} {w : World} (F : World → Prop) (hF : F w) (h : ∀ w', F w' → c.wp P Q a w') : c.wp P Q a w := h w hF
theorem step_list {P : Program} {ops : Array Oper} {l : List Oper} {Q : Exit → Act → World → Prop} {a : Act} {w : World} (F : World → Prop) (hF : F w) (h : ∀ w', F w' → wpList P ops Q l a w') : wpList P ops Q l a w := h w hF

/-- the world behind a store of a surface -/
def W22 (w : World) (g : Nat) (s : Surf) (a : Option Addr) (n c : Nat) : World := ((((((((((((((((((((((w.setCell ⟨g, 0, none⟩ (.int .i64 s.kind)).setCell ⟨g, 1, none⟩ (.int .i64 s.curv)).setCell ⟨g, 2, none⟩ (.int .i64 s.conic)).setCell ⟨g, 3, none⟩ (.int .i64 s.curvX)).setCell ⟨g, 4, none⟩ (.int .i64 s.conicX)).setCell ⟨g, 5, none⟩ (.int .i64 s.a0)).setCell ⟨g, 6, none⟩ (.int .i64 s.a1)).setCell ⟨g, 7, none⟩ (.int .i64 s.a2)).setCell ⟨g, 8, none⟩ (.int .i64 s.a3)).setCell ⟨g, 9, none⟩ (.int .i64 s.p0)).setCell ⟨g, 10, none⟩ (.int .i64 s.p1)).setCell ⟨g, 11, none⟩ (.int .i64 s.order)).setCell ⟨g, 12, none⟩ (.int .i64 s.thick)).setCell ⟨g, 13, none⟩ (.string s.glass)).setCell ⟨g, 14, none⟩ (.int .i64 s.semi)).setCell ⟨g, 15, none⟩ (.int .i64 s.hole)).setCell ⟨g, 16, none⟩ (.int .i64 s.dx)).setCell ⟨g, 17, none⟩ (.int .i64 s.dy)).setCell ⟨g, 18, none⟩ (.int .i64 s.ax)).setCell ⟨g, 19, none⟩ (.int .i64 s.ay)).setCell ⟨g, 20, none⟩ (.int .i64 s.az)).setCell ⟨g, 21, none⟩ (.slice a n c))

theorem SurfB.stored {w : World} {g : Nat} {cs : Array Value} (h : w.heap[g]? = some (.cells cs 92 (0, 0))) (hs : cs.size = 22) (s : Surf) (a : Option Addr) (n c : Nat) : SurfB (W22 w g s a n c) g s a n c := by
  obtain ⟨l, rfl⟩ : ∃ l : List Value, cs = l.toArray := ⟨cs.toList, by simp⟩
  have hs : l.length = 22 := by simpa using hs
  match l, hs with
  | [x0, x1, x2, x3, x4, x5, x6, x7, x8, x9, x10, x11, x12, x13, x14, x15, x16, x17, x18, x19, x20, x21], _ =>
    have k := (obj_setCell (obj_setCell (obj_setCell (obj_setCell (obj_setCell (obj_setCell (obj_setCell (obj_setCell (obj_setCell (obj_setCell (obj_setCell (obj_setCell (obj_setCell (obj_setCell (obj_setCell (obj_setCell (obj_setCell (obj_setCell (obj_setCell (obj_setCell (obj_setCell (obj_setCell h 0 (.int .i64 s.kind)) 1 (.int .i64 s.curv)) 2 (.int .i64 s.conic)) 3 (.int .i64 s.curvX)) 4 (.int .i64 s.conicX)) 5 (.int .i64 s.a0)) 6 (.int .i64 s.a1)) 7 (.int .i64 s.a2)) 8 (.int .i64 s.a3)) 9 (.int .i64 s.p0)) 10 (.int .i64 s.p1)) 11 (.int .i64 s.order)) 12 (.int .i64 s.thick)) 13 (.string s.glass)) 14 (.int .i64 s.semi)) 15 (.int .i64 s.hole)) 16 (.int .i64 s.dx)) 17 (.int .i64 s.dy)) 18 (.int .i64 s.ax)) 19 (.int .i64 s.ay)) 20 (.int .i64 s.az)) 21 (.slice a n c))
    simp only [List.setIfInBounds_toArray, List.set_cons_zero, List.set_cons_succ] at k
    exact k

theorem W22.other {w : World} {g g' : Nat} {o : Obj} (h : w.heap[g']? = some o) (hne : g ≠ g') (s : Surf) (a : Option Addr) (n c : Nat) : (W22 w g s a n c).heap[g']? = some o := by
  unfold W22
  exact (obj_other (obj_other (obj_other (obj_other (obj_other (obj_other (obj_other (obj_other (obj_other (obj_other (obj_other (obj_other (obj_other (obj_other (obj_other (obj_other (obj_other (obj_other (obj_other (obj_other (obj_other (obj_other h ⟨g, 0, none⟩ hne _) ⟨g, 1, none⟩ hne _) ⟨g, 2, none⟩ hne _) ⟨g, 3, none⟩ hne _) ⟨g, 4, none⟩ hne _) ⟨g, 5, none⟩ hne _) ⟨g, 6, none⟩ hne _) ⟨g, 7, none⟩ hne _) ⟨g, 8, none⟩ hne _) ⟨g, 9, none⟩ hne _) ⟨g, 10, none⟩ hne _) ⟨g, 11, none⟩ hne _) ⟨g, 12, none⟩ hne _) ⟨g, 13, none⟩ hne _) ⟨g, 14, none⟩ hne _) ⟨g, 15, none⟩ hne _) ⟨g, 16, none⟩ hne _) ⟨g, 17, none⟩ hne _) ⟨g, 18, none⟩ hne _) ⟨g, 19, none⟩ hne _) ⟨g, 20, none⟩ hne _) ⟨g, 21, none⟩ hne _)
theorem Below.put22 {B : Nat} {w w' : World} {g : Nat} (h : Below B w w') (hg : B ≤ g) (s : Surf) (a : Option Addr) (n c : Nat) : Below B w (W22 w' g s a n c) := by
  unfold W22
  exact ((((((((((((((((((((((h.setCell hg _).setCell hg _).setCell hg _).setCell hg _).setCell hg _).setCell hg _).setCell hg _).setCell hg _).setCell hg _).setCell hg _).setCell hg _).setCell hg _).setCell hg _).setCell hg _).setCell hg _).setCell hg _).setCell hg _).setCell hg _).setCell hg _).setCell hg _).setCell hg _).setCell hg _)

theorem SurfB.range {w : World} {g : Nat} {s : Surf} {a : Option Addr} {n c : Nat} (h : SurfB w g s a n c) : w.rangeAt g 0 [.int .i64 s.kind, .int .i64 s.curv, .int .i64 s.conic, .int .i64 s.curvX, .int .i64 s.conicX, .int .i64 s.a0, .int .i64 s.a1, .int .i64 s.a2, .int .i64 s.a3, .int .i64 s.p0, .int .i64 s.p1, .int .i64 s.order, .int .i64 s.thick, .string s.glass, .int .i64 s.semi, .int .i64 s.hole, .int .i64 s.dx, .int .i64 s.dy, .int .i64 s.ax, .int .i64 s.ay, .int .i64 s.az, .slice a n c] := by
  intro j v hj
  unfold SurfB at h
  simp only [World.cell?, h, Nat.zero_add]
  simpa using hj

theorem Tryz.infoSurf : (Tryz.prog.info? 92).map (·.size) = some 22 := by kernel_rfl

/-- a surface is loaded -/
theorem wpL_load_surf {ops : Array Oper} {rest : List Oper} {op : Oper} {ac : Act} {w : World} {Q : Exit → Act → World → Prop} {g : Nat} {s : Surf} {a : Option Addr} {n c : Nat} (h : SurfB w g s a n c) (hgd : op.guard = none) (x : Operand) (ho : op.op = .load 92 x)
    (hx : ac.eval x = .pointer (some ⟨g, 0, none⟩)) (hk : wpList Tryz.prog ops Q rest (ac.put op.dst (.agg #[.int .i64 s.kind, .int .i64 s.curv, .int .i64 s.conic, .int .i64 s.curvX, .int .i64 s.conicX, .int .i64 s.a0, .int .i64 s.a1, .int .i64 s.a2, .int .i64 s.a3, .int .i64 s.p0, .int .i64 s.p1, .int .i64 s.order, .int .i64 s.thick, .string s.glass, .int .i64 s.semi, .int .i64 s.hole, .int .i64 s.dx, .int .i64 s.dy, .int .i64 s.ax, .int .i64 s.ay, .int .i64 s.az, .slice a n c])) w) : wpList Tryz.prog ops Q (op :: rest) ac w :=
  wpList_load_mid hgd 92 x ho g 0 hx [.int .i64 s.kind, .int .i64 s.curv, .int .i64 s.conic, .int .i64 s.curvX, .int .i64 s.conicX, .int .i64 s.a0, .int .i64 s.a1, .int .i64 s.a2, .int .i64 s.a3, .int .i64 s.p0, .int .i64 s.p1, .int .i64 s.order, .int .i64 s.thick, .string s.glass, .int .i64 s.semi, .int .i64 s.hole, .int .i64 s.dx, .int .i64 s.dy, .int .i64 s.ax, .int .i64 s.ay, .int .i64 s.az, .slice a n c] _ h.range Tryz.underlying92 rfl Tryz.infoSurf hk

/-- a surface is stored -/
theorem wpL_store_surf {ops : Array Oper} {rest : List Oper} {op : Oper} {ac : Act} {w : World} {Q : Exit → Act → World → Prop} {g : Nat} {cs : Array Value} (s : Surf) (a : Option Addr) (n c : Nat) (h : w.heap[g]? = some (.cells cs 92 (0, 0))) (hsz : cs.size = 22) (hgd : op.guard = none) (x y : Operand) (ho : op.op = .store 92 x y)
    (hx : ac.eval x = .pointer (some ⟨g, 0, none⟩)) (hy : ac.eval y = .agg #[.int .i64 s.kind, .int .i64 s.curv, .int .i64 s.conic, .int .i64 s.curvX, .int .i64 s.conicX, .int .i64 s.a0, .int .i64 s.a1, .int .i64 s.a2, .int .i64 s.a3, .int .i64 s.p0, .int .i64 s.p1, .int .i64 s.order, .int .i64 s.thick, .string s.glass, .int .i64 s.semi, .int .i64 s.hole, .int .i64 s.dx, .int .i64 s.dy, .int .i64 s.ax, .int .i64 s.ay, .int .i64 s.az, .slice a n c]) (hk : wpList Tryz.prog ops Q rest (ac.put op.dst undef) (W22 w g s a n c)) : wpList Tryz.prog ops Q (op :: rest) ac w :=
  wpList_store_mid hgd 92 x y ho g 0 _ hx hy (fun j hj => by
    have hj : j < 22 := hj
    simp [World.cell?, World.frozen?, h, hsz, hj]) Tryz.infoSurf (by simp [Value.oneCell']) hk

/-- a result that lies in a variable -/
theorem ret_surf {fn : Func} {p : Tmp} {tmps : Array Value} {w : World} {g : Nat} {s : Surf} {a : Option Addr} {n c : Nat} (h : fn.results = #[.cell p 92]) (hp : tmps.getD p undef = .pointer (some ⟨g, 0, none⟩)) (hs : SurfB w g s a n c) :
    (results fn tmps).run Tryz.prog w = .ok (.agg #[.int .i64 s.kind, .int .i64 s.curv, .int .i64 s.conic, .int .i64 s.curvX, .int .i64 s.conicX, .int .i64 s.a0, .int .i64 s.a1, .int .i64 s.a2, .int .i64 s.a3, .int .i64 s.p0, .int .i64 s.p1, .int .i64 s.order, .int .i64 s.thick, .string s.glass, .int .i64 s.semi, .int .i64 s.hole, .int .i64 s.dx, .int .i64 s.dy, .int .i64 s.ax, .int .i64 s.ay, .int .i64 s.az, .slice a n c]) w :=
  results_cell_row h tmps w g 92 _ (0, 0) _ hp hs Tryz.underlying92 rfl Tryz.infoSurf
theorem ret_surf_tmp {fn : Func} {p u : Tmp} {tmps : Array Value} {w : World} {g : Nat} {s : Surf} {a : Option Addr} {n c : Nat} {v : Value} (h : fn.results = #[.cell p 92, .tmp u]) (hp : tmps.getD p undef = .pointer (some ⟨g, 0, none⟩)) (hu : tmps.getD u undef = v) (hs : SurfB w g s a n c) :
    (results fn tmps).run Tryz.prog w = .ok (.tuple #[.agg #[.int .i64 s.kind, .int .i64 s.curv, .int .i64 s.conic, .int .i64 s.curvX, .int .i64 s.conicX, .int .i64 s.a0, .int .i64 s.a1, .int .i64 s.a2, .int .i64 s.a3, .int .i64 s.p0, .int .i64 s.p1, .int .i64 s.order, .int .i64 s.thick, .string s.glass, .int .i64 s.semi, .int .i64 s.hole, .int .i64 s.dx, .int .i64 s.dy, .int .i64 s.ax, .int .i64 s.ay, .int .i64 s.az, .slice a n c], v]) w := by
  rw [results_cell_tmp h, hp, hu]
  simp only [asAddr, Sem.run_pure, Result.andThen_ok]
  rw [run_loadVar_row w g 92 92 _ (0, 0) _ hs Tryz.underlying92 rfl Tryz.infoSurf]
  rfl

end Go.Proofs.YthommhfppeonpaaGreatDoor

namespace Go.Proofs.YthommhfppeonpaaGreatDoor
open Go.RowKit

/-- one of the numbers lies outside of a range -/
def outB (low high : Int) (zs : List Int) : Bool := zs.any fun z => decide (z < low) || decide (high < z)

theorem any_take {f : Int → Bool} {zs : List Int} {k : Nat} (h : k < zs.length) (h0 : (zs.take k).any f = false) : (zs.take (k + 1)).any f = f (zs.getD k 0) := by
  rw [List.take_succ_eq_append_getElem h, List.any_append, h0]
  simp [List.getD_eq_getElem?_getD, h]

set_option maxRecDepth 100000 in
theorem lit_between (low high z : Int) (bl bh : Nat) (w : World) (hl : w.cell? ⟨bl, 0, none⟩ = some (.int .i64 low)) (hh : w.cell? ⟨bh, 0, none⟩ = some (.int .i64 high)) :
    Calls Tryz.prog 136 #[.int .i64 z, .pointer (some ⟨bl, 0, none⟩), .pointer (some ⟨bh, 0, none⟩)] w (RetB w (.bool (decide (z < low) || decide (high < z)))) := by
  by_cases h1 : z < low
  · go_enter Tryz.func136, Tryz.ntmps136
    go_wp2
    go_ret
    exact ⟨by simp [h1], Below.refl _ _⟩
  · by_cases h2 : high < z
    all_goals
      go_enter Tryz.func136, Tryz.ntmps136
      go_wp2
      go_ret
      exact ⟨by simp [h1, h2], Below.refl _ _⟩

/-- a call that gives back a place: at least 0 just if there is one -/
def RetAt (w : World) (b : Bool) (e : Ending) (w' : World) : Prop := ∃ r : Int, e = .returned (.int .i64 r) ∧ decide (0 ≤ r) = b ∧ Below w.heap.size w w'

set_option maxRecDepth 100000 in
set_option maxHeartbeats 800000 in
theorem index_between (low high : Int) (zs : List Int) (a : Option Addr) (n c bl bh : Nat) (w : World) (hs : SL w.heap.size w a n c zs) (hn : n ≤ 1000000) (hl : w.cell? ⟨bl, 0, none⟩ = some (.int .i64 low)) (hh : w.cell? ⟨bh, 0, none⟩ = some (.int .i64 high)) (ll : bl < w.heap.size) (lh : bh < w.heap.size) :
    Calls Tryz.prog 143 #[.slice a n c, .func (.func 136) #[] #[.pointer (some ⟨bl, 0, none⟩), .pointer (some ⟨bh, 0, none⟩)]] w (RetAt w (outB low high zs)) := by
  have hlen := hs.len
  have Hs := Lib.hid hs; have Hl := Lib.hid hl; have Hh := Lib.hid hh; have Hlen := Lib.hid hlen
  clear hs hl hh hlen
  go_enter Tryz.func143, Tryz.ntmps143
  go_wp2_with fail
  go_loopw [8] (fun iv wr => ∃ k : Nat, k ≤ n ∧ iv = .int .i64 (k : Int) ∧ outB low high (zs.take k) = false ∧ Below w.heap.size w wr) (fun iv _ => n - (intOf iv).toNat)
  case atStart => exact ⟨0, Nat.zero_le _, rfl, rfl, Below.refl _ _⟩
  case round =>
    obtain ⟨k, hk, rfl, ho, hb⟩ := hrel
    have Ho := Lib.hid ho; have Hb := Lib.hid hb
    clear ho hb
    by_cases hkn : k < n
    · obtain ⟨b, off, rfl, hlt, hc⟩ := (Hs.out.go Hb.out).at (by omega)
      have c0 := hc k hkn
      clear hc
      have hnext := any_take (k := k) (by rw [← Hlen.out]; exact hkn) Ho.out
      generalize zs.getD k 0 = z at *
      have c1 := (Hb.out.cell (p := ⟨bl, 0, none⟩) ll).trans Hl.out
      have c2 := (Hb.out.cell (p := ⟨bh, 0, none⟩) lh).trans Hh.out
      have C1 := Lib.hid c1; have C2 := Lib.hid c2
      clear c1 c2
      have Hn := Lib.hid hnext; clear hnext
      by_cases hv : (decide (z < low) || decide (high < z)) = true
      · have Hv := Lib.hid hv; clear hv
        go_wp2_with fail
        refine (lit_between low high z bl bh _ C1.out C2.out).mono ?_
        rintro e w2 ⟨he, hb2⟩
        rw [Hv.out] at he
        subst he
        go_wp2
        go_ret
        refine ⟨(k : Int), rfl, ?_, Hb.out.trans (hb2.mono Hb.out.size)⟩
        rw [decide_eq_true (by omega)]
        have h1 := Hn.out
        rw [Hv.out] at h1
        symm
        unfold outB
        obtain ⟨x, hx, hx2⟩ := List.any_eq_true.1 h1
        exact List.any_eq_true.2 ⟨x, List.mem_of_mem_take hx, hx2⟩
      · have hv : (decide (z < low) || decide (high < z)) = false := by simpa using hv
        have Hv := Lib.hid hv; clear hv
        go_wp2_with fail
        refine (lit_between low high z bl bh _ C1.out C2.out).mono ?_
        rintro e w2 ⟨he, hb2⟩
        rw [Hv.out] at he
        subst he
        have Hb2 := Lib.hid (Hb.out.trans (hb2.mono Hb.out.size))
        clear hb2
        go_wp2_with fail
        go_roundw
        case rel => exact ⟨k + 1, by omega, by go_num, Hn.out.trans Hv.out, Hb2.out⟩
        case measure => simp [intOf]; omega
    · obtain rfl : k = n := by omega
      go_wp2
      go_ret
      refine ⟨-1, rfl, ?_, Hb.out⟩
      have h1 := Ho.out
      rw [Hlen.out, List.take_length] at h1
      rw [h1]; rfl

set_option maxRecDepth 100000 in
theorem outside_any (low high : Int) (zs : List Int) (a : Option Addr) (n c bl bh : Nat) (w : World) (hs : SL w.heap.size w a n c zs) (hn : n ≤ 1000000) (hl : w.cell? ⟨bl, 0, none⟩ = some (.int .i64 low)) (hh : w.cell? ⟨bh, 0, none⟩ = some (.int .i64 high)) (ll : bl < w.heap.size) (lh : bh < w.heap.size) :
    Calls Tryz.prog 135 #[.slice a n c, .func (.func 136) #[] #[.pointer (some ⟨bl, 0, none⟩), .pointer (some ⟨bh, 0, none⟩)]] w (RetB w (.bool (outB low high zs))) := by
  have Hl := Lib.hid hl; have Hh := Lib.hid hh
  clear hl hh
  go_enter Tryz.func135, Tryz.ntmps135
  go_wp2_with fail
  refine (index_between low high zs a n c bl bh _ hs hn Hl.out Hh.out ll lh).mono ?_
  rintro e w2 ⟨r, rfl, hr, hb⟩
  by_cases h0 : 0 ≤ r
  · rw [decide_eq_true h0] at hr
    have Hr := Lib.hid hr; clear hr
    go_wp2
    go_ret
    exact ⟨by rw [← Hr.out]; rfl, hb⟩
  · rw [decide_eq_false h0] at hr
    have Hr := Lib.hid hr; clear hr
    have h1 : decide (0 ≤ r) = false := decide_eq_false h0
    go_wp2
    go_ret
    exact ⟨by rw [← Hr.out]; rfl, hb⟩

set_option maxRecDepth 100000 in
theorem between_any (low high : Int) (zs : List Int) (a : Option Addr) (n c : Nat) (w : World) (hs : SL w.heap.size w a n c zs) (hn : n ≤ 1000000) :
    Calls Tryz.prog 116 #[.int .i64 low, .int .i64 high, .slice a n c] w (RetB w (.bool (!outB low high zs))) := by
  obtain ⟨e1, e2⟩ := heap_two w (.cells #[.int .i64 low] 3) (.cells #[.int .i64 high] 3)
  have hb := below_two (w := w) (.cells #[.int .i64 low] 3) (.cells #[.int .i64 high] 3)
  have E1 := Lib.hid e1; have E2 := Lib.hid e2; have Hb := Lib.hid hb
  clear e1 e2 hb
  go_enter Tryz.func116, Tryz.ntmps116
  go_wp2_with fail
  refine (outside_any low high zs a n c w.heap.size (w.heap.size + 1) _ (hs.go Hb.out) hn ((obj_cell E1.out 0).trans rfl) ((obj_cell E2.out 0).trans rfl) (by simp <;> omega) (by simp)).mono ?_
  rintro e w2 ⟨rfl, hb⟩
  generalize outB low high zs = b at *
  go_wp2
  go_ret
  exact ⟨rfl, Hb.out.trans (hb.mono Hb.out.size)⟩

set_option maxRecDepth 100000 in
theorem about_any (most : Int) (zs : List Int) (a : Option Addr) (n c : Nat) (w : World) (hs : SL w.heap.size w a n c zs) (hn : n ≤ 1000000) (h0 : 0 ≤ most) (h1 : most ≤ 9223372036854775807) :
    Calls Tryz.prog 120 #[.int .i64 most, .slice a n c] w (RetB w (.bool (!outB (-most) most zs))) := by
  go_enter Tryz.func120, Tryz.ntmps120
  go_wp2_with fail
  refine (between_any (-most) most zs a n c _ hs hn).mono ?_
  rintro e w2 ⟨rfl, hb⟩
  generalize (!outB (-most) most zs) = b at *
  go_wp2
  go_ret
  exact ⟨rfl, hb⟩

end Go.Proofs.YthommhfppeonpaaGreatDoor

namespace Go.Proofs.YthommhfppeonpaaGreatDoor
open Go.RowKit

theorem sl_new {w : World} {cs : Array Value} {xs : List Int} (h : cs = (xs.map (Value.int .i64)).toArray) : SL (w.alloc (.cells cs 3)).heap.size (w.alloc (.cells cs 3)) (some ⟨w.heap.size, 0, none⟩) xs.length xs.length xs := by
  subst h
  refine Blk.sl ⟨[], ?_⟩ (Nat.le_refl _)
  rw [heap_alloc_new, List.append_nil]

theorem sl_at {w : World} {cs : Array Value} {xs : List Int} {b m : Nat} (hb : b = w.heap.size) (hm : m = xs.length) (h : cs = (xs.map (Value.int .i64)).toArray) : SL (w.alloc (.cells cs 3)).heap.size (w.alloc (.cells cs 3)) (some ⟨b, 0, none⟩) m m xs := by
  subst hb hm; exact sl_new h

def okFilm (i p q : Int) : Bool := !outB 10000000 40000000 [i] && !outB 0 1000 [p] && !outB 1 1000 [q]

theorem sl1 {w : World} {b : Nat} {x : Int} (hb : b = w.heap.size) : SL (w.alloc (.cells #[.int .i64 x] 3)).heap.size (w.alloc (.cells #[.int .i64 x] 3)) (some ⟨b, 0, none⟩) 1 1 [x] := sl_at hb rfl rfl
theorem sl2 {w : World} {b : Nat} {x0 x1 : Int} (hb : b = w.heap.size) : SL (w.alloc (.cells #[.int .i64 x0, .int .i64 x1] 3)).heap.size (w.alloc (.cells #[.int .i64 x0, .int .i64 x1] 3)) (some ⟨b, 0, none⟩) 2 2 [x0, x1] := sl_at hb rfl rfl
theorem sl3 {w : World} {b : Nat} {x0 x1 x2 : Int} (hb : b = w.heap.size) : SL (w.alloc (.cells #[.int .i64 x0, .int .i64 x1, .int .i64 x2] 3)).heap.size (w.alloc (.cells #[.int .i64 x0, .int .i64 x1, .int .i64 x2] 3)) (some ⟨b, 0, none⟩) 3 3 [x0, x1, x2] := sl_at hb rfl rfl
theorem sl5 {w : World} {b : Nat} {x0 x1 x2 x3 x4 : Int} (hb : b = w.heap.size) : SL (w.alloc (.cells #[.int .i64 x0, .int .i64 x1, .int .i64 x2, .int .i64 x3, .int .i64 x4] 3)).heap.size (w.alloc (.cells #[.int .i64 x0, .int .i64 x1, .int .i64 x2, .int .i64 x3, .int .i64 x4] 3)) (some ⟨b, 0, none⟩) 5 5 [x0, x1, x2, x3, x4] := sl_at hb rfl rfl

set_option maxRecDepth 100000 in
set_option maxHeartbeats 800000 in
theorem film_any (i p q : Int) (w : World) : Calls Tryz.prog 126 #[.agg #[.int .i64 i, .int .i64 p, .int .i64 q]] w (RetB w (.bool (okFilm i p q))) := by
  go_enter Tryz.func126, Tryz.ntmps126
  go_wp2_with ((with_reducible refine (between_any _ _ _ _ _ _ _ (sl1 (by simp)) (by omega)).mono ?_); rintro e w2 ⟨rfl, hb⟩; obtain ⟨hc, hf⟩ := bcells hb; (have hz : w.heap.size < w2.heap.size := by (have := hb.size; (try simp at this); omega)))
  all_goals
    go_ret
    refine ⟨?_, by (repeat (first | exact Below.refl _ _ | apply below_al | apply below_dr | exact below_chain1 (by assumption) | (refine below_chain ?_ (by assumption)) | (refine below_st ?_ ?_)))⟩
    simp [okFilm, *]

end Go.Proofs.YthommhfppeonpaaGreatDoor

namespace Go.Proofs.YthommhfppeonpaaGreatDoor
open Go.RowKit

theorem SurfB.asph {w : World} {g : Nat} {s : Surf} {a : Option Addr} {n c : Nat} (h : SurfB w g s a n c) : SL w.heap.size w (some ⟨g, 5, none⟩) 4 4 [s.a0, s.a1, s.a2, s.a3] := by
  obtain ⟨_, _, _, _, _, h5, h6, h7, h8, _⟩ := h.cells
  refine ⟨rfl, Nat.le_refl _, fun _ => ⟨g, 5, rfl, h.lt, fun j hj => ?_⟩⟩
  match j, hj with
  | 0, _ => exact h5
  | 1, _ => exact h6
  | 2, _ => exact h7
  | 3, _ => exact h8
theorem SurfB.phase {w : World} {g : Nat} {s : Surf} {a : Option Addr} {n c : Nat} (h : SurfB w g s a n c) : SL w.heap.size w (some ⟨g, 9, none⟩) 2 2 [s.p0, s.p1] := by
  obtain ⟨_, _, _, _, _, _, _, _, _, h9, h10, _⟩ := h.cells
  refine ⟨rfl, Nat.le_refl _, fun _ => ⟨g, 9, rfl, h.lt, fun j hj => ?_⟩⟩
  match j, hj with
  | 0, _ => exact h9
  | 1, _ => exact h10

def test2 (s : Surf) : Bool := !outB (-1000000000) 1000000000 [s.curv, s.curvX, s.thick, s.dx, s.dy] && !outB (-1000000000) 1000000000 [s.a0, s.a1, s.a2, s.a3] && !outB (-1000000000) 1000000000 [s.p0, s.p1]
def test3 (s : Surf) : Bool := !outB (-100000000) 100000000 [s.conic, s.conicX] && !outB (-90000000) 90000000 [s.ax, s.ay, s.az]
def test4 (s : Surf) : Bool := !outB (-3) 3 [s.order] && !outB 0 1000000000 [s.semi, s.hole]
def test5 (s : Surf) : Bool := decide (s.semi = 0) || decide (s.hole < s.semi)

set_option maxRecDepth 100000 in
set_option maxHeartbeats 1600000 in
theorem lit_test2 (s : Surf) (a : Option Addr) (n c g : Nat) (w : World) (h : SurfB w g s a n c) : Calls Tryz.prog 119 #[.pointer (some ⟨g, 0, none⟩)] w (RetB w (.bool (test2 s))) := by
  obtain ⟨k0, k1, k2, k3, k4, k5, k6, k7, k8, k9, k10, k11, k12, k13, k14, k15, k16, k17, k18, k19, k20, k21⟩ := h.cells
  have hg := h.lt
  have H := Lib.hid h; clear h
  go_enter Tryz.func119, Tryz.ntmps119
  go_wp2_with (first
    | ((with_reducible refine (about_any _ _ _ _ _ _ (sl5 (by simp)) (by omega) (by omega) (by omega)).mono ?_); rintro e w2 ⟨rfl, hb⟩; obtain ⟨hc, hf⟩ := bcells hb; (have hz : g < w2.heap.size := by (have := hb.size; (try simp at this); omega)); have B1 := Lib.hid (below_chain (below_al (Below.refl _ _)) hb); have S1 := Lib.hid (SurfB.asph (SurfB.go H.out B1.out hg)))
    | ((with_reducible refine (about_any _ _ _ _ _ _ S1.out (by omega) (by omega) (by omega)).mono ?_); rintro e w2 ⟨rfl, hb⟩; obtain ⟨hc, hf⟩ := bcells hb; (have hz : g < w2.heap.size := by (have := hb.size; (try simp at this); omega)); have B2 := Lib.hid (below_chain B1.out hb); have S2 := Lib.hid (SurfB.phase (SurfB.go H.out B2.out hg)))
    | ((with_reducible refine (about_any _ _ _ _ _ _ S2.out (by omega) (by omega) (by omega)).mono ?_); rintro e w2 ⟨rfl, hb⟩; obtain ⟨hc, hf⟩ := bcells hb; (have hz : g < w2.heap.size := by (have := hb.size; (try simp at this); omega))))
  all_goals
    go_ret
    refine ⟨?_, by (repeat (first | exact Below.refl _ _ | apply below_al | apply below_dr | exact below_chain1 (by assumption) | (refine below_chain ?_ (by assumption)) | (refine below_st ?_ ?_)))⟩
    simp [test2, *]

set_option maxRecDepth 100000 in
set_option maxHeartbeats 1600000 in
theorem lit_test3 (s : Surf) (a : Option Addr) (n c g : Nat) (w : World) (h : SurfB w g s a n c) : Calls Tryz.prog 121 #[.pointer (some ⟨g, 0, none⟩)] w (RetB w (.bool (test3 s))) := by
  obtain ⟨k0, k1, k2, k3, k4, k5, k6, k7, k8, k9, k10, k11, k12, k13, k14, k15, k16, k17, k18, k19, k20, k21⟩ := h.cells
  have hg := h.lt
  have H := Lib.hid h; clear h
  go_enter Tryz.func121, Tryz.ntmps121
  go_wp2_with (first
    | ((with_reducible refine (about_any _ _ _ _ _ _ (sl2 (by simp)) (by omega) (by omega) (by omega)).mono ?_); rintro e w2 ⟨rfl, hb⟩; obtain ⟨hc, hf⟩ := bcells hb; (have hz : g < w2.heap.size := by (have := hb.size; (try simp at this); omega)))
    | ((with_reducible refine (about_any _ _ _ _ _ _ (sl3 (by simp)) (by omega) (by omega) (by omega)).mono ?_); rintro e w2 ⟨rfl, hb⟩; obtain ⟨hc, hf⟩ := bcells hb; (have hz : g < w2.heap.size := by (have := hb.size; (try simp at this); omega))))
  all_goals
    go_ret
    refine ⟨?_, by (repeat (first | exact Below.refl _ _ | apply below_al | apply below_dr | exact below_chain1 (by assumption) | (refine below_chain ?_ (by assumption)) | (refine below_st ?_ ?_)))⟩
    simp [test3, *]

set_option maxRecDepth 100000 in
set_option maxHeartbeats 1600000 in
theorem lit_test4 (s : Surf) (a : Option Addr) (n c g : Nat) (w : World) (h : SurfB w g s a n c) : Calls Tryz.prog 122 #[.pointer (some ⟨g, 0, none⟩)] w (RetB w (.bool (test4 s))) := by
  obtain ⟨k0, k1, k2, k3, k4, k5, k6, k7, k8, k9, k10, k11, k12, k13, k14, k15, k16, k17, k18, k19, k20, k21⟩ := h.cells
  have hg := h.lt
  have H := Lib.hid h; clear h
  go_enter Tryz.func122, Tryz.ntmps122
  go_wp2_with (first
    | ((with_reducible refine (about_any _ _ _ _ _ _ (sl1 (by simp)) (by omega) (by omega) (by omega)).mono ?_); rintro e w2 ⟨rfl, hb⟩; obtain ⟨hc, hf⟩ := bcells hb; (have hz : g < w2.heap.size := by (have := hb.size; (try simp at this); omega)))
    | ((with_reducible refine (between_any _ _ _ _ _ _ _ (sl2 (by simp)) (by omega)).mono ?_); rintro e w2 ⟨rfl, hb⟩; obtain ⟨hc, hf⟩ := bcells hb; (have hz : g < w2.heap.size := by (have := hb.size; (try simp at this); omega))))
  all_goals
    go_ret
    refine ⟨?_, by (repeat (first | exact Below.refl _ _ | apply below_al | apply below_dr | exact below_chain1 (by assumption) | (refine below_chain ?_ (by assumption)) | (refine below_st ?_ ?_)))⟩
    simp [test4, *]

set_option maxRecDepth 100000 in
theorem lit_test5 (s : Surf) (a : Option Addr) (n c g : Nat) (w : World) (h : SurfB w g s a n c) : Calls Tryz.prog 123 #[.pointer (some ⟨g, 0, none⟩)] w (RetB w (.bool (test5 s))) := by
  obtain ⟨k0, k1, k2, k3, k4, k5, k6, k7, k8, k9, k10, k11, k12, k13, k14, k15, k16, k17, k18, k19, k20, k21⟩ := h.cells
  clear h
  go_enter Tryz.func123, Tryz.ntmps123
  go_wp2
  all_goals
    go_ret
    refine ⟨?_, Below.refl _ _⟩
    simp [test5, *]

set_option maxRecDepth 100000 in
theorem lit_test7 (s : Surf) (a : Option Addr) (n c g : Nat) (w : World) (h : SurfB w g s a n c) : Calls Tryz.prog 125 #[.pointer (some ⟨g, 0, none⟩)] w (RetB w (.bool (decide (n ≤ 8)))) := by
  obtain ⟨k0, k1, k2, k3, k4, k5, k6, k7, k8, k9, k10, k11, k12, k13, k14, k15, k16, k17, k18, k19, k20, k21⟩ := h.cells
  clear h
  go_enter Tryz.func125, Tryz.ntmps125
  go_wp2
  all_goals
    go_ret
    refine ⟨congrArg (fun b => Ending.returned (Value.bool b)) (decide_eq_decide.2 (by omega)), Below.refl _ _⟩

end Go.Proofs.YthommhfppeonpaaGreatDoor
