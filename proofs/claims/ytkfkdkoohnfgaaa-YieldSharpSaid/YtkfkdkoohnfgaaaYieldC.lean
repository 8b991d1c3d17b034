/-
  DERIVED. The walks of package yield, third part: row (the numbers of choices).
-/
import Derived.Test.YtkfkdkoohnfgaaaYieldB
namespace Go.Proofs.Ytkfkdkoohnfgaaa
open Go.RowKit

/-- the number of choices of k out of n -/
def ch : Nat → Nat → Nat
  | _, 0 => 1
  | 0, _ + 1 => 0
  | n + 1, k + 1 => ch n k + ch n (k + 1)

theorem ch_zero (n : Nat) : ch n 0 = 1 := by cases n <;> rfl
theorem ch_succ (n k : Nat) : ch (n + 1) (k + 1) = ch n k + ch n (k + 1) := rfl
theorem ch_gt : ∀ (n k : Nat), n < k → ch n k = 0
  | 0, k + 1, _ => rfl
  | n + 1, k + 1, h => by rw [ch_succ, ch_gt n k (by omega), ch_gt n (k + 1) (by omega)]
theorem ch_self (n : Nat) : ch n n = 1 := by
  induction n with
  | zero => rfl
  | succ n ih => rw [ch_succ, ih, ch_gt n (n + 1) (by omega)]
theorem ch_le : ∀ (n k : Nat), ch n k ≤ 2 ^ n
  | n, 0 => by rw [ch_zero]; exact Nat.one_le_two_pow
  | 0, k + 1 => by rw [ch_gt 0 (k + 1) (by omega)]; omega
  | n + 1, k + 1 => by rw [ch_succ, Nat.pow_succ]; have := ch_le n k; have := ch_le n (k + 1); omega
theorem ch_fit {n : Nat} (h : n ≤ 200) (k : Nat) : (digs ((ch n k : Nat) : Int).natAbs).length ≤ 600 := by
  rw [Int.natAbs_natCast]
  refine Nat.le_trans (length_digs_mono (Nat.le_trans (ch_le n k) (Nat.pow_le_pow_right (by omega) h))) ?_
  refine Nat.le_trans (length_digs_le (k := 7) ?_) (by omega)
  decide +kernel

/-- the numbers of choices of 0 to n out of n -/
def bin (n : Nat) : List Int := (List.range (n + 1)).map fun k => ((ch n k : Nat) : Int)
/-- the row under way: those below j are those of n + 1, the others still those of n -/
def mid (n j : Nat) : List Int := (List.range (n + 2)).map fun p => if p < j then ((ch (n + 1) p : Nat) : Int) else ((ch n (p - 1) : Nat) : Int)

theorem length_bin (n : Nat) : (bin n).length = n + 1 := by simp [bin]
theorem length_mid (n j : Nat) : (mid n j).length = n + 2 := by simp [mid]
theorem bin_get (n j : Nat) (h : j ≤ n) : (bin n).getD j 0 = ((ch n j : Nat) : Int) := by
  simp [bin, List.getD_eq_getElem?_getD, List.getElem?_range (show j < n + 1 by omega)]
theorem mid_one (n : Nat) : [1] ++ bin n = mid n 1 := by
  apply List.ext_getElem
  · simp [length_bin, length_mid]
  · intro p h1 h2
    cases p with
    | zero => simp [mid, ch_zero]
    | succ p => simp [mid, bin]
theorem mid_set (n j : Nat) (h1 : 1 ≤ j) (h2 : j ≤ n) : (mid n j).set j (((ch n (j - 1) : Nat) : Int) + ((ch n j : Nat) : Int)) = mid n (j + 1) := by
  apply List.ext_getElem
  · simp [length_mid]
  · intro p h3 h4
    rw [List.getElem_set]
    by_cases e : j = p
    · subst e
      rw [if_pos rfl]
      obtain ⟨j, rfl⟩ : ∃ i, j = i + 1 := ⟨j - 1, by omega⟩
      simp [mid, ch_succ]
    · rw [if_neg e]
      simp only [mid, List.getElem_map, List.getElem_range]
      by_cases e2 : p < j
      · rw [if_pos e2, if_pos (by omega)]
      · rw [if_neg e2, if_neg (by omega)]
theorem mid_last (n : Nat) : (mid n (n + 1)).set (n + 1) 1 = bin (n + 1) := by
  apply List.ext_getElem
  · simp [length_mid, length_bin]
  · intro p h3 h4
    rw [List.getElem_set]
    rw [length_bin] at h4
    by_cases e : n + 1 = p
    · subst e
      rw [if_pos rfl]
      simp [bin, ch_self]
    · rw [if_neg e]
      simp only [mid, bin, List.getElem_map, List.getElem_range]
      rw [if_pos (by omega)]

set_option maxRecDepth 100000 in
set_option maxHeartbeats 1600000 in
theorem row_any (N : Nat) (w : World) (hN : N ≤ 200) :
    Calls Try.prog 17 #[.int .i64 (N : Int)] w (RetR w (bin N)) := by
  go_enter Try.func17, Try.ntmps17
  go_wp2_with fail
  refine (of_any 1 w (by omega) (by omega)).mono ?_
  rintro e w1 ⟨s, a, n, c, rfl, hlg, hb1, hf1⟩
  go_wp2_with fail
  go_loopw [3, 9] (fun lv kv wr => ∃ (i g cap : Nat), i ≤ N ∧ kv = .int .i64 i ∧ lv = .slice (some ⟨g, 0, none⟩) (i + 1) cap ∧ RowL wr.heap.size w.heap.size wr g cap (bin i) ∧ Below w.heap.size w wr) (fun _ kv _ => N - (intOf kv).toNat)
  case atStart =>
    refine ⟨0, _, _, Nat.zero_le _, rfl, rfl, ?_, hb1.alloc hb1.size _⟩
    have := RowL.one hlg (base := w.heap.size) hb1.size hf1
    simpa [bin, ch] using this
  case round =>
    clear hlg hb1
    obtain ⟨i, g, cap, hi, rfl, rfl, hrow, hbw⟩ := hrel
    by_cases hin : i < N
    · have Hrow := Lib.hid hrow; clear hrow
      obtain ⟨wo, rfl⟩ : ∃ wo : World, wo = wr := ⟨_, rfl⟩
      go_wp2_with fail
      refine (of_any 1 wo (by omega) (by omega)).mono ?_
      rintro e w2 ⟨s2, a2, n2, c2, rfl, hlg2, hb2, hf2⟩
      have hone := RowL.one hlg2 (base := w.heap.size) (Nat.le_trans hbw.size hb2.size) (hf2.mono hbw.size)
      have hb2' := hb2.alloc hb2.size (.cells #[.bool s2, .slice a2 n2 c2] 51)
      go_wp2_with (refine wpList_append_row rfl (.tmp 12) (.tmp 13) rfl (zs := [1]) rfl rfl hone (M := i + 1) (ys := bin i) rfl (by rw [length_bin]) (Hrow.out.keep hb2') hb2.size (Nat.le_refl _) (by rw [length_bin]; omega) (by rw [length_bin]; simp; omega) ?_)
      intro g' cap' w3 hrow3 hgg hbel3
      have e1 : 1 :: bin i = mid i 1 := mid_one i
      rw [e1] at hrow3
      rw [show 1 + (i + 1) = i + 2 by omega]
      have hb3 := hbel3 _ _ hb2.size hb2'
      have hgb : wo.heap.size ≤ g' := Nat.le_trans hb2.size hgg
      clear hbel3 hone hb2' hlg2 hb2 e1 hf2 hgg
      go_wp2_with fail
      go_loopw [5] (fun jv wr => ∃ (q : Nat), q ≤ i ∧ jv = .int .i64 ((q : Int) + 1) ∧ RowL wr.heap.size w.heap.size wr g' cap' (mid i (q + 1)) ∧ Below wo.heap.size wo wr) (fun jv _ => i + 1 - (intOf jv).toNat)
      case atStart => exact ⟨0, Nat.zero_le _, rfl, hrow3, hb3⟩
      case round =>
        clear hrow3 hb3
        obtain ⟨q, hq, rfl, hrow4, hb4⟩ := hrel
        have hgl := Hrow.out.lt
        have hgl4 : g < wr.heap.size := Nat.lt_of_lt_of_le hgl hb4.size
        have hgl' := hrow4.lt
        by_cases hqi : q < i
        · have Hrow4 := Lib.hid hrow4; clear hrow4
          obtain ⟨s1, a1, n1, c1, k1, k2, hl1, _⟩ := ((Hrow.out.keep hb4).mono hb4.size).get (j := q) (by rw [length_bin]; omega)
          obtain ⟨s3, a3, n3, c3, k3, k4, hl3, _⟩ := ((Hrow.out.keep hb4).mono hb4.size).get (j := q + 1) (by rw [length_bin]; omega)
          rw [bin_get _ _ (by omega)] at hl1 hl3
          obtain rfl : s1 = false := by rw [hl1.1]; simp
          obtain rfl : s3 = false := by rw [hl3.1]; simp
          have Hl1 := Lib.hid hl1; have Hl3 := Lib.hid hl3; clear hl1 hl3
          have i1 : (0 : Int) ≤ (q : Int) := by omega
          have i2 : (q : Int) < (i : Int) + 1 := by omega
          have i5 : (0 : Int) ≤ (q : Int) + 1 := by omega
          have i3 : (q : Int) + 1 < (i : Int) + 1 := by omega
          have i4 : (q : Int) + 1 < (i : Int) + 2 := by omega
          have r1 : IntKind.i64.wrap (q : Int) = (q : Int) := IntWalk.i64_in _ (by omega)
          have r2 : ((q : Int) + 1).toNat = q + 1 := by omega
          go_wp2_with fail
          refine wp_region_eager 16 [(0, true), (1, true), (2, true), (3, true), (4, true), (5, true), (6, true), (7, true), (8, true), (9, true), (10, true), (11, false), (12, true), (13, true), (14, false), (15, true)] (by kernel_rfl) (by kernel_rfl) ?_
          iterate 11
            refine wpOrd_yield (v := ?_) rfl (fun _ _ _ h => h) (by rfl) ?_ ?_
            rotate_left
            · intro x hx
              have q1 := (hx.cell (p := ⟨g, q * 2, none⟩) hgl4).trans k1
              have q2 := (hx.cell (p := ⟨g, q * 2 + 1, none⟩) hgl4).trans k2
              have q3 := (hx.cell (p := ⟨g, (q + 1) * 2, none⟩) hgl4).trans k3
              have q4 := (hx.cell (p := ⟨g, (q + 1) * 2 + 1, none⟩) hgl4).trans k4
              go_simp
              with_reducible rfl
            try simp only [Act.put, List.setIfInBounds_toArray, List.set_cons_zero, List.set_cons_succ]
          have f1 : (digs ((((ch i q : Nat) : Int) + ((ch i (q + 1) : Nat) : Int))).natAbs).length ≤ 600 := by
            have := ch_fit (n := i + 1) (by omega) (q + 1)
            rw [ch_succ, Int.natCast_add] at this
            exact this
          have F1 := Lib.hid f1; clear f1
          refine wpOrd_step rfl rfl (fun K hK => ?_)
          go_simp
          refine (add_same false _ _ a1 a3 n1 n3 c1 c3 _ (by exact Hl1.out) (by exact Hl3.out) F1.out).mono ?_
          rintro e w4 ⟨s5, a5, n5, c5, rfl, hl5, hb5, hf5⟩
          refine hK _ _ hb5 ?_
          clear hK K
          try simp only [Act.put, List.setIfInBounds_toArray, List.set_cons_zero, List.set_cons_succ]
          iterate 2
            refine wpOrd_yield (v := ?_) rfl (fun _ _ _ h => h) (by rfl) ?_ ?_
            rotate_left
            · intro x hx
              go_simp
              with_reducible rfl
            try simp only [Act.put, List.setIfInBounds_toArray, List.set_cons_zero, List.set_cons_succ]
          refine wpOrd_step rfl rfl (fun K hK => ?_)
          go_simp
          refine (mustL_ok s5 a5 n5 c5 _).mono ?_
          rintro e w5 ⟨rfl, hb6⟩
          refine hK _ _ hb6 ?_
          clear hK K
          have hb45 : Below wr.heap.size wr w5 := (below_undrew (k := 1) hb5).trans (hb6.mono hb5.size)
          have hrow5 := Hrow4.out.go hb45
          have hset := hrow5.set (j := q + 1) (by rw [length_mid]; omega) (hl5.go hb6) (fun b off e h0 => by have := hf5 b off e h0; have : wr.heap.size ≤ b := this; omega) (hf5.mono (Nat.le_trans hbw.size hb4.size))
          have u1 := hrow5.free ((q + 1) * 2)
          have u2 := hrow5.free ((q + 1) * 2 + 1)
          obtain ⟨s6, a6, n6, c6, u3, u4, _⟩ := hrow5.get (j := q + 1) (by rw [length_mid]; omega)
          try simp only [Act.put, List.setIfInBounds_toArray, List.set_cons_zero, List.set_cons_succ]
          iterate 1
            refine wpOrd_yield (v := ?_) rfl (fun _ _ _ h => h) (by rfl) ?_ ?_
            rotate_left
            · intro x hx
              go_simp
              with_reducible rfl
            try simp only [Act.put, List.setIfInBounds_toArray, List.set_cons_zero, List.set_cons_succ]
          refine wpOrd_nil rfl ?_
          have Hset := Lib.hid hset; clear hset hrow5
          go_wp2
          go_roundw
          case rel =>
            refine ⟨q + 1, by omega, by go_num, ?_, ((hb4.trans (hb45.mono hb4.size)).setCell hgb _).setCell hgb _⟩
            have := Hset.out
            have e2 := mid_set i (q + 1) (by omega) (by omega)
            rw [Nat.add_sub_cancel] at e2
            rw [e2] at this
            exact this
          case measure => simp [intOf]; omega
        · obtain rfl : q = i := by omega
          have Hrow4 := Lib.hid hrow4; clear hrow4
          go_wp2_with fail
          refine (of_any 1 wr (by omega) (by omega)).mono ?_
          rintro e w4 ⟨s5, a5, n5, c5, rfl, hl5, hb5, hf5⟩
          have hrow5 := Hrow4.out.go hb5
          have hset := hrow5.set (j := q + 1) (by rw [length_mid]; omega) hl5 (fun b off e h0 => by have := hf5 b off e h0; omega) (hf5.mono (Nat.le_trans hbw.size hb4.size))
          rw [mid_last] at hset
          have u1 := hrow5.free ((q + 1) * 2)
          have u2 := hrow5.free ((q + 1) * 2 + 1)
          obtain ⟨s6, a6, n6, c6, u3, u4, _⟩ := hrow5.get (j := q + 1) (by rw [length_mid]; omega)
          have r2 : ((q : Int) + 1).toNat = q + 1 := by omega
          have Hset := Lib.hid hset; clear hset hrow5
          go_wp2
          go_roundw
          case rel =>
            refine ⟨q + 1, g', cap', by omega, by go_num, rfl, Hset.out, hbw.trans ((((hb4.trans (hb5.mono hb4.size)).setCell hgb _).setCell hgb _).mono hbw.size)⟩
          case measure => simp [intOf]; omega
    · obtain rfl : i = N := by omega
      go_wp2
      go_ret
      refine ⟨g, cap, ?_, hrow, hbw⟩
      rw [length_bin]
      rfl

end Go.Proofs.Ytkfkdkoohnfgaaa
