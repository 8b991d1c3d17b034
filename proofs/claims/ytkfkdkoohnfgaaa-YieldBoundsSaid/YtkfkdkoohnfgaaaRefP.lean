/-
  DERIVED. The walks of the reference's bounds of a yield, fifth part: Bound.
-/
import Derived.Test.YtkfkdkoohnfgaaaRefO
import Derived.Test.YtkfkdkoohnfgaaaYieldH
namespace Go.Proofs.Ytkfkdkoohnfgaaa
open Go.RowKit

set_option maxRecDepth 100000 in
set_option maxHeartbeats 1600000 in
theorem refBound_ok (N k : Nat) (d : Int) (w : World) (hN1 : 1 ≤ N) (hN : N ≤ 200) (hk : k ≤ N) (h1 : 1 ≤ d) (h2 : d ≤ 999999) :
    Calls Try.prog 8 #[.int .i64 (N : Int), .int .i64 (k : Int), .int .i64 d] w (Ret3 w (.int .i64 (lowOf N k d)) (.int .i64 (highOf N k d)) (.int .i64 0)) := by
  have z1 : ¬ ((N : Int) < 1) := by omega
  have z2 : ¬ (200 < (N : Int)) := by omega
  have z3 : ¬ ((N : Int) < (k : Int)) := by omega
  by_cases hk0 : 0 < k
  · have hsp := down_spec (small_low (N := N) hk0 (most_fit hN h1 h2).1) 100
    obtain ⟨m1, hm1, hl, hno1, hyes1⟩ := hsp
    have hlo : lowOf N k d = 100 - (m1 : Int) := by unfold lowOf; rw [if_pos hk0, hl]; rfl
    have Hlo := Lib.hid hlo; have Hno1 := Lib.hid hno1; have Hyes1 := Lib.hid hyes1
    clear hl hno1 hyes1 hlo
    go_enter Try.func8, Try.ntmps8
    go_wp2_with fail
    go_loopw [9] (fun xv wr => ∃ i : Nat, i ≤ m1 ∧ xv = .int .i64 (100 - (i : Int)) ∧ Below w.heap.size w wr) (fun xv _ => m1 - (100 - intOf xv).toNat)
    case atStart => exact ⟨0, Nat.zero_le _, rfl, Below.refl _ _⟩
    case round =>
      obtain ⟨i, hi, rfl, hwr⟩ := hrel
      go_wp2_with fail
      refine (refSmall_any N k N d (100 - (i : Int)) _ hN hk (Nat.le_refl _) h1 h2 (by omega) (by omega)).mono ?_
      rintro e w3 ⟨rfl, hb3⟩
      have hw3 := hwr.trans (hb3.mono hwr.size)
      by_cases him : i < m1
      · have hf := Hno1.out i him
        rw [show (((100 : Nat) : Int)) = 100 from rfl] at hf
        rw [hf]
        go_wp2
        go_roundw
        case rel => exact ⟨i + 1, by omega, by go_num, hw3⟩
        case measure => simp [intOf]; omega
      · obtain rfl : i = m1 := by omega
        have hf := Hyes1.out
        rw [show (((100 : Nat) : Int)) = 100 from rfl] at hf
        rw [hf]
        clear hb3 hwr hf
        by_cases hkN : k < N
        · have hsp := up_spec (small_high hkN (most_fit hN h1 h2).1) 100
          obtain ⟨m2, hm2, hh, hno2, hyes2⟩ := hsp
          have hhi : highOf N k d = (m2 : Int) := by unfold highOf; rw [if_pos hkN, hh]; omega
          have Hhi := Lib.hid hhi; have Hno2 := Lib.hid hno2; have Hyes2 := Lib.hid hyes2
          clear hh hno2 hyes2 hhi
          obtain ⟨wo2, rfl⟩ : ∃ wo2 : World, wo2 = w3 := ⟨_, rfl⟩
          go_wp2_with fail
          go_loopw [10] (fun xv wr => ∃ i : Nat, i ≤ m2 ∧ xv = .int .i64 (i : Int) ∧ Below w.heap.size w wr) (fun xv _ => m2 - (intOf xv).toNat)
          case atStart => exact ⟨0, Nat.zero_le _, rfl, hw3⟩
          case round =>
            obtain ⟨i, hi, rfl, hwr2⟩ := hrel
            go_wp2_with fail
            refine (refSmall_any N 0 k d i _ hN (Nat.zero_le _) hk h1 h2 (by omega) (by omega)).mono ?_
            rintro e w4 ⟨rfl, hb4⟩
            have hw4 := hwr2.trans (hb4.mono hwr2.size)
            by_cases him : i < m2
            · have hf := Hno2.out i him
              rw [show (100 : Int) - ((100 : Nat) : Int) + i = i by omega] at hf
              rw [hf]
              go_wp2
              go_roundw
              case rel => exact ⟨i + 1, by omega, by go_num, hw4⟩
              case measure => simp [intOf]; omega
            · obtain rfl : i = m2 := by omega
              have hf := Hyes2.out
              rw [show (100 : Int) - ((100 : Nat) : Int) + i = i by omega] at hf
              rw [hf]
              clear hb4 hwr2
              go_wp2
              go_ret3
              exact ⟨by rw [Hlo.out, Hhi.out]; rfl, hw4⟩
        · have hhi : highOf N k d = 100 := by unfold highOf; rw [if_neg hkN]
          have Hhi := Lib.hid hhi; clear hhi
          go_wp2_with fail
          go_ret3
          exact ⟨by rw [Hlo.out, Hhi.out]; rfl, hw3⟩

  · have hlo : lowOf N k d = 0 := by unfold lowOf; rw [if_neg hk0]
    have Hlo := Lib.hid hlo; clear hlo
    go_enter Try.func8, Try.ntmps8
    by_cases hkN : k < N
    · have hsp := up_spec (small_high hkN (most_fit hN h1 h2).1) 100
      obtain ⟨m2, hm2, hh, hno2, hyes2⟩ := hsp
      have hhi : highOf N k d = (m2 : Int) := by unfold highOf; rw [if_pos hkN, hh]; omega
      have Hhi := Lib.hid hhi; have Hno2 := Lib.hid hno2; have Hyes2 := Lib.hid hyes2
      clear hh hno2 hyes2 hhi
      go_wp2_with fail
      go_loopw [10] (fun xv wr => ∃ i : Nat, i ≤ m2 ∧ xv = .int .i64 (i : Int) ∧ Below w.heap.size w wr) (fun xv _ => m2 - (intOf xv).toNat)
      case atStart => exact ⟨0, Nat.zero_le _, rfl, Below.refl _ _⟩
      case round =>
        obtain ⟨i, hi, rfl, hwr2⟩ := hrel
        go_wp2_with fail
        refine (refSmall_any N 0 k d i _ hN (Nat.zero_le _) hk h1 h2 (by omega) (by omega)).mono ?_
        rintro e w4 ⟨rfl, hb4⟩
        have hw4 := hwr2.trans (hb4.mono hwr2.size)
        by_cases him : i < m2
        · have hf := Hno2.out i him
          rw [show (100 : Int) - ((100 : Nat) : Int) + i = i by omega] at hf
          rw [hf]
          go_wp2
          go_roundw
          case rel => exact ⟨i + 1, by omega, by go_num, hw4⟩
          case measure => simp [intOf]; omega
        · obtain rfl : i = m2 := by omega
          have hf := Hyes2.out
          rw [show (100 : Int) - ((100 : Nat) : Int) + i = i by omega] at hf
          rw [hf]
          clear hb4 hwr2
          go_wp2
          go_ret3
          exact ⟨by rw [Hlo.out, Hhi.out]; rfl, hw4⟩
    · exfalso; omega

set_option maxRecDepth 100000 in
theorem refBound_no (n k d : Int) (w : World) (hno : n < 1 ∨ 200 < n ∨ k < 0 ∨ n < k ∨ d < 1 ∨ 999999 < d) :
    Calls Try.prog 8 #[.int .i64 n, .int .i64 k, .int .i64 d] w (Ret3 w (.int .i64 0) (.int .i64 0) (.int .i64 2)) := by
  go_enter Try.func8, Try.ntmps8
  by_cases c1 : n < 1
  · go_wp2
    go_ret3
    exact ⟨rfl, Below.refl _ _⟩
  by_cases c2 : 200 < n
  · go_wp2
    go_ret3
    exact ⟨rfl, Below.refl _ _⟩
  by_cases c3 : k < 0
  · go_wp2
    go_ret3
    exact ⟨rfl, Below.refl _ _⟩
  by_cases c4 : n < k
  · go_wp2
    go_ret3
    exact ⟨rfl, Below.refl _ _⟩
  by_cases c5 : d < 1
  · go_wp2
    go_ret3
    exact ⟨rfl, Below.refl _ _⟩
  have c6 : 999999 < d := by omega
  go_wp2
  go_ret3
  exact ⟨rfl, Below.refl _ _⟩

end Go.Proofs.Ytkfkdkoohnfgaaa
