/-
  DERIVED. The walks of the law package's own functions: bounds, works.
-/
import Derived.Test.YtkfkdkoohnfgaaaYieldH
namespace Go.Proofs.Ytkfkdkoohnfgaaa
open Go.RowKit

set_option maxHeartbeats 400000 in
theorem bounds_true (N k : Nat) (d lo hi : Int) (w : World) (hN1 : 1 ≤ N) (hN : N ≤ 200) (hk : k ≤ N) (h1 : 1 ≤ d) (h2 : d ≤ 999999) (hlo : lowOf N k d = lo) (hhi : highOf N k d = hi) :
    Calls Try.prog 13 #[.int .i64 (N : Int), .int .i64 (k : Int), .int .i64 d, .int .i64 lo, .int .i64 hi] w (RetB w (.bool true)) := by
  have hb := bound_ok N k d w hN1 hN hk h1 h2
  rw [hlo, hhi] at hb
  have Hb := Lib.hid hb; clear hb hlo hhi
  go_enter Try.func13, Try.ntmps13
  go_wp2_with fail
  refine Hb.out.mono ?_
  rintro e w1 ⟨rfl, hb1⟩
  go_wp2
  go_ret
  exact ⟨by simp, hb1⟩

theorem ex1 : lowOf 1 1 500000 = 50 ∧ highOf 1 1 500000 = 100 := by decide +kernel
theorem ex2 : lowOf 1 0 250000 = 0 ∧ highOf 1 0 250000 = 75 := by decide +kernel
theorem ex3 : lowOf 2 2 250000 = 50 ∧ highOf 2 2 250000 = 100 := by decide +kernel
theorem ex4 : lowOf 2 1 750000 = 50 ∧ highOf 2 1 750000 = 50 := by decide +kernel
theorem exD : nextS 0 = 1442695040888963407 ∧ pickS (nextS 0) 10 = 7 := by decide +kernel

set_option maxRecDepth 100000 in
set_option maxHeartbeats 1600000 in
theorem works_true (w : World) : Calls Try.prog 6 #[] w (RetB w (.bool true)) := by
  have hd := draw_any 0 10
  rw [exD.2, exD.1] at hd
  have Hd := Lib.hid hd; clear hd
  go_enter Try.func6, Try.ntmps6
  go_wp2_with fail
  refine (Hd.out w (by omega) (by omega)).mono ?_
  rintro e w1 ⟨rfl, hb1⟩
  go_wp2_with fail
  refine (draw_no 0 0 w1 (by omega)).mono ?_
  rintro e w2 ⟨rfl, hb2⟩
  go_wp2_with fail
  refine (bound_no 0 0 1 w2 (by omega)).mono ?_
  rintro e w3 ⟨rfl, hb3⟩
  go_wp2_with fail
  refine (bounds_true 1 1 500000 50 100 w3 (by omega) (by omega) (by omega) (by omega) (by omega) ex1.1 ex1.2).mono ?_
  rintro e w4 ⟨rfl, hb4⟩
  go_wp2_with fail
  refine (bounds_true 1 0 250000 0 75 w4 (by omega) (by omega) (by omega) (by omega) (by omega) ex2.1 ex2.2).mono ?_
  rintro e w5 ⟨rfl, hb5⟩
  go_wp2_with fail
  refine (bounds_true 2 2 250000 50 100 w5 (by omega) (by omega) (by omega) (by omega) (by omega) ex3.1 ex3.2).mono ?_
  rintro e w6 ⟨rfl, hb6⟩
  go_wp2_with fail
  refine (bounds_true 2 1 750000 50 50 w6 (by omega) (by omega) (by omega) (by omega) (by omega) ex4.1 ex4.2).mono ?_
  rintro e w7 ⟨rfl, hb7⟩
  go_wp2
  go_ret
  exact ⟨rfl, hb1.trans ((hb2.trans ((hb3.trans ((hb4.trans ((hb5.trans ((hb6.trans (hb7.mono hb6.size)).mono hb5.size)).mono hb4.size)).mono hb3.size)).mono hb2.size)).mono hb1.size)⟩

end Go.Proofs.Ytkfkdkoohnfgaaa
