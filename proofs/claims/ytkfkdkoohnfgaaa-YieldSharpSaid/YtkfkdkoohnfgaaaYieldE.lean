/-
  DERIVED. The walks of package yield, fifth part: first, and the closures of Bound.
-/
import Derived.Test.YtkfkdkoohnfgaaaYieldD
import Derived.Test.YtkfkdkoohnfgaaaFloat
namespace Go.Proofs.Ytkfkdkoohnfgaaa
open Go.RowKit

/-- trials, as a value -/
def trialsV (N A T : Nat) (g cap : Nat) (s : Bool) (a : Option Addr) (n c : Nat) : Value :=
  .agg #[.int .i64 (N : Int), .int .i64 (A : Int), .int .i64 (T : Int), .slice (some ⟨g, 0, none⟩) (N + 1) cap, .bool s, .slice a n c]

set_option maxHeartbeats 400000 in
theorem holds_any (N A T : Nat) (M x : Int) (g cap : Nat) (s : Bool) (a : Option Addr) (n c : Nat) (w : World) (hN : N ≤ 200) (hA : A ≤ T) (hT : T ≤ N) (h0 : 0 ≤ x) (h1 : x ≤ 100)
    (hrow : RowL w.heap.size 0 w g cap (bin N)) (hM : LG w.heap.size w s a n c M) :
    Calls Try.prog 21 #[.agg #[.int .i64 (N : Int), .int .i64 (A : Int), .int .i64 (T : Int), .slice (some ⟨g, 0, none⟩) (N + 1) cap, .bool s, .slice a n c], .int .i64 x] w
      (RetB w (.bool (smallB N A T M x))) := by
  have Hrow := Lib.hid hrow; have HM := Lib.hid hM; clear hrow hM
  have hb := (Below.refl w.heap.size w).alloc (Nat.le_refl _) (.cells #[.int .i64 (N : Int), .int .i64 (A : Int), .int .i64 (T : Int), .slice (some ⟨g, 0, none⟩) (N + 1) cap, .bool s, .slice a n c] 56)
  go_enter Try.func21, Try.ntmps21
  go_wp2_with fail
  refine (small_any N A T M x g cap s a n c _ hN hA hT h0 h1 (by exact Hrow.out.go hb) (by exact HM.out.go hb)).mono ?_
  rintro e w1 ⟨rfl, hb1⟩
  go_wp2
  go_ret
  exact ⟨rfl, below_alloc hb1⟩

set_option maxHeartbeats 800000 in
theorem first_any (N A T : Nat) (M x0 step : Int) (m : Nat) (g cap : Nat) (s : Bool) (a : Option Addr) (n c : Nat) (w : World) (hN : N ≤ 200) (hA : A ≤ T) (hT : T ≤ N)
    (hrow : RowL w.heap.size 0 w g cap (bin N)) (hM : LG w.heap.size w s a n c M) (hst : step = 1 ∨ step = -1) (hr : ∀ i : Nat, i ≤ m → 0 ≤ x0 + i * step ∧ x0 + i * step ≤ 100)
    (hno : ∀ i : Nat, i < m → smallB N A T M (x0 + i * step) = false) (hyes : smallB N A T M (x0 + m * step) = true) :
    Calls Try.prog 23 #[.int .i64 x0, .int .i64 step, .agg #[.int .i64 (N : Int), .int .i64 (A : Int), .int .i64 (T : Int), .slice (some ⟨g, 0, none⟩) (N + 1) cap, .bool s, .slice a n c], .func (.func 21) #[] #[]] w
      (RetB w (.int .i64 (x0 + m * step))) := by
  have Hrow := Lib.hid hrow; have HM := Lib.hid hM; have Hno := Lib.hid hno; have Hyes := Lib.hid hyes; have Hr := Lib.hid hr; have Hst := Lib.hid hst; clear hrow hM hno hyes hr hst
  have hgl := Hrow.out.lt
  go_enter Try.func23, Try.ntmps23
  go_wp2_with fail
  go_loopw [0] (fun xv wr => ∃ (i : Nat), i ≤ m ∧ xv = .int .i64 (x0 + i * step) ∧ Below (w.alloc (.cells #[.int .i64 (N : Int), .int .i64 (A : Int), .int .i64 (T : Int), .slice (some ⟨g, 0, none⟩) (N + 1) cap, .bool s, .slice a n c] 56)).heap.size (w.alloc (.cells #[.int .i64 (N : Int), .int .i64 (A : Int), .int .i64 (T : Int), .slice (some ⟨g, 0, none⟩) (N + 1) cap, .bool s, .slice a n c] 56)) wr) (fun xv _ => (m : Nat) - ((intOf xv - x0) * step).toNat)
  case atStart => exact ⟨0, Nat.zero_le _, by simp, Below.refl _ _⟩
  case round =>
    obtain ⟨i, hi, rfl, hbw⟩ := hrel
    obtain ⟨kb, _, ks⟩ := kept_new hbw
    have u0 := (kb 0).trans rfl
    have u1 := (kb 1).trans rfl
    have u2 := (kb 2).trans rfl
    have u3 := (kb 3).trans rfl
    have u4 := (kb 4).trans rfl
    have u5 := (kb 5).trans rfl
    clear kb
    have hb0 := below_alloc hbw
    have hxr := Hr.out i hi
    have Hb := Lib.hid hbw
    generalize hx : x0 + (i : Int) * step = x at *
    have Hx := Lib.hid hx; clear hx
    go_wp2_with fail
    refine (holds_any N A T M x g cap s a n c _ hN hA hT hxr.1 hxr.2 (by exact Hrow.out.go hb0) (by exact HM.out.go hb0)).mono ?_
    rintro e w1 ⟨rfl, hb1⟩
    have hbn := Hb.out.trans (hb1.mono Hb.out.size)
    by_cases him : i < m
    · have hf := Hno.out i him
      rw [Hx.out] at hf
      rw [hf]
      have st1 : -1 ≤ step := by rcases Hst.out with h | h <;> omega
      have st2 : step ≤ 1 := by rcases Hst.out with h | h <;> omega
      obtain ⟨hx1, hx2⟩ := hxr
      go_wp2
      go_roundw
      case rel => exact ⟨i + 1, by omega, by rw [show (((i + 1 : Nat) : Int)) = (i : Int) + 1 by omega, Int.add_mul, Int.one_mul, ← Int.add_assoc, Hx.out], hbn⟩
      case measure =>
        have e := Hx.out
        simp only [intOf]
        rcases Hst.out with h | h
        · subst h; simp; omega
        · subst h; simp; omega
    · obtain rfl : i = m := by omega
      have hf := Hyes.out
      rw [Hx.out] at hf
      rw [hf]
      go_wp2
      go_ret
      exact ⟨by rw [Hx.out]; rfl, below_alloc hbn⟩
end Go.Proofs.Ytkfkdkoohnfgaaa
