/-
  DERIVED. The walk of YieldSharp.
-/
import Derived.Test.YtkfkdkoohnfgaaaSharpF
import Derived.Test.YtkfkdkoohnfgaaaLawA
namespace Go.Proofs.Ytkfkdkoohnfgaaa
open Go.RowKit

theorem cells_three (w : World) (x y z : Value) (t : TypeId) : ((((w.alloc (.cells #[x] t)).alloc (.cells #[y] t)).alloc (.cells #[z] t)).cell? ⟨w.heap.size, 0, none⟩ = some x ∧ (((w.alloc (.cells #[x] t)).alloc (.cells #[y] t)).alloc (.cells #[z] t)).cell? ⟨w.heap.size + 1, 0, none⟩ = some y ∧ (((w.alloc (.cells #[x] t)).alloc (.cells #[y] t)).alloc (.cells #[z] t)).cell? ⟨w.heap.size + 1 + 1, 0, none⟩ = some z) := by
  obtain ⟨e1, e2, e3⟩ := heap_three w (.cells #[x] t) (.cells #[y] t) (.cells #[z] t)
  exact ⟨(obj_cell e1 0).trans rfl, (obj_cell e2 0).trans rfl, (obj_cell e3 0).trans rfl⟩

set_option maxRecDepth 100000 in
set_option maxHeartbeats 1600000 in
theorem sharp_mid (n k d p : Int) (M F : Nat) (w : World) (hn0 : 0 ≤ n) (hn1 : n ≤ 255) (hk0 : 0 ≤ k) (hk1 : k ≤ 255) (hd0 : 0 ≤ d) (hd1 : d ≤ 4294967295) (hM : 1 + n % 7 = (M : Int)) (hM1 : 1 ≤ M) (hM2 : M ≤ 7) (hp : 1 + d % 999999 = p) (hp1 : 1 ≤ p) (hp2 : p ≤ 999999) (hF : k % ((M : Int) + 1) = (F : Int)) (hF1 : F ≤ M) (hF0 : 0 < F) (hFM : F < M) :
    Calls Try.prog 5 #[.int .u8 n, .int .u8 k, .int .u32 d] w (RetB w (.bool true)) := by
  have hc := fun (w1 : World) => cells_three w1 (.int .i64 (M : Int)) (.int .i64 (F : Int)) (.int .i64 p) 3
  have HC := Lib.hid hc; clear hc
  obtain ⟨x, hx, elo, s1, s2⟩ := low_sharp (N := M) (k := F) (d := p) (by omega) hF0 hF1 hp1 hp2
  obtain ⟨y, hy0, hy1, ehi, t1, t2⟩ := high_sharp (N := M) (k := F) (d := p) (by omega) hFM hp1 hp2
  have hle : p < 500000 → (x : Int) ≤ (y : Int) := fun h => by rw [← elo, ← ehi]; exact low_le_high (by omega) hF0 hFM hp1 h
  have hB : ∀ w : World, Calls Try.prog 7 #[.int .i64 (M : Int), .int .i64 (F : Int), .int .i64 p] w (Ret3 w (.int .i64 (x : Int)) (.int .i64 (y : Int)) (.int .i64 0)) := fun w => by
    have := bound_ok M F p w hM1 (by omega) hF1 hp1 hp2
    rwa [elo, ehi] at this
  have HB := Lib.hid hB; have Hle := Lib.hid hle; have S1 := Lib.hid s1; have S2 := Lib.hid s2; have T1 := Lib.hid t1; have T2 := Lib.hid t2
  clear elo ehi hB hle s1 s2 t1 t2
  have q1 : ((F : Int) == 0) = false := by simp; omega
  have q2 : ((F : Int) == (M : Int)) = false := by simp; omega
  have q3 : ((F : Int) != 0) = true := by simp; omega
  have q4 : ((F : Int) != (M : Int)) = true := by simp; omega
  have q5 : ((x : Int) == 100) = false := by simp; omega
  have q6 : ((y : Int) == 0) = false := by simp; omega

  go_enter Try.func5, Try.ntmps5
  go_wp2_with fail
  refine (works_true _).mono ?_
  rintro e w1 ⟨rfl, hb1⟩
  have HC1 := Lib.hid (HC.out w1)
  go_wp2_with fail
  refine (HB.out _).mono ?_
  rintro e w2 ⟨rfl, hb2⟩
  obtain ⟨c0, c1, c2⟩ := HC1.out
  have hl0 : w1.heap.size + 1 + 1 < w2.heap.size := by have := hb2.size; simp at this; omega
  have hl1 : w1.heap.size + 1 < w2.heap.size := by omega
  have hl2 : w1.heap.size < w2.heap.size := by omega
  have hb3 := below_three w1 (.cells #[.int .i64 (M : Int)] 3) (.cells #[.int .i64 (F : Int)] 3) (.cells #[.int .i64 p] 3)
  have hw2 : Below w.heap.size w w2 := hb1.trans ((hb3.trans (hb2.mono hb3.size)).mono hb1.size)
  have d0 := (hb2.cell (p := ⟨w1.heap.size, 0, none⟩) (by simp <;> omega)).trans c0
  have d1 := (hb2.cell (p := ⟨w1.heap.size + 1, 0, none⟩) (by simp <;> omega)).trans c1
  have d2 := (hb2.cell (p := ⟨w1.heap.size + 1 + 1, 0, none⟩) (by simp <;> omega)).trans c2
  have W2 := Lib.hid hw2
  clear hb1 hb2 hb3 hw2 c0 c1 c2 HC HC1
  rcases (show (p < 500000 ∧ x ≤ y) ∨ (¬ p < 500000 ∧ x ≤ y) ∨ (¬ p < 500000 ∧ ¬ x ≤ y) by have := Hle.out; omega) with ⟨hpl, hxy⟩ | ⟨hpl, hxy⟩ | ⟨hpl, hxy⟩
  all_goals
    go_wp2_with fail
    refine (lit_up (x : Int) p M F w1.heap.size (w1.heap.size + 1) (w1.heap.size + 1 + 1) _ hM2 hF1 (by omega) (by omega) hp1 hp2 d0 d1 d2 hl2 hl1 hl0).mono ?_
    rintro e w3 ⟨he, hb⟩
    rw [S1.out] at he
    subst he
    have d0' := (hb.cell (p := ⟨w1.heap.size, 0, none⟩) hl2).trans d0
    have d1' := (hb.cell (p := ⟨w1.heap.size + 1, 0, none⟩) hl1).trans d1
    have d2' := (hb.cell (p := ⟨w1.heap.size + 1 + 1, 0, none⟩) hl0).trans d2
    have W3 := Lib.hid (W2.out.trans (hb.mono W2.out.size))
    have hz := hb.size
    have hl0 : w1.heap.size + 1 + 1 < w3.heap.size := by omega
    have hl1 : w1.heap.size + 1 < w3.heap.size := by omega
    have hl2 : w1.heap.size < w3.heap.size := by omega
    clear hb d0 d1 d2
    have d0 := d0'; have d1 := d1'; have d2 := d2'
    clear d0' d1' d2' hz
    go_wp2_with fail
    refine (lit_up ((x : Int) + 1) p M F w1.heap.size (w1.heap.size + 1) (w1.heap.size + 1 + 1) _ hM2 hF1 (by omega) (by omega) hp1 hp2 d0 d1 d2 hl2 hl1 hl0).mono ?_
    rintro e w4 ⟨he, hb⟩
    rw [S2.out] at he
    subst he
    have d0' := (hb.cell (p := ⟨w1.heap.size, 0, none⟩) hl2).trans d0
    have d1' := (hb.cell (p := ⟨w1.heap.size + 1, 0, none⟩) hl1).trans d1
    have d2' := (hb.cell (p := ⟨w1.heap.size + 1 + 1, 0, none⟩) hl0).trans d2
    have W4 := Lib.hid (W3.out.trans (hb.mono W3.out.size))
    have hz := hb.size
    have hl0 : w1.heap.size + 1 + 1 < w4.heap.size := by omega
    have hl1 : w1.heap.size + 1 < w4.heap.size := by omega
    have hl2 : w1.heap.size < w4.heap.size := by omega
    clear hb d0 d1 d2
    have d0 := d0'; have d1 := d1'; have d2 := d2'
    clear d0' d1' d2' hz
    go_wp2_with fail
    refine (lit_low (y : Int) p M F w1.heap.size (w1.heap.size + 1) (w1.heap.size + 1 + 1) _ hM2 hF1 (by omega) (by omega) hp1 hp2 d0 d1 d2 hl2 hl1 hl0).mono ?_
    rintro e w5 ⟨he, hb⟩
    rw [T1.out] at he
    subst he
    have d0' := (hb.cell (p := ⟨w1.heap.size, 0, none⟩) hl2).trans d0
    have d1' := (hb.cell (p := ⟨w1.heap.size + 1, 0, none⟩) hl1).trans d1
    have d2' := (hb.cell (p := ⟨w1.heap.size + 1 + 1, 0, none⟩) hl0).trans d2
    have W5 := Lib.hid (W4.out.trans (hb.mono W4.out.size))
    have hz := hb.size
    have hl0 : w1.heap.size + 1 + 1 < w5.heap.size := by omega
    have hl1 : w1.heap.size + 1 < w5.heap.size := by omega
    have hl2 : w1.heap.size < w5.heap.size := by omega
    clear hb d0 d1 d2
    have d0 := d0'; have d1 := d1'; have d2 := d2'
    clear d0' d1' d2' hz
    go_wp2_with fail
    refine (lit_low ((y : Int) - 1) p M F w1.heap.size (w1.heap.size + 1) (w1.heap.size + 1 + 1) _ hM2 hF1 (by omega) (by omega) hp1 hp2 d0 d1 d2 hl2 hl1 hl0).mono ?_
    rintro e w6 ⟨he, hb⟩
    rw [T2.out] at he
    subst he
    have d0' := (hb.cell (p := ⟨w1.heap.size, 0, none⟩) hl2).trans d0
    have d1' := (hb.cell (p := ⟨w1.heap.size + 1, 0, none⟩) hl1).trans d1
    have d2' := (hb.cell (p := ⟨w1.heap.size + 1 + 1, 0, none⟩) hl0).trans d2
    have W6 := Lib.hid (W5.out.trans (hb.mono W5.out.size))
    have hz := hb.size
    have hl0 : w1.heap.size + 1 + 1 < w6.heap.size := by omega
    have hl1 : w1.heap.size + 1 < w6.heap.size := by omega
    have hl2 : w1.heap.size < w6.heap.size := by omega
    clear hb d0 d1 d2
    have d0 := d0'; have d1 := d1'; have d2 := d2'
    clear d0' d1' d2' hz

    go_wp2
    go_ret
    exact ⟨rfl, W6.out⟩
set_option maxRecDepth 100000 in
set_option maxHeartbeats 1600000 in
theorem sharp_low (n k d p : Int) (M F : Nat) (w : World) (hn0 : 0 ≤ n) (hn1 : n ≤ 255) (hk0 : 0 ≤ k) (hk1 : k ≤ 255) (hd0 : 0 ≤ d) (hd1 : d ≤ 4294967295) (hM : 1 + n % 7 = (M : Int)) (hM1 : 1 ≤ M) (hM2 : M ≤ 7) (hp : 1 + d % 999999 = p) (hp1 : 1 ≤ p) (hp2 : p ≤ 999999) (hF : k % ((M : Int) + 1) = (F : Int)) (hF1 : F ≤ M) (hF0 : ¬ 0 < F) :
    Calls Try.prog 5 #[.int .u8 n, .int .u8 k, .int .u32 d] w (RetB w (.bool true)) := by
  have hc := fun (w1 : World) => cells_three w1 (.int .i64 (M : Int)) (.int .i64 (F : Int)) (.int .i64 p) 3
  have HC := Lib.hid hc; clear hc
  obtain ⟨y, hy0, hy1, ehi, t1, t2⟩ := high_sharp (N := M) (k := F) (d := p) (by omega) (by omega) hp1 hp2
  have hB : ∀ w : World, Calls Try.prog 7 #[.int .i64 (M : Int), .int .i64 (F : Int), .int .i64 p] w (Ret3 w (.int .i64 0) (.int .i64 (y : Int)) (.int .i64 0)) := fun w => by
    have := bound_ok M F p w hM1 (by omega) hF1 hp1 hp2
    rw [ehi, show lowOf M F p = 0 by unfold lowOf; rw [if_neg hF0]] at this
    exact this
  have HB := Lib.hid hB; have T1 := Lib.hid t1; have T2 := Lib.hid t2
  clear ehi hB t1 t2
  have q1 : ((F : Int) == 0) = true := by simp; omega
  have q2 : ((F : Int) == (M : Int)) = false := by simp; omega
  have q3 : ((F : Int) != 0) = false := by simp; omega
  have q4 : ((F : Int) != (M : Int)) = true := by simp; omega
  have q6 : ((y : Int) == 0) = false := by simp; omega

  go_enter Try.func5, Try.ntmps5
  go_wp2_with fail
  refine (works_true _).mono ?_
  rintro e w1 ⟨rfl, hb1⟩
  have HC1 := Lib.hid (HC.out w1)
  go_wp2_with fail
  refine (HB.out _).mono ?_
  rintro e w2 ⟨rfl, hb2⟩
  obtain ⟨c0, c1, c2⟩ := HC1.out
  have hl0 : w1.heap.size + 1 + 1 < w2.heap.size := by have := hb2.size; simp at this; omega
  have hl1 : w1.heap.size + 1 < w2.heap.size := by omega
  have hl2 : w1.heap.size < w2.heap.size := by omega
  have hb3 := below_three w1 (.cells #[.int .i64 (M : Int)] 3) (.cells #[.int .i64 (F : Int)] 3) (.cells #[.int .i64 p] 3)
  have hw2 : Below w.heap.size w w2 := hb1.trans ((hb3.trans (hb2.mono hb3.size)).mono hb1.size)
  have d0 := (hb2.cell (p := ⟨w1.heap.size, 0, none⟩) (by simp <;> omega)).trans c0
  have d1 := (hb2.cell (p := ⟨w1.heap.size + 1, 0, none⟩) (by simp <;> omega)).trans c1
  have d2 := (hb2.cell (p := ⟨w1.heap.size + 1 + 1, 0, none⟩) (by simp <;> omega)).trans c2
  have W2 := Lib.hid hw2
  clear hb1 hb2 hb3 hw2 c0 c1 c2 HC HC1
  go_wp2_with fail
  refine (lit_low (y : Int) p M F w1.heap.size (w1.heap.size + 1) (w1.heap.size + 1 + 1) _ hM2 hF1 (by omega) (by omega) hp1 hp2 d0 d1 d2 hl2 hl1 hl0).mono ?_
  rintro e w3 ⟨he, hb⟩
  rw [T1.out] at he
  subst he
  have d0' := (hb.cell (p := ⟨w1.heap.size, 0, none⟩) hl2).trans d0
  have d1' := (hb.cell (p := ⟨w1.heap.size + 1, 0, none⟩) hl1).trans d1
  have d2' := (hb.cell (p := ⟨w1.heap.size + 1 + 1, 0, none⟩) hl0).trans d2
  have W3 := Lib.hid (W2.out.trans (hb.mono W2.out.size))
  have hz := hb.size
  have hl0 : w1.heap.size + 1 + 1 < w3.heap.size := by omega
  have hl1 : w1.heap.size + 1 < w3.heap.size := by omega
  have hl2 : w1.heap.size < w3.heap.size := by omega
  clear hb d0 d1 d2
  have d0 := d0'; have d1 := d1'; have d2 := d2'
  clear d0' d1' d2' hz
  go_wp2_with fail
  refine (lit_low ((y : Int) - 1) p M F w1.heap.size (w1.heap.size + 1) (w1.heap.size + 1 + 1) _ hM2 hF1 (by omega) (by omega) hp1 hp2 d0 d1 d2 hl2 hl1 hl0).mono ?_
  rintro e w4 ⟨he, hb⟩
  rw [T2.out] at he
  subst he
  have d0' := (hb.cell (p := ⟨w1.heap.size, 0, none⟩) hl2).trans d0
  have d1' := (hb.cell (p := ⟨w1.heap.size + 1, 0, none⟩) hl1).trans d1
  have d2' := (hb.cell (p := ⟨w1.heap.size + 1 + 1, 0, none⟩) hl0).trans d2
  have W4 := Lib.hid (W3.out.trans (hb.mono W3.out.size))
  have hz := hb.size
  have hl0 : w1.heap.size + 1 + 1 < w4.heap.size := by omega
  have hl1 : w1.heap.size + 1 < w4.heap.size := by omega
  have hl2 : w1.heap.size < w4.heap.size := by omega
  clear hb d0 d1 d2
  have d0 := d0'; have d1 := d1'; have d2 := d2'
  clear d0' d1' d2' hz

  go_wp2
  go_ret
  exact ⟨rfl, W4.out⟩

set_option maxRecDepth 100000 in
set_option maxHeartbeats 1600000 in
theorem sharp_high (n k d p : Int) (M F : Nat) (w : World) (hn0 : 0 ≤ n) (hn1 : n ≤ 255) (hk0 : 0 ≤ k) (hk1 : k ≤ 255) (hd0 : 0 ≤ d) (hd1 : d ≤ 4294967295) (hM : 1 + n % 7 = (M : Int)) (hM1 : 1 ≤ M) (hM2 : M ≤ 7) (hp : 1 + d % 999999 = p) (hp1 : 1 ≤ p) (hp2 : p ≤ 999999) (hF : k % ((M : Int) + 1) = (F : Int)) (hF1 : F ≤ M) (hF0 : ¬ F < M) :
    Calls Try.prog 5 #[.int .u8 n, .int .u8 k, .int .u32 d] w (RetB w (.bool true)) := by
  have hc := fun (w1 : World) => cells_three w1 (.int .i64 (M : Int)) (.int .i64 (F : Int)) (.int .i64 p) 3
  have HC := Lib.hid hc; clear hc
  obtain ⟨x, hx, elo, s1, s2⟩ := low_sharp (N := M) (k := F) (d := p) (by omega) (by omega) hF1 hp1 hp2
  have hB : ∀ w : World, Calls Try.prog 7 #[.int .i64 (M : Int), .int .i64 (F : Int), .int .i64 p] w (Ret3 w (.int .i64 (x : Int)) (.int .i64 100) (.int .i64 0)) := fun w => by
    have := bound_ok M F p w hM1 (by omega) hF1 hp1 hp2
    rw [elo, show highOf M F p = 100 by unfold highOf; rw [if_neg hF0]] at this
    exact this
  have HB := Lib.hid hB; have S1 := Lib.hid s1; have S2 := Lib.hid s2
  clear elo hB s1 s2
  have q1 : ((F : Int) == 0) = false := by simp; omega
  have q2 : ((F : Int) == (M : Int)) = true := by simp; omega
  have q3 : ((F : Int) != 0) = true := by simp; omega
  have q4 : ((F : Int) != (M : Int)) = false := by simp; omega
  have q5 : ((x : Int) == 100) = false := by simp; omega

  go_enter Try.func5, Try.ntmps5
  go_wp2_with fail
  refine (works_true _).mono ?_
  rintro e w1 ⟨rfl, hb1⟩
  have HC1 := Lib.hid (HC.out w1)
  go_wp2_with fail
  refine (HB.out _).mono ?_
  rintro e w2 ⟨rfl, hb2⟩
  obtain ⟨c0, c1, c2⟩ := HC1.out
  have hl0 : w1.heap.size + 1 + 1 < w2.heap.size := by have := hb2.size; simp at this; omega
  have hl1 : w1.heap.size + 1 < w2.heap.size := by omega
  have hl2 : w1.heap.size < w2.heap.size := by omega
  have hb3 := below_three w1 (.cells #[.int .i64 (M : Int)] 3) (.cells #[.int .i64 (F : Int)] 3) (.cells #[.int .i64 p] 3)
  have hw2 : Below w.heap.size w w2 := hb1.trans ((hb3.trans (hb2.mono hb3.size)).mono hb1.size)
  have d0 := (hb2.cell (p := ⟨w1.heap.size, 0, none⟩) (by simp <;> omega)).trans c0
  have d1 := (hb2.cell (p := ⟨w1.heap.size + 1, 0, none⟩) (by simp <;> omega)).trans c1
  have d2 := (hb2.cell (p := ⟨w1.heap.size + 1 + 1, 0, none⟩) (by simp <;> omega)).trans c2
  have W2 := Lib.hid hw2
  clear hb1 hb2 hb3 hw2 c0 c1 c2 HC HC1
  go_wp2_with fail
  refine (lit_up (x : Int) p M F w1.heap.size (w1.heap.size + 1) (w1.heap.size + 1 + 1) _ hM2 hF1 (by omega) (by omega) hp1 hp2 d0 d1 d2 hl2 hl1 hl0).mono ?_
  rintro e w3 ⟨he, hb⟩
  rw [S1.out] at he
  subst he
  have d0' := (hb.cell (p := ⟨w1.heap.size, 0, none⟩) hl2).trans d0
  have d1' := (hb.cell (p := ⟨w1.heap.size + 1, 0, none⟩) hl1).trans d1
  have d2' := (hb.cell (p := ⟨w1.heap.size + 1 + 1, 0, none⟩) hl0).trans d2
  have W3 := Lib.hid (W2.out.trans (hb.mono W2.out.size))
  have hz := hb.size
  have hl0 : w1.heap.size + 1 + 1 < w3.heap.size := by omega
  have hl1 : w1.heap.size + 1 < w3.heap.size := by omega
  have hl2 : w1.heap.size < w3.heap.size := by omega
  clear hb d0 d1 d2
  have d0 := d0'; have d1 := d1'; have d2 := d2'
  clear d0' d1' d2' hz
  go_wp2_with fail
  refine (lit_up ((x : Int) + 1) p M F w1.heap.size (w1.heap.size + 1) (w1.heap.size + 1 + 1) _ hM2 hF1 (by omega) (by omega) hp1 hp2 d0 d1 d2 hl2 hl1 hl0).mono ?_
  rintro e w4 ⟨he, hb⟩
  rw [S2.out] at he
  subst he
  have d0' := (hb.cell (p := ⟨w1.heap.size, 0, none⟩) hl2).trans d0
  have d1' := (hb.cell (p := ⟨w1.heap.size + 1, 0, none⟩) hl1).trans d1
  have d2' := (hb.cell (p := ⟨w1.heap.size + 1 + 1, 0, none⟩) hl0).trans d2
  have W4 := Lib.hid (W3.out.trans (hb.mono W3.out.size))
  have hz := hb.size
  have hl0 : w1.heap.size + 1 + 1 < w4.heap.size := by omega
  have hl1 : w1.heap.size + 1 < w4.heap.size := by omega
  have hl2 : w1.heap.size < w4.heap.size := by omega
  clear hb d0 d1 d2
  have d0 := d0'; have d1 := d1'; have d2 := d2'
  clear d0' d1' d2' hz

  go_wp2
  go_ret
  exact ⟨rfl, W4.out⟩

theorem sharp_walk (n k d : Int) (w : World) (hn0 : 0 ≤ n) (hn1 : n ≤ 255) (hk0 : 0 ≤ k) (hk1 : k ≤ 255) (hd0 : 0 ≤ d) (hd1 : d ≤ 4294967295) :
    Calls Try.prog 5 #[.int .u8 n, .int .u8 k, .int .u32 d] w (RetB w (.bool true)) := by
  obtain ⟨M, hM, hM1, hM2⟩ : ∃ M : Nat, 1 + n % 7 = (M : Int) ∧ 1 ≤ M ∧ M ≤ 7 := ⟨(1 + n % 7).toNat, by omega, by omega, by omega⟩
  obtain ⟨F, hF, hF1⟩ : ∃ F : Nat, k % ((M : Int) + 1) = (F : Int) ∧ F ≤ M := ⟨(k % ((M : Int) + 1)).toNat, by
    have := Int.emod_nonneg k (show (M : Int) + 1 ≠ 0 by omega)
    omega, by
    have := Int.emod_lt_of_pos k (show (0 : Int) < (M : Int) + 1 by omega)
    omega⟩
  by_cases h0 : 0 < F
  · by_cases h1 : F < M
    · exact sharp_mid n k d _ M F w hn0 hn1 hk0 hk1 hd0 hd1 hM hM1 hM2 rfl (by omega) (by omega) hF hF1 h0 h1
    · exact sharp_high n k d _ M F w hn0 hn1 hk0 hk1 hd0 hd1 hM hM1 hM2 rfl (by omega) (by omega) hF hF1 h1
  · exact sharp_low n k d _ M F w hn0 hn1 hk0 hk1 hd0 hd1 hM hM1 hM2 rfl (by omega) (by omega) hF hF1 h0

end Go.Proofs.Ytkfkdkoohnfgaaa
