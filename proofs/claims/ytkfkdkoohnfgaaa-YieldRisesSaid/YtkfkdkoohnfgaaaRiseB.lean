/-
  DERIVED. The walk of YieldRises.
-/
import Derived.Test.YtkfkdkoohnfgaaaRiseA
import Derived.BigRegion
namespace Go.Proofs.Ytkfkdkoohnfgaaa
open Go.RowKit

theorem cells_two (w : World) (x y : Value) (t : TypeId) : (w.alloc (.cells #[x, y] t)).cell? ⟨w.heap.size, 0, none⟩ = some x ∧ (w.alloc (.cells #[x, y] t)).cell? ⟨w.heap.size, 1, none⟩ = some y := by
  have h := heap_alloc_new w (.cells #[x, y] t)
  exact ⟨(obj_cell h 0).trans rfl, (obj_cell h 1).trans rfl⟩

theorem bound_succ (N k : Nat) (d : Int) (w : World) (hN1 : 1 ≤ N) (hN : N ≤ 200) (hk : k < N) (h1 : 1 ≤ d) (h2 : d ≤ 999999) :
    Calls Try.prog 7 #[.int .i64 (N : Int), .int .i64 ((k : Int) + 1), .int .i64 d] w (Ret3 w (.int .i64 (lowOf N (k + 1) d)) (.int .i64 (highOf N (k + 1) d)) (.int .i64 0)) :=
  bound_ok N (k + 1) d w hN1 hN (by omega) h1 h2

set_option maxRecDepth 100000 in
set_option maxHeartbeats 1600000 in
theorem rises_walk (n k d0 d1 : Int) (w : World) (hn0 : 0 ≤ n) (hn1 : n ≤ 255) (hk0 : 0 ≤ k) (hk1 : k ≤ 255) (hd0 : 0 ≤ d0) (hd1 : d0 ≤ 4294967295) (he0 : 0 ≤ d1) (he1 : d1 ≤ 4294967295) :
    Calls Try.prog 4 #[.int .u8 n, .int .u8 k, .agg #[.int .u32 d0, .int .u32 d1]] w (RetB w (.bool true)) := by
  obtain ⟨M, hM, hM1, hM2⟩ : ∃ M : Nat, 1 + n % 40 = (M : Int) ∧ 1 ≤ M ∧ M ≤ 40 := ⟨(1 + n % 40).toNat, by omega, by omega, by omega⟩
  have hk2 : IntKind.i64.wrap k = k := IntWalk.i64_in _ (by omega)
  have hM3 : ¬ M = 0 := by omega
  have hM4 : (M : Int) ≠ 0 := by omega
  obtain ⟨F, hF, hF1⟩ : ∃ F : Nat, k.tmod (M : Int) = (F : Int) ∧ F < M := ⟨(k.tmod M).toNat, by
    have := Int.tmod_nonneg (M : Int) hk0
    omega, by
    have := Int.tmod_lt_of_pos k (show (0 : Int) < M by omega)
    omega⟩
  obtain ⟨p0, hp0, hp1, hp2⟩ : ∃ p : Int, d0.tmod 999999 = p ∧ 0 ≤ p ∧ p < 999999 := ⟨_, rfl, Int.tmod_nonneg _ hd0, Int.tmod_lt_of_pos _ (by decide)⟩
  obtain ⟨p1, hq0, hq1, hq2⟩ : ∃ p : Int, d1.tmod 999999 = p ∧ 0 ≤ p ∧ p < 999999 := ⟨_, rfl, Int.tmod_nonneg _ he0, Int.tmod_lt_of_pos _ (by decide)⟩
  have r0 : IntKind.i64.wrap p0 = p0 := IntWalk.i64_in _ (by omega)
  have r1 : IntKind.i64.wrap p1 = p1 := IntWalk.i64_in _ (by omega)
  have r2 : IntKind.i64.wrap (1 + p0) = 1 + p0 := IntWalk.i64_in _ (by omega)
  have r3 : IntKind.i64.wrap (1 + p1) = 1 + p1 := IntWalk.i64_in _ (by omega)
  have r4 : IntKind.i64.wrap (F : Int) = F := IntWalk.i64_in _ (by omega)
  have cc := cells_two w (.int .u32 d0) (.int .u32 d1) 30
  have C := Lib.hid cc; clear cc
  go_enter Try.func4, Try.ntmps4
  go_wp2_with fail
  refine (works_true _).mono ?_
  rintro e w1 ⟨rfl, hb1⟩
  have c0 := (hb1.cell (p := ⟨w.heap.size, 0, none⟩) (by simp)).trans C.out.1
  have c1 := (hb1.cell (p := ⟨w.heap.size, 1, none⟩) (by simp)).trans C.out.2
  have hlt : w.heap.size < w1.heap.size := by have := hb1.size; simp at this; omega
  go_wp2_with fail
  refine wp_region_eager 17 [(0, true), (1, true), (2, true), (3, true), (4, true), (5, true), (6, true), (7, true), (8, true), (9, true), (10, true), (11, true), (12, true), (13, true), (14, true), (15, false), (16, true)] (by kernel_rfl) (by kernel_rfl) ?_
  iterate 15
    refine wpOrd_yield (v := ?_) rfl (fun _ _ _ h => h) (by rfl) ?_ ?_
    rotate_left
    · intro x hx
      have q0 := (hx.cell (p := ⟨w.heap.size, 0, none⟩) hlt).trans c0
      have q1 := (hx.cell (p := ⟨w.heap.size, 1, none⟩) hlt).trans c1
      go_simp
      with_reducible rfl
    try simp only [Act.put, List.setIfInBounds_toArray, List.set_cons_zero, List.set_cons_succ]
  refine wpOrd_step rfl rfl (fun K hK => ?_)
  go_simp
  refine hK _ _ ((Below.refl _ _).alloc (Nat.le_refl _) _) ?_
  clear hK K
  try simp only [Act.put, List.setIfInBounds_toArray, List.set_cons_zero, List.set_cons_succ]
  refine wpOrd_yield (v := ?_) rfl (fun _ _ _ h => h) (by rfl) ?_ ?_
  rotate_left
  · intro x hx
    go_simp
    with_reducible rfl
  try simp only [Act.put, List.setIfInBounds_toArray, List.set_cons_zero, List.set_cons_succ]
  refine wpOrd_nil rfl ?_
  go_wp2_with fail
  go_quiet (fail)
  go_wp2_with fail
  all_goals
    refine (bound_ok M F _ _ hM1 (by omega) (by omega) (by omega) (by omega)).mono ?_
    rintro e w3 ⟨rfl, hb3⟩
    go_wp2_with fail
    refine (bound_succ M F _ _ hM1 (by omega) (by omega) (by omega) (by omega)).mono ?_
    rintro e w4 ⟨rfl, hb4⟩
    go_wp2_with fail
    refine (bound_ok M F _ _ hM1 (by omega) (by omega) (by omega) (by omega)).mono ?_
    rintro e w5 ⟨rfl, hb5⟩
    have a0 := low_rises (N := M) (k := F) (d := 1 + p0) (by omega) hF1
    have a1 := low_rises (N := M) (k := F) (d := 1 + p1) (by omega) hF1
    have a2 := high_rises (N := M) (k := F) (d := 1 + p0) (by omega) hF1
    have a3 := high_rises (N := M) (k := F) (d := 1 + p1) (by omega) hF1
    first
      | (have a4 := low_wide (N := M) (k := F) (show 1 + p0 ≤ 1 + p1 by omega); have a5 := high_wide (N := M) (k := F) (show 1 + p0 ≤ 1 + p1 by omega))
      | (have a4 := low_wide (N := M) (k := F) (show 1 + p1 ≤ 1 + p0 by omega); have a5 := high_wide (N := M) (k := F) (show 1 + p1 ≤ 1 + p0 by omega))
    go_wp2
    go_ret
    have h3 : Below w1.heap.size w1 w3 := below_alloc (below_undrew hb3)
    have h5 := h3.trans ((hb4.trans (hb5.mono hb4.size)).mono h3.size)
    exact ⟨rfl, below_alloc (hb1.trans (h5.mono hb1.size))⟩
end Go.Proofs.Ytkfkdkoohnfgaaa
