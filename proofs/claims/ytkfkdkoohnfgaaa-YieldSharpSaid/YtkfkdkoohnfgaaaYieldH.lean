/-
  DERIVED. The walks of package yield, eighth part: Bound, Draw.
-/
import Derived.Test.YtkfkdkoohnfgaaaYieldG
namespace Go.Proofs.Ytkfkdkoohnfgaaa
open Go.RowKit

/-- a call that gives back three values -/
def Ret3 (w : World) (x y z : Value) (e : Ending) (w' : World) : Prop := e = .returned (.tuple #[x, y, z]) ∧ Below w.heap.size w w'

set_option maxHeartbeats 800000 in
theorem bound_rest (n k d x y en : Int) (w : World)
    (hc : ∀ w1 : World, Below w.heap.size w w1 → w.heap.size + 3 ≤ w1.heap.size → w1.cell? ⟨w.heap.size, 0, none⟩ = some (.int .i64 n) → w1.cell? ⟨w.heap.size + 1, 0, none⟩ = some (.int .i64 k) → w1.cell? ⟨w.heap.size + 1 + 1, 0, none⟩ = some (.int .i64 d) →
      Calls Try.prog 14 #[.func (.func 15) #[] #[.pointer (some ⟨w.heap.size, 0, none⟩), .pointer (some ⟨w.heap.size + 1, 0, none⟩), .pointer (some ⟨w.heap.size + 1 + 1, 0, none⟩)]] w1 (fun e w' => e = .returned (.tuple #[.agg #[.int .i64 x, .int .i64 y], .int .i64 en]) ∧ Below w1.heap.size w1 w')) :
    Calls Try.prog 7 #[.int .i64 n, .int .i64 k, .int .i64 d] w (Ret3 w (.int .i64 x) (.int .i64 y) (.int .i64 en)) := by
  have Hc := Lib.hid hc; clear hc
  have hmf := makeFunc_run
  have c3 := cells3 w #[.int .i64 n] #[.int .i64 k] #[.int .i64 d] 3 3 3
  have C3 := Lib.hid c3; clear c3
  go_enter Try.func7, Try.ntmps7
  go_wp2_with fail
  refine (Hc.out _ (below3 _ _ _ _) (by simp) (C3.out.1 0) (C3.out.2.1 0) (C3.out.2.2 0)).mono ?_
  rintro e w1 ⟨rfl, hb1⟩
  have hbb := (below3 w _ _ _).trans (hb1.mono (by simp; omega))
  go_wp2_with fail
  go_quiet (fail)
  go_wp2
  go_ret3
  exact ⟨rfl, below_drewN (hbb.alloc hbb.size _) _⟩

theorem bound_ok (N k : Nat) (d : Int) (w : World) (hN1 : 1 ≤ N) (hN : N ≤ 200) (hk : k ≤ N) (h1 : 1 ≤ d) (h2 : d ≤ 999999) :
    Calls Try.prog 7 #[.int .i64 (N : Int), .int .i64 (k : Int), .int .i64 d] w (Ret3 w (.int .i64 (lowOf N k d)) (.int .i64 (highOf N k d)) (.int .i64 0)) := by
  refine bound_rest _ _ _ _ _ _ w (fun w1 hb hs c0 c1 c2 => caught_ret _ _ _ _ _ w1 ?_)
  have hb2 := below_two (w := w1) (.cells #[.int .i64 0, .int .i64 0] 31) (.cells #[.int .i64 0] 26)
  exact bound1_ok N k d _ _ _ _ hN1 hN hk h1 h2 (by simp; omega) (by simp; omega) (by simp; omega)
    ((hb2.cell (p := ⟨w.heap.size, 0, none⟩) (by show w.heap.size < _; omega)).trans c0) ((hb2.cell (p := ⟨w.heap.size + 1, 0, none⟩) (by show w.heap.size + 1 < _; omega)).trans c1) ((hb2.cell (p := ⟨w.heap.size + 1 + 1, 0, none⟩) (by show w.heap.size + 1 + 1 < _; omega)).trans c2)

theorem bound_no (n k d : Int) (w : World) (hno : n < 1 ∨ 200 < n ∨ k < 0 ∨ n < k ∨ d < 1 ∨ 999999 < d) :
    Calls Try.prog 7 #[.int .i64 n, .int .i64 k, .int .i64 d] w (Ret3 w (.int .i64 0) (.int .i64 0) (.int .i64 2)) := by
  refine bound_rest _ _ _ _ _ _ w (fun w1 hb hs c0 c1 c2 => caught_pan _ _ _ _ w1 ?_)
  have hb2 := below_two (w := w1) (.cells #[.int .i64 0, .int .i64 0] 31) (.cells #[.int .i64 0] 26)
  exact bound1_no n k d _ _ _ _ hno (by simp; omega) (by simp; omega) (by simp; omega)
    ((hb2.cell (p := ⟨w.heap.size, 0, none⟩) (by show w.heap.size < _; omega)).trans c0) ((hb2.cell (p := ⟨w.heap.size + 1, 0, none⟩) (by show w.heap.size + 1 < _; omega)).trans c1) ((hb2.cell (p := ⟨w.heap.size + 1 + 1, 0, none⟩) (by show w.heap.size + 1 + 1 < _; omega)).trans c2)

set_option maxHeartbeats 400000 in
theorem draw_no (s n : Int) (w : World) (h : n < 1 ∨ 2147483648 < n) :
    Calls Try.prog 12 #[.int .u64 s, .int .i64 n] w (Ret3 w (.int .u64 0) (.int .i64 0) (.int .i64 2)) := by
  rcases h with h | h
  · go_enter Try.func12, Try.ntmps12
    go_wp2
    go_ret3
    exact ⟨rfl, Below.refl _ _⟩
  · go_enter Try.func12, Try.ntmps12
    go_wp2
    go_ret3
    exact ⟨rfl, Below.refl _ _⟩

/-- the state after a state; the number that it gives -/
def nextS (s : Int) : Int := IntKind.u64.wrap (IntKind.u64.wrap (6364136223846793005 * s) + 1442695040888963407)
def pickS (t n : Int) : Int := (wrap64 (t / 8589934592)).tmod n

set_option maxHeartbeats 400000 in
theorem roll_any (p : Nat) (s n : Int) (w : World) (hp : w.heap[p]? = some (.cells #[.int .u64 s] 69 (0, 0))) (hn : 1 ≤ n) (hn2 : n ≤ 2147483648) :
    Calls Try.prog 29 #[.pointer (some ⟨p, 0, none⟩), .int .i64 n] w (fun e w' => e = .returned (.int .i64 (pickS (nextS s) n)) ∧ w.setCell ⟨p, 0, none⟩ (.int .u64 (nextS s)) = w') := by
  have p0 := (obj_cell hp 0).trans rfl
  have p1 := obj_free hp 0
  go_enter Try.func29, Try.ntmps29
  go_wp2
  go_ret
  exact ⟨rfl, rfl⟩

set_option maxHeartbeats 400000 in
theorem draw_any (s n : Int) (w : World) (hn : 1 ≤ n) (hn2 : n ≤ 2147483648) :
    Calls Try.prog 12 #[.int .u64 s, .int .i64 n] w (Ret3 w (.int .u64 (nextS s)) (.int .i64 (pickS (nextS s) n)) (.int .i64 0)) := by
  have h1 : ¬ n < 1 := by omega
  have h2 : ¬ 2147483648 < n := by omega
  have hnew := heap_alloc_new w (.cells #[.int .u64 s] 69)
  have Hnew := Lib.hid hnew; clear hnew
  go_enter Try.func12, Try.ntmps12
  go_wp2_with fail
  refine (roll_any w.heap.size s n _ Hnew.out hn hn2).mono ?_
  rintro e w' ⟨rfl, rfl⟩
  go_wp2
  go_ret3
  exact ⟨rfl, (Below.refl _ _).alloc (Nat.le_refl _) _⟩

end Go.Proofs.Ytkfkdkoohnfgaaa
