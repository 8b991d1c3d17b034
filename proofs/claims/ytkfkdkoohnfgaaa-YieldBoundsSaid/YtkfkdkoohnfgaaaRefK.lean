/-
  DERIVED. The walks of the reference's long integers, eleventh part: Div, of numbers not negative.
-/
import Derived.Test.YtkfkdkoohnfgaaaRefJ
import Derived.BigRegion
namespace Go.Proofs.Ytkfkdkoohnfgaaa
open Go.RowKit

theorem four_boxes {w : World} {x1 y1 x2 y2 x3 y3 x4 y4 : Value} {t : TypeId} {w2 : World} (hb : Below ((((w.alloc (.cells #[x1, y1] t)).alloc (.cells #[x2, y2] t)).alloc (.cells #[x3, y3] t)).alloc (.cells #[x4, y4] t)).heap.size ((((w.alloc (.cells #[x1, y1] t)).alloc (.cells #[x2, y2] t)).alloc (.cells #[x3, y3] t)).alloc (.cells #[x4, y4] t)) w2) :
    w2.heap[w.heap.size]? = some (.cells #[x1, y1] t (0, 0)) ∧ w2.heap[w.heap.size + 1]? = some (.cells #[x2, y2] t (0, 0)) ∧ w2.heap[w.heap.size + 2]? = some (.cells #[x3, y3] t (0, 0)) ∧ w2.heap[w.heap.size + 3]? = some (.cells #[x4, y4] t (0, 0)) ∧ w.heap.size + 4 ≤ w2.heap.size ∧ Below w.heap.size w w2 := by
  obtain ⟨e1, e2, e3, e4⟩ := heap_four w (.cells #[x1, y1] t) (.cells #[x2, y2] t) (.cells #[x3, y3] t) (.cells #[x4, y4] t)
  have hs := hb.size
  simp at hs
  exact ⟨(hb.block _ (by simp <;> omega)).trans e1, (hb.block _ (by simp <;> omega)).trans e2, (hb.block _ (by simp <;> omega)).trans e3, (hb.block _ (by simp)).trans e4, by omega, below_alloc (below_alloc (below_alloc (below_alloc hb)))⟩

/-- a call that gives back two long integers and no error -/
def RetLLE (w : World) (x y : Int) (e : Ending) (w' : World) : Prop :=
  ∃ s a n c s' a' n' c', e = .returned (.tuple #[.agg #[.bool s, .slice a n c], .agg #[.bool s', .slice a' n' c'], .int .i64 0]) ∧ LG w'.heap.size w' s a n c x ∧ LG w'.heap.size w' s' a' n' c' y ∧ Below w.heap.size w w' ∧ Fresh w.heap.size a n ∧ Fresh w.heap.size a' n'

set_option maxRecDepth 100000 in
set_option maxHeartbeats 1600000 in
theorem refDiv_any (x y : Nat) (a b : Option Addr) (n m c d : Nat) (w : World) (ha : LG w.heap.size w false a n c (x : Int)) (hb : LG w.heap.size w false b m d (y : Int)) (hy : 0 < y) (hm : m ≤ 599) :
    Calls Try.prog 62 #[.agg #[.bool false, .slice a n c], .agg #[.bool false, .slice b m d]] w (RetLLE w ((x / y : Nat) : Int) ((x % y : Nat) : Int)) := by
  have hm0 : 0 < m := by
    have := hb.2.1.len
    rw [Int.natAbs_natCast] at this
    rcases Nat.eq_zero_or_pos m with h | h
    · rw [h] at this; have := digs_len_zero.1 this.symm; omega
    · exact h
  have hn := ha.2.2
  have Ha := Lib.hid ha; have Hb := Lib.hid hb; clear ha hb
  have hbb := below_four w (.cells #[.bool false, .slice a n c] 51) (.cells #[.bool false, .slice b m d] 51) (.cells #[.bool false, .slice none 0 0] 51) (.cells #[.bool false, .slice none 0 0] 51)
  have Hbb := Lib.hid hbb; clear hbb
  go_enter Try.func62, Try.ntmps62
  go_wp2_with fail
  refine (right_ok false x a n c _ (Ha.out.go Hbb.out)).mono ?_
  rintro e w2 ⟨rfl, hb2⟩
  obtain ⟨e1, e2, e3, e4, hs2, hw2⟩ := four_boxes hb2
  clear hb2 Hbb
  obtain ⟨q1, q2, _, _⟩ := cells_at e1
  obtain ⟨q3, q4, _, _⟩ := cells_at e2
  have E1 := Lib.hid e1; have E2 := Lib.hid e2; have E3 := Lib.hid e3; have E4 := Lib.hid e4; clear e1 e2 e3 e4
  go_wp2_with fail
  refine (right_ok false y b m d _ (Hb.out.go hw2)).mono ?_
  rintro e w3 ⟨rfl, hb3⟩
  have e1 := (hb3.block _ (by omega)).trans E1.out
  have e2 := (hb3.block _ (by omega)).trans E2.out
  have e3 := (hb3.block _ (by omega)).trans E3.out
  have e4 := (hb3.block _ (by omega)).trans E4.out
  clear q1 q2 q3 q4 E1 E2 E3 E4
  obtain ⟨q1, q2, _, _⟩ := cells_at e1
  obtain ⟨q3, q4, _, _⟩ := cells_at e2
  have E3 := Lib.hid e3; have E4 := Lib.hid e4
  have hw3 := hw2.trans (hb3.mono hw2.size)
  have hs3 : w.heap.size + 4 ≤ w3.heap.size := by have := hb3.size; omega
  have hmz : ((m : Int) == 0) = false := by rw [beq_eq_false_iff_ne]; omega
  clear e1 e2 e3 e4 hb3 hw2 hs2
  go_wp2_with fail
  refine (parts_any x y a b n m c d _ (Ha.out.go hw3) (Hb.out.go hw3) hy hm).mono ?_
  rintro e w4 ⟨s5, a5, n5, c5, s6, a6, n6, c6, rfl, hl5, hl6, hb4, hf5, hf6⟩
  have e3 := (hb4.block _ (by omega)).trans E3.out
  have e4 := (hb4.block _ (by omega)).trans E4.out
  have hw4 := hw3.trans (hb4.mono hw3.size)
  have hs4 : w.heap.size + 4 ≤ w4.heap.size := by have := hb4.size; omega
  have Hl5 := Lib.hid hl5; have Hl6 := Lib.hid hl6; have Hw4 := Lib.hid hw4
  have F5 := Lib.hid hf5; have F6 := Lib.hid hf6; have Hw3 := Lib.hid hw3
  clear q1 q2 q3 q4 E3 E4 hl5 hl6 hf5 hf6 hb4 hw4
  obtain ⟨q5, q6, f5, f6⟩ := cells_at e3
  obtain ⟨q7, q8, f7, f8⟩ := cells_at e4
  clear e3 e4
  go_wp2_with fail
  obtain ⟨d1, d2⟩ := heap_two w4 (.cells #[.bool s5, .slice a5 n5 c5] 51) (.cells #[.bool s6, .slice a6 n6 c6] 51)
  have hb5 := below_two (w := w4) (.cells #[.bool s5, .slice a5 n5 c5] 51) (.cells #[.bool s6, .slice a6 n6 c6] 51)
  generalize (w4.alloc (.cells #[.bool s5, .slice a5 n5 c5] 51)).alloc (.cells #[.bool s6, .slice a6 n6 c6] 51) = w5 at *
  obtain ⟨c1, c2, _, _⟩ := cells_at d1
  obtain ⟨c3, c4, _, _⟩ := cells_at d2
  have k5 := (hb5.cell (p := ⟨w.heap.size + 2, 0, none⟩) (by show w.heap.size + 2 < w4.heap.size; omega)).trans q5
  have k6 := (hb5.cell (p := ⟨w.heap.size + 2, 1, none⟩) (by show w.heap.size + 2 < w4.heap.size; omega)).trans q6
  have k7 := (hb5.cell (p := ⟨w.heap.size + 3, 0, none⟩) (by show w.heap.size + 3 < w4.heap.size; omega)).trans q7
  have k8 := (hb5.cell (p := ⟨w.heap.size + 3, 1, none⟩) (by show w.heap.size + 3 < w4.heap.size; omega)).trans q8
  have l5 := (hb5.frozen (p := ⟨w.heap.size + 2, 0, none⟩) (by show w.heap.size + 2 < w4.heap.size; omega)).trans f5
  have l6 := (hb5.frozen (p := ⟨w.heap.size + 2, 1, none⟩) (by show w.heap.size + 2 < w4.heap.size; omega)).trans f6
  have l7 := (hb5.frozen (p := ⟨w.heap.size + 3, 0, none⟩) (by show w.heap.size + 3 < w4.heap.size; omega)).trans f7
  have l8 := (hb5.frozen (p := ⟨w.heap.size + 3, 1, none⟩) (by show w.heap.size + 3 < w4.heap.size; omega)).trans f8
  clear q5 q6 q7 q8 f5 f6 f7 f8 d1 d2
  have H5 := Lib.hid hb5
  clear hb5
  go_region
  go_wp2_with fail
  refine bodyPost_ret (v := .tuple #[.agg #[.bool s5, .slice a5 n5 c5], .agg #[.bool s6, .slice a6 n6 c6], .int .i64 0]) ?_ rfl ?_
  · simp [results, Try.results62, go_sem, k5, k6, k7, k8]
  · have o5 : Out 0 w3.heap.size a5 n5 := Out.ofFresh F5.out
    have o6 : Out 0 w3.heap.size a6 n6 := Out.ofFresh F6.out
    have m5 := lg_stored (lg_stored (Hl5.out.go H5.out) o5 (Nat.zero_le (w.heap.size + 2)) (by omega) (.bool s5) (.slice a5 n5 c5)) o5 (Nat.zero_le (w.heap.size + 3)) (by omega) (.bool s6) (.slice a6 n6 c6)
    have m6 := lg_stored (lg_stored (Hl6.out.go H5.out) o6 (Nat.zero_le (w.heap.size + 2)) (by omega) (.bool s5) (.slice a5 n5 c5)) o6 (Nat.zero_le (w.heap.size + 3)) (by omega) (.bool s6) (.slice a6 n6 c6)
    have hw5 := Hw4.out.trans (H5.out.mono Hw4.out.size)
    refine ⟨s5, a5, n5, c5, s6, a6, n6, c6, rfl, m5, m6, below_drewN ((((hw5.setCell ?_ _).setCell ?_ _).setCell ?_ _).setCell ?_ _) 1, F5.out.mono Hw3.out.size, F6.out.mono Hw3.out.size⟩
    · show w.heap.size ≤ w.heap.size + 2; omega
    · show w.heap.size ≤ w.heap.size + 2; omega
    · show w.heap.size ≤ w.heap.size + 3; omega
    · show w.heap.size ≤ w.heap.size + 3; omega

end Go.Proofs.Ytkfkdkoohnfgaaa
