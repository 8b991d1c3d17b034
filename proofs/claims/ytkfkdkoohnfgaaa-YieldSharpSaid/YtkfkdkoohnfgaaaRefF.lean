/-
  DERIVED. The walks of the reference's long integers, sixth part: Add.
-/
import Derived.Test.YtkfkdkoohnfgaaaRefE
namespace Go.Proofs.Ytkfkdkoohnfgaaa
open Go.RowKit

theorem three_boxes {w : World} {x1 y1 x2 y2 x3 y3 : Value} {t : TypeId} {w2 : World} (hb : Below (((w.alloc (.cells #[x1, y1] t)).alloc (.cells #[x2, y2] t)).alloc (.cells #[x3, y3] t)).heap.size (((w.alloc (.cells #[x1, y1] t)).alloc (.cells #[x2, y2] t)).alloc (.cells #[x3, y3] t)) w2) :
    w2.heap[w.heap.size]? = some (.cells #[x1, y1] t (0, 0)) ∧ w2.heap[w.heap.size + 1]? = some (.cells #[x2, y2] t (0, 0)) ∧ w2.heap[w.heap.size + 2]? = some (.cells #[x3, y3] t (0, 0)) ∧ w.heap.size + 3 ≤ w2.heap.size ∧ Below w.heap.size w w2 := by
  obtain ⟨e1, e2, e3⟩ := heap_three w (.cells #[x1, y1] t) (.cells #[x2, y2] t) (.cells #[x3, y3] t)
  have hs := hb.size
  simp at hs
  exact ⟨(hb.block _ (by simp; omega)).trans e1, (hb.block _ (by simp)).trans e2, (hb.block _ (by simp)).trans e3, by omega, below_alloc (below_alloc (below_alloc hb))⟩

set_option maxRecDepth 100000 in
set_option maxHeartbeats 800000 in
theorem refAdd_any (N : Nat) (s : Bool) (x y : Int) (a b : Option Addr) (n m c d : Nat) (w : World) (ha : LG N w s a n c x) (hb : LG N w s b m d y) (hN : N ≤ w.heap.size) (hfit : (digs (x + y).natAbs).length ≤ 600) :
    Calls Try.prog 60 #[.agg #[.bool s, .slice a n c], .agg #[.bool s, .slice b m d]] w (RetA N w (x + y)) := by
  have Ha := Lib.hid ha; have Hb := Lib.hid hb; have Hfit := Lib.hid hfit; clear ha hb hfit
  have hbb := below_three w (.cells #[.bool s, .slice a n c] 51) (.cells #[.bool s, .slice b m d] 51) (.cells #[.bool false, .slice none 0 0] 51)
  have Hbb := Lib.hid hbb; clear hbb
  go_enter Try.func60, Try.ntmps60
  go_wp2_with fail
  refine (right_ok s x a n c _ ((Ha.out.mono hN).go Hbb.out)).mono ?_
  rintro e w2 ⟨rfl, hb2⟩
  obtain ⟨e1, e2, e3, hs2, hw2⟩ := three_boxes hb2
  clear hb2 Hbb
  obtain ⟨q1, q2, _, _⟩ := cells_at e1
  obtain ⟨q3, q4, _, _⟩ := cells_at e2
  have E1 := Lib.hid e1; have E2 := Lib.hid e2; have E3 := Lib.hid e3; clear e1 e2 e3
  go_wp2_with fail
  refine (right_ok s y b m d _ ((Hb.out.mono hN).go hw2)).mono ?_
  rintro e w3 ⟨rfl, hb3⟩
  have e1 := (hb3.block _ (by omega)).trans E1.out
  have e2 := (hb3.block _ (by omega)).trans E2.out
  have e3 := (hb3.block _ (by omega)).trans E3.out
  clear q1 q2 q3 q4 E1 E2 E3
  obtain ⟨q1, q2, _, _⟩ := cells_at e1
  obtain ⟨q3, q4, _, _⟩ := cells_at e2
  have E3 := Lib.hid e3
  have hw3 := hw2.trans (hb3.mono hw2.size)
  have hs3 : w.heap.size + 3 ≤ w3.heap.size := by have := hb3.size; omega
  clear e1 e2 e3 hb3 hw2 hs2
  go_wp2_with fail
  refine (sum_any N s x y a b n m c d _ (Ha.out.below hw3 hN) (Hb.out.below hw3 hN) (by have := hw3.size; omega) Hfit.out).mono ?_
  rintro e w4 ⟨s', a', n', c', rfl, hlg, hb4, ho⟩
  have e3 := (hb4.block _ (by omega)).trans E3.out
  have hw4 := hw3.trans (hb4.mono hw3.size)
  have hs4 : w.heap.size + 3 ≤ w4.heap.size := by have := hb4.size; omega
  have Ho := Lib.hid ho; have Hlg := Lib.hid hlg; have E4 := Lib.hid e3
  clear q1 q2 q3 q4 E3 e3 ho hlg
  go_wp2_with fail
  refine (refTold_ok s' a' n' c' _ Hlg.out.2.2).mono ?_
  rintro e w5 ⟨rfl, hb5⟩
  have e3 := (hb5.block _ (by omega)).trans E4.out
  have hw5 := hw4.trans (hb5.mono hw4.size)
  obtain ⟨q5, q6, f5, f6⟩ := cells_at e3
  have hl5 := Lib.hid (Hlg.out.go hb5)
  clear e3 E4 Hlg hb5
  go_wp2_with fail
  refine bodyPost_ret (v := .tuple #[.agg #[.bool s', .slice a' n' c'], .int .i64 0]) ?_ rfl ?_
  · simp [results, Try.results60, go_sem, q5, q6]
  · exact ⟨s', a', n', c', rfl, lg_stored hl5.out Ho.out (by omega) (by omega) _ _, (hw5.setCell (by show w.heap.size ≤ w.heap.size + 2; omega) _).setCell (by show w.heap.size ≤ w.heap.size + 2; omega) _, Ho.out.mono (Nat.le_refl _) hw3.size⟩

end Go.Proofs.Ytkfkdkoohnfgaaa
