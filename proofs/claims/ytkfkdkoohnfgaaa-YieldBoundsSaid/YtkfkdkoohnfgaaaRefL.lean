/-
  DERIVED. The walks of the reference's bounds of a yield, first part: add and mul.
-/
import Derived.Test.YtkfkdkoohnfgaaaRefK
namespace Go.Proofs.Ytkfkdkoohnfgaaa
open Go.RowKit

set_option maxRecDepth 100000 in
set_option maxHeartbeats 800000 in
theorem add39_any (N : Nat) (s : Bool) (x y : Int) (a b : Option Addr) (n m c d : Nat) (w : World) (ha : LG N w s a n c x) (hb : LG N w s b m d y) (hN : N ≤ w.heap.size) (hfit : (digs (x + y).natAbs).length ≤ 600) :
    Calls Try.prog 37 #[.agg #[.bool s, .slice a n c], .agg #[.bool s, .slice b m d]] w (RetA1 N w (x + y)) := by
  have Ha := Lib.hid ha; have Hb := Lib.hid hb; have Hfit := Lib.hid hfit; clear ha hb hfit
  have hbb := below_three w (.cells #[.bool s, .slice a n c] 51) (.cells #[.bool s, .slice b m d] 51) (.cells #[.bool false, .slice none 0 0] 51)
  have Hbb := Lib.hid hbb; clear hbb
  go_enter Try.func37, Try.ntmps37
  go_wp2_with fail
  refine (refAdd_any N s x y a b n m c d _ (Ha.out.below Hbb.out hN) (Hb.out.below Hbb.out hN) (by simp; omega) Hfit.out).mono ?_
  rintro e w2 ⟨s', a', n', c', rfl, hlg, hb2, ho⟩
  obtain ⟨e1, e2, e3, hs2, hw2⟩ := three_boxes hb2
  have Ho : Hid (Out N (w.heap.size + 3) a' n') := Lib.hid (by simpa [Nat.add_assoc] using ho)
  have Hlg := Lib.hid hlg; have Hw2 := Lib.hid hw2
  clear hb2 Hbb e1 e2 ho hlg hw2
  have hz := (Below.refl w2.heap.size w2).alloc (Nat.le_refl _) (.cells #[.bool s', .slice a' n' c'] 51)
  obtain ⟨q5, q6, f5, f6⟩ := cells_at ((hz.block (w.heap.size + 2) (by omega)).trans e3)
  clear e3 hz
  go_wp2_with fail
  refine bodyPost_ret (v := .agg #[.bool s', .slice a' n' c']) ?_ rfl ?_
  · simp [results, Try.results37, go_sem, q5, q6]
  · have hz := (Below.refl w2.heap.size w2).alloc (Nat.le_refl _) (.cells #[.bool s', .slice a' n' c'] 51)
    have hw := Hw2.out.trans (hz.mono Hw2.out.size)
    refine ⟨s', a', n', c', rfl, lg_stored (blk := w.heap.size + 2) (Hlg.out.go hz) Ho.out (by omega) (by omega) _ _, (hw.setCell ?_ _).setCell ?_ _, Ho.out.mono (Nat.le_refl _) (by omega)⟩
    · show w.heap.size ≤ w.heap.size + 2; omega
    · show w.heap.size ≤ w.heap.size + 2; omega

set_option maxRecDepth 100000 in
set_option maxHeartbeats 800000 in
theorem mul39_any (s t : Bool) (x y : Int) (a b : Option Addr) (n m c d : Nat) (w : World) (ha : LG w.heap.size w s a n c x) (hb : LG w.heap.size w t b m d y) (hfit : (digs (x * y).natAbs).length ≤ 600) :
    Calls Try.prog 38 #[.agg #[.bool s, .slice a n c], .agg #[.bool t, .slice b m d]] w (RetL1 w (x * y)) := by
  have Ha := Lib.hid ha; have Hb := Lib.hid hb; have Hfit := Lib.hid hfit; clear ha hb hfit
  have hbb := below_three w (.cells #[.bool s, .slice a n c] 51) (.cells #[.bool t, .slice b m d] 51) (.cells #[.bool false, .slice none 0 0] 51)
  have Hbb := Lib.hid hbb; clear hbb
  go_enter Try.func38, Try.ntmps38
  go_wp2_with fail
  refine (refMul_any s t x y a b n m c d _ (Ha.out.go Hbb.out) (Hb.out.go Hbb.out) Hfit.out).mono ?_
  rintro e w2 ⟨s', a', n', c', rfl, hlg, hb2, ho⟩
  obtain ⟨e1, e2, e3, hs2, hw2⟩ := three_boxes hb2
  have Ho : Hid (Fresh (w.heap.size + 3) a' n') := Lib.hid (by simpa [Nat.add_assoc] using ho)
  have Hlg := Lib.hid hlg; have Hw2 := Lib.hid hw2
  clear hb2 Hbb e1 e2 ho hlg hw2
  have hz := (Below.refl w2.heap.size w2).alloc (Nat.le_refl _) (.cells #[.bool s', .slice a' n' c'] 51)
  obtain ⟨q5, q6, f5, f6⟩ := cells_at ((hz.block (w.heap.size + 2) (by omega)).trans e3)
  clear e3 hz
  go_wp2_with fail
  refine bodyPost_ret (v := .agg #[.bool s', .slice a' n' c']) ?_ rfl ?_
  · simp [results, Try.results38, go_sem, q5, q6]
  · have hz := (Below.refl w2.heap.size w2).alloc (Nat.le_refl _) (.cells #[.bool s', .slice a' n' c'] 51)
    have hw := Hw2.out.trans (hz.mono Hw2.out.size)
    exact refL1_mk (Hlg.out.go hz) hw Ho.out (w.heap.size + 2) (by omega) (by omega) _ _

end Go.Proofs.Ytkfkdkoohnfgaaa
