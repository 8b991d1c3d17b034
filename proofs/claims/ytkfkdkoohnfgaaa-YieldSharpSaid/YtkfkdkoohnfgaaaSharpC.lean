/-
  DERIVED. The walks of YieldSharp: rows of fractions; atMost.
-/
import Derived.Test.YtkfkdkoohnfgaaaSharpB
import Derived.Test.YtkfkdkoohnfgaaaQuots
namespace Go.Proofs.Ytkfkdkoohnfgaaa
open Go.RowKit

/-- four cells that hold a fraction -/
def QV (w : World) (g i : Nat) (q : Rat) : Prop :=
  ∃ s a n c b m d, w.cell? ⟨g, i, none⟩ = some (.bool s) ∧ w.cell? ⟨g, i + 1, none⟩ = some (.slice a n c) ∧ w.cell? ⟨g, i + 2, none⟩ = some (.bool false) ∧ w.cell? ⟨g, i + 3, none⟩ = some (.slice b m d) ∧ LG w.heap.size w s a n c q.num ∧ LG w.heap.size w false b m d (q.den : Int)

theorem QV.go {w w' : World} {g i : Nat} {q : Rat} (h : QV w g i q) (hg : g < w.heap.size) (hb : Below w.heap.size w w') : QV w' g i q := by
  obtain ⟨s, a, n, c, b, m, d, h1, h2, h3, h4, h5, h6⟩ := h
  exact ⟨s, a, n, c, b, m, d, (hb.cell (p := ⟨g, i, none⟩) hg).trans h1, (hb.cell (p := ⟨g, i + 1, none⟩) hg).trans h2, (hb.cell (p := ⟨g, i + 2, none⟩) hg).trans h3, (hb.cell (p := ⟨g, i + 3, none⟩) hg).trans h4, h5.go hb, h6.go hb⟩

/-- a row of fractions -/
def RowQ (w : World) (g off : Nat) (qs : List Rat) : Prop := g < w.heap.size ∧ ∀ i, i < qs.length → QV w g (off + 4 * i) (qs.getD i 0)

theorem RowQ.go {w w' : World} {g off : Nat} {qs : List Rat} (h : RowQ w g off qs) (hb : Below w.heap.size w w') : RowQ w' g off qs :=
  ⟨Nat.lt_of_lt_of_le h.1 hb.size, fun i hi => (h.2 i hi).go h.1 hb⟩

/-- block g holds the fraction q -/
def VarQ (w : World) (g : Nat) (q : Rat) : Prop :=
  ∃ s a n c b m d, w.heap[g]? = some (.cells #[.bool s, .slice a n c, .bool false, .slice b m d] 62 (0, 0)) ∧ LG w.heap.size w s a n c q.num ∧ LG w.heap.size w false b m d (q.den : Int)

theorem VarQ.store {w : World} {g : Nat} {q : Rat} {s u u' : Bool} {a b v v' : Option Addr} {n c m d p p2 p' p2' : Nat} (h0 : w.heap[g]? = some (.cells #[.bool u, .slice v p p2, .bool u', .slice v' p' p2'] 62 (0, 0)))
    (h1 : LG w.heap.size w s a n c q.num) (h2 : LG w.heap.size w false b m d (q.den : Int)) :
    VarQ ((((w.setCell ⟨g, 0, none⟩ (.bool s)).setCell ⟨g, 1, none⟩ (.slice a n c)).setCell ⟨g, 2, none⟩ (.bool false)).setCell ⟨g, 3, none⟩ (.slice b m d)) g q := by
  have n1 := h1.ne4 h0
  have n2 := h2.ne4 h0
  have k1 := obj_setCell h0 0 (.bool s)
  have k2 := obj_setCell (w := w.setCell ⟨g, 0, none⟩ (.bool s)) k1 1 (.slice a n c)
  have k3 := obj_setCell (w := (w.setCell ⟨g, 0, none⟩ (.bool s)).setCell ⟨g, 1, none⟩ (.slice a n c)) k2 2 (.bool false)
  have k4 := obj_setCell (w := ((w.setCell ⟨g, 0, none⟩ (.bool s)).setCell ⟨g, 1, none⟩ (.slice a n c)).setCell ⟨g, 2, none⟩ (.bool false)) k3 3 (.slice b m d)
  refine ⟨s, a, n, c, b, m, d, by rw [k4]; rfl, ?_, ?_⟩
  · simpa using (((h1.setCell ⟨g, 0, none⟩ (.bool s) n1).setCell ⟨g, 1, none⟩ (.slice a n c) n1).setCell ⟨g, 2, none⟩ (.bool false) n1).setCell ⟨g, 3, none⟩ (.slice b m d) n1
  · simpa using (((h2.setCell ⟨g, 0, none⟩ (.bool s) n2).setCell ⟨g, 1, none⟩ (.slice a n c) n2).setCell ⟨g, 2, none⟩ (.bool false) n2).setCell ⟨g, 3, none⟩ (.slice b m d) n2

set_option maxRecDepth 100000 in
set_option maxHeartbeats 3200000 in
theorem atMost_any (x : Int) (N A k g off cap : Nat) (d : Int) (w : World) (hN : N ≤ 7) (hk : A + k ≤ N + 1) (h0 : 0 ≤ x) (h1 : x ≤ 100) (hd1 : 1 ≤ d) (hd2 : d ≤ 999999) (hrow : RowQ w g off ((List.range k).map fun i => prob x N (A + i))) :
    Calls Try.prog 11 #[.slice (some ⟨g, off, none⟩) k cap, .int .i64 d] w (RetB w (.tuple #[.bool (decide (psum N x A k * 1000000 ≤ d * 100 ^ N)), .bool true])) := by
  have Hrow := Lib.hid hrow; clear hrow
  go_enter Try.func11, Try.ntmps11
  go_wp2_with fail
  refine (qof_any 0 1 _ (by omega) (by omega) (by omega) (by omega)).mono ?_
  rintro e w1 ⟨vv, rfl, hqg, hb1⟩
  obtain ⟨s8, a8, n8, c8, a9, n9, c9, rfl, hl8, hl9⟩ := hqg
  have hza := (Below.refl w1.heap.size w1).alloc (Nat.le_refl _) (.cells #[.bool s8, .slice a8 n8 c8, .bool false, .slice a9 n9 c9] 62)
  have hz0 : mkRat (psum N x A 0) (100 ^ N) = mkRat 0 1 := by rw [show psum N x A 0 = 0 from rfl, Rat.zero_mkRat, Rat.zero_mkRat]
  have hv0 : VarQ (w1.alloc (.cells #[.bool s8, .slice a8 n8 c8, .bool false, .slice a9 n9 c9] 62)) w1.heap.size (mkRat (psum N x A 0) (100 ^ N)) := by
    rw [hz0]
    exact ⟨s8, a8, n8, c8, a9, n9, c9, heap_alloc_new w1 _, hl8.go hza, hl9.go hza⟩
  have Hv0 := Lib.hid hv0; have Hw0 := Lib.hid (hb1.trans (hza.mono hb1.size)); have Hs1 := Lib.hid hb1.size
  clear hv0 hz0 hza hl8 hl9 hb1
  go_wp2_with fail
  go_loopw [7, 20] (fun ev iv wr => ∃ i : Nat, i ≤ k ∧ iv = .int .i64 (i : Int) ∧ ev = .int .i64 0 ∧ VarQ wr w1.heap.size (mkRat (psum N x A i) (100 ^ N)) ∧ Below w.heap.size w wr) (fun _ iv _ => k - (intOf iv).toNat)
  case atStart => exact ⟨0, Nat.zero_le _, rfl, rfl, Hv0.out, Hw0.out⟩
  case round =>
    obtain ⟨i, hi, rfl, rfl, ⟨s, a, n, c, b, m, e, v1, v2, v3⟩, hwr⟩ := hrel
    obtain ⟨q0, q1, q2, q3, _, _, _, _⟩ := cells_of4 v1
    have hlt := lt_of_block v1
    have V1 := Lib.hid v1; have V2 := Lib.hid v2; have V3 := Lib.hid v3; have Hwr := Lib.hid hwr
    clear v1 v2 v3 hwr
    by_cases hik : i < k
    · have hr := (Hrow.out.go Hwr.out).2 i (by simpa using hik)
      rw [show ((List.range k).map fun i => prob x N (A + i)).getD i 0 = prob x N (A + i) by simp [List.getD_eq_getElem?_getD, hik], show off + 4 * i = off + i * 4 by omega] at hr
      obtain ⟨s2, a2, n2, c2, b2, m2, e2, p0, p1, p2, p3, l2, l3⟩ := hr
      have L2 := Lib.hid l2; have L3 := Lib.hid l3
      clear l2 l3
      go_wp2_with fail
      have hba := (Below.refl wr.heap.size wr).alloc (Nat.le_refl _) (.cells #[.bool s2, .slice a2 n2 c2, .bool false, .slice b2 m2 e2] 62)
      have hsum := prob_sum x N A i
      have hf := rat_fit (n := psum N x A (i + 1)) (pow100 N) (l := 600) (fit_psum (by omega) h0 h1 (by omega)) (by
        have := fit_pow (x := 100) (by omega) (by omega) (show N ≤ 200 by omega)
        rwa [show ((100 : Int) ^ N).natAbs = 100 ^ N by rw [Int.natAbs_pow]; rfl] at this)
      rw [← hsum] at hf
      refine (qadd_any _ _ _ _ _ ⟨s, a, n, c, b, m, e, rfl, V2.out.go hba, V3.out.go hba⟩ ⟨s2, a2, n2, c2, b2, m2, e2, rfl, L2.out.go hba, L3.out.go hba⟩ hf.1 hf.2).mono ?_
      rintro e w5 ⟨vv, rfl, hqg, hb5⟩
      rw [hsum] at hqg
      obtain ⟨s6, a6, n6, c6, b6, m6, e6, rfl, l6, l7⟩ := hqg
      have h05 := hba.trans (hb5.mono hba.size)
      have e5 := (h05.block w1.heap.size hlt).trans V1.out
      obtain ⟨k1, k2, k3, k4, f1, f2, f3, f4⟩ := cells_of4 e5
      have E5 := Lib.hid e5; have L6 := Lib.hid l6; have L7 := Lib.hid l7; have Hw5 := Lib.hid (Hwr.out.trans (h05.mono Hwr.out.size))
      clear hba hsum hf hb5 l6 l7 h05 e5 q0 q1 q2 q3 p0 p1 p2 p3
      go_wp2_with fail
      go_roundw
      case rel =>
        exact ⟨i + 1, by omega, by go_num, rfl, VarQ.store E5.out L6.out L7.out, (((Hw5.out.setCell Hs1.out _).setCell Hs1.out _).setCell Hs1.out _).setCell Hs1.out _⟩
      case measure => simp [intOf]; omega
    · obtain rfl : i = k := by omega
      go_wp2_with fail
      refine (qof_any d 1000000 _ (by omega) (by omega) (by omega) (by omega)).mono ?_
      rintro e4 w5 ⟨vv, rfl, hqg, hb5⟩
      obtain ⟨s6, a6, n6, c6, b6, m6, e6, rfl, l6, l7⟩ := hqg
      have hba := (Below.refl w5.heap.size w5).alloc (Nat.le_refl _) (.cells #[.bool s6, .slice a6 n6 c6, .bool false, .slice b6 m6 e6] 62)
      have h05 := hb5.trans (hba.mono hb5.size)
      have e5 := (h05.block w1.heap.size hlt).trans V1.out
      obtain ⟨k1, k2, k3, k4, _, _, _, _⟩ := cells_of4 e5
      have X1 := Lib.hid (V2.out.go h05); have X2 := Lib.hid (V3.out.go h05); have X3 := Lib.hid (l6.go hba); have X4 := Lib.hid (l7.go hba); have Hw5 := Lib.hid (Hwr.out.trans (h05.mono Hwr.out.size))
      clear hba hb5 h05 e5 l6 l7 q0 q1 q2 q3
      go_wp2_with fail
      refine (qcmp_any (mkRat (psum N x A i) (100 ^ N)) (mkRat d 1000000) _ _ _ ⟨s, a, n, c, b, m, e, rfl, X1.out, X2.out⟩ ⟨s6, a6, n6, c6, b6, m6, e6, rfl, X3.out, X4.out⟩).mono ?_
      rintro e7 w7 ⟨rfl, hb7⟩
      have hcmp := rat_cmp (n1 := psum N x A i) (n2 := d) (pow100 N) (show (1000000 : Nat) ≠ 0 by omega)
      generalize cmpZ ((mkRat (psum N x A i) (100 ^ N)).num * (mkRat d 1000000).den) ((mkRat d 1000000).num * (mkRat (psum N x A i) (100 ^ N)).den) = r at *
      have Hc := Lib.hid hcmp; have Hw7 := Lib.hid (Hw5.out.trans (hb7.mono Hw5.out.size))
      clear hcmp hb7 k1 k2 k3 k4
      go_wp2
      go_ret2
      refine ⟨?_, Hw7.out⟩
      have hd : decide (r ≤ 0) = decide (psum N x A i * 1000000 ≤ d * 100 ^ N) := decide_eq_decide.2 (by have := Hc.out; rw [Int.natCast_pow] at this; exact this)
      rw [← hd]; rfl

end Go.Proofs.Ytkfkdkoohnfgaaa
