/-
  DERIVED. The walks of package yield, first part: must, mul, powers.
-/
import Derived.Test.YtkfkdkoohnfgaaaLongE
import Derived.Deep.RegionHeld3
import Derived.Deep.AppendLies
namespace Go.Proofs.Ytkfkdkoohnfgaaa
open Go.RowKit

set_option maxHeartbeats 400000 in
theorem mustL_ok (s : Bool) (a : Option Addr) (n c : Nat) (w : World) :
    Calls Try.prog 31 #[.agg #[.bool s, .slice a n c], .int .i64 0] w (RetB w (.agg #[.bool s, .slice a n c])) := by
  go_enter Try.func31, Try.ntmps31
  go_wp2
  refine bodyPost_ret (v := .agg #[.bool s, .slice a n c]) ?_ rfl ?_
  · simp [results, Try.results31, go_sem]
  · exact ⟨rfl, by first | exact below_two _ _ | exact ((below_two _ _).setCell (by simp) _).setCell (by simp) _⟩

set_option maxHeartbeats 400000 in
theorem mustI_ok (r : Int) (w : World) :
    Calls Try.prog 34 #[.int .i64 r, .int .i64 0] w (RetB w (.int .i64 r)) := by
  go_enter Try.func34, Try.ntmps34
  go_wp2
  go_ret
  exact ⟨rfl, Below.refl _ _⟩

theorem heap3_kept {w w1 : World} {o p : Obj} {q : Array Value} {t : TypeId} (hb : Below (((w.alloc o).alloc p).alloc (.cells q t)).heap.size (((w.alloc o).alloc p).alloc (.cells q t)) w1) :
    (∀ i, w1.cell? ⟨w.heap.size + 1 + 1, i, none⟩ = q[i]?) ∧ (∀ i, w1.frozen? ⟨w.heap.size + 1 + 1, i, none⟩ = false) ∧ Below w.heap.size w w1 ∧ w.heap.size + 3 ≤ w1.heap.size := by
  refine ⟨fun i => ?_, fun i => ?_, (below3 w o p _).trans (hb.mono (by simp; omega)), by have := hb.size; simpa using this⟩
  · rw [hb.cell (p := ⟨w.heap.size + 1 + 1, i, none⟩) (by simp)]; exact World.cell?_alloc_at _ _ _ _ (by simp)
  · rw [hb.frozen (p := ⟨w.heap.size + 1 + 1, i, none⟩) (by simp)]; exact World.frozen?_alloc_at _ _ _ _ (by simp)

/-- a long integer, by way of a block of the call's own -/
theorem retL1_mk {w w3 : World} {s : Bool} {a : Option Addr} {n c B : Nat} {z : Int} (hlg : LG w3.heap.size w3 s a n c z) (hb : Below w.heap.size w w3) (hf : Fresh B a n) (blk : Nat) (hblk : blk < B) (hw : w.heap.size ≤ blk) (u v : Value) :
    RetL1 w z (.returned (.agg #[.bool s, .slice a n c])) ((w3.setCell ⟨blk, 0, none⟩ u).setCell ⟨blk, 1, none⟩ v) := by
  have hne : ∀ b off, a = some ⟨b, off, none⟩ → 0 < n → b ≠ blk := fun b off e h0 => by have := hf b off e h0; omega
  refine ⟨s, a, n, c, rfl, ?_, (hb.setCell hw _).setCell hw _, hf.mono (by omega)⟩
  have := (hlg.setCell ⟨blk, 0, none⟩ u hne).setCell ⟨blk, 1, none⟩ v hne
  simpa using this

set_option maxHeartbeats 800000 in
theorem ymul_any (s1 s2 : Bool) (z1 z2 : Int) (a1 a2 : Option Addr) (n1 n2 c1 c2 : Nat) (w : World) (h1 : LG w.heap.size w s1 a1 n1 c1 z1) (h2 : LG w.heap.size w s2 a2 n2 c2 z2)
    (hfit : (digs (z1 * z2).natAbs).length ≤ 600) :
    Calls Try.prog 18 #[.agg #[.bool s1, .slice a1 n1 c1], .agg #[.bool s2, .slice a2 n2 c2]] w (RetL1 w (z1 * z2)) := by
  have H1 := Lib.hid h1; have H2 := Lib.hid h2; have Hfit := Lib.hid hfit; clear h1 h2 hfit
  go_enter Try.func18, Try.ntmps18
  go_wp2_with fail
  have hq := below3 w (.cells #[.bool s1, .slice a1 n1 c1] 51) (.cells #[.bool s2, .slice a2 n2 c2] 51) (.cells #[.bool false, .slice none 0 0] 51)
  have Hq := Lib.hid hq; clear hq
  refine (mul_any s1 s2 z1 z2 a1 a2 n1 n2 c1 c2 _ (H1.out.go Hq.out) (H2.out.go Hq.out) Hfit.out).mono ?_
  rintro e w1 ⟨s3, a3, n3, c3, rfl, hlg, hb1, hf1⟩
  go_wp2_with fail
  refine (mustL_ok s3 a3 n3 c3 w1).mono ?_
  rintro e w2 ⟨rfl, hb2⟩
  have hlg2 := hlg.go hb2
  have hbb := hb1.trans (hb2.mono hb1.size)
  obtain ⟨k1, k2, k3, k4⟩ := heap3_kept hbb
  have q4 := (k1 0).trans rfl
  have q5 := (k1 1).trans rfl
  have q6 := k2 0
  have q7 := k2 1
  rw [heap3_size] at hf1
  clear hlg k1 k2 hb1 hb2 hbb
  go_wp2
  refine bodyPost_ret (v := .agg #[.bool s3, .slice a3 n3 c3]) ?_ rfl ?_
  · simp [results, Try.results18, go_sem, q4, q5]
  · exact retL1_mk hlg2 k3 hf1 _ (by omega) (by omega) _ _

end Go.Proofs.Ytkfkdkoohnfgaaa
