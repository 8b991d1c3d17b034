/-
  DERIVED. The walks of package long, fifth part: both at Times, Mul.
-/
import Derived.Test.YtkfkdkoohnfgaaaLongD
namespace Go.Proofs.Ytkfkdkoohnfgaaa
open Go.RowKit

/-- what stands in the four blocks that a function of two long integers lays, behind a call -/
structure Kept4 (w : World) (s1 s2 : Bool) (a1 a2 : Option Addr) (n1 n2 c1 c2 : Nat) (w1 : World) : Prop where
  j0 : w1.cell? ⟨w.heap.size, 0, none⟩ = some (.bool s1)
  j1 : w1.cell? ⟨w.heap.size, 1, none⟩ = some (.slice a1 n1 c1)
  j2 : w1.cell? ⟨w.heap.size + 1, 0, none⟩ = some (.bool s2)
  j3 : w1.cell? ⟨w.heap.size + 1, 1, none⟩ = some (.slice a2 n2 c2)
  j4 : w1.cell? ⟨w.heap.size + 1 + 1, 0, none⟩ = some (.bool false)
  j5 : w1.cell? ⟨w.heap.size + 1 + 1, 1, none⟩ = some (.slice none 0 0)
  j6 : w1.frozen? ⟨w.heap.size + 1 + 1, 0, none⟩ = false
  j7 : w1.frozen? ⟨w.heap.size + 1 + 1, 1, none⟩ = false
  below : Below w.heap.size w w1
  size : w.heap.size + 4 ≤ w1.heap.size

theorem kept4_of {w : World} {s1 s2 : Bool} {a1 a2 : Option Addr} {n1 n2 c1 c2 : Nat} {t : TypeId} {r : Array Value} {w1 : World}
    (hb1 : Below ((((w.alloc (.cells #[.bool s1, .slice a1 n1 c1] t)).alloc (.cells #[.bool s2, .slice a2 n2 c2] t)).alloc (.cells #[.bool false, .slice none 0 0] t)).alloc (.cells r t)).heap.size ((((w.alloc (.cells #[.bool s1, .slice a1 n1 c1] t)).alloc (.cells #[.bool s2, .slice a2 n2 c2] t)).alloc (.cells #[.bool false, .slice none 0 0] t)).alloc (.cells r t)) w1) :
    Kept4 w s1 s2 a1 a2 n1 n2 c1 c2 w1 := by
  have hc := cells4 w #[.bool s1, .slice a1 n1 c1] #[.bool s2, .slice a2 n2 c2] #[.bool false, .slice none 0 0] r t t t t
  refine ⟨(hb1.cell (p := ⟨w.heap.size, 0, none⟩) (by simp; omega)).trans ((hc.1 0).trans rfl), (hb1.cell (p := ⟨w.heap.size, 1, none⟩) (by simp; omega)).trans ((hc.1 1).trans rfl),
    (hb1.cell (p := ⟨w.heap.size + 1, 0, none⟩) (by simp)).trans ((hc.2.1 0).trans rfl), (hb1.cell (p := ⟨w.heap.size + 1, 1, none⟩) (by simp)).trans ((hc.2.1 1).trans rfl),
    (hb1.cell (p := ⟨w.heap.size + 1 + 1, 0, none⟩) (by simp)).trans ((hc.2.2.1 0).trans rfl), (hb1.cell (p := ⟨w.heap.size + 1 + 1, 1, none⟩) (by simp)).trans ((hc.2.2.1 1).trans rfl),
    (hb1.frozen (p := ⟨w.heap.size + 1 + 1, 0, none⟩) (by simp)).trans (hc.2.2.2.2 0), (hb1.frozen (p := ⟨w.heap.size + 1 + 1, 1, none⟩) (by simp)).trans (hc.2.2.2.2 1),
    (below4 w _ _ _ _).trans (hb1.mono (by simp; omega)), by have := hb1.size; simpa using this⟩

set_option maxRecDepth 100000 in
set_option maxHeartbeats 1000000 in
theorem both_times (s1 s2 g : Bool) (z1 z2 : Int) (a1 a2 : Option Addr) (n1 n2 c1 c2 : Nat) (w : World) (h1 : LG w.heap.size w s1 a1 n1 c1 z1) (h2 : LG w.heap.size w s2 a2 n2 c2 z2)
    (hfit : (digs (z1.natAbs * z2.natAbs)).length ≤ 600) (z : Int) (hz : z = if g then -((z1.natAbs * z2.natAbs : Nat) : Int) else ((z1.natAbs * z2.natAbs : Nat) : Int)) :
    Calls Try.prog 56 #[.agg #[.bool s1, .slice a1 n1 c1], .agg #[.bool s2, .slice a2 n2 c2], .bool g, .func (.func 57) #[] #[]] w
      (RetL w z) := by
  have Hz := Lib.hid hz; clear hz
  have H1 := Lib.hid h1; have H2 := Lib.hid h2; have Hfit := Lib.hid hfit; clear h1 h2 hfit
  have hn1 := H1.out.2.2; have hn2 := H2.out.2.2
  go_enter Try.func56, Try.ntmps56
  go_wp2_with fail
  have hq := below4 w (.cells #[.bool s1, .slice a1 n1 c1] 51) (.cells #[.bool s2, .slice a2 n2 c2] 51) (.cells #[.bool false, .slice none 0 0] 51) (.cells #[.bool s1, .slice a1 n1 c1, .bool s2, .slice a2 n2 c2] 51)
  have hc := cells4 w #[.bool s1, .slice a1 n1 c1] #[.bool s2, .slice a2 n2 c2] #[.bool false, .slice none 0 0] #[.bool s1, .slice a1 n1 c1, .bool s2, .slice a2 n2 c2] 51 51 51 51
  have Hq := Lib.hid hq; have Hc := Lib.hid hc; clear hq hc
  refine (all_two (w.heap.size + 1 + 1 + 1) s1 s2 z1 z2 a1 a2 n1 n2 c1 c2 _ (H1.out.go Hq.out) (H2.out.go Hq.out) (by simp) (Hc.out.2.2.2.1 0) (Hc.out.2.2.2.1 1) (Hc.out.2.2.2.1 2) (Hc.out.2.2.2.1 3)).mono ?_
  rintro e w1 ⟨rfl, hb1⟩
  obtain ⟨j0, j1, j2, j3, j4, j5, j6, j7, hb1', hs1⟩ := kept4_of hb1
  clear hb1
  go_wp2_with fail
  refine (times_any z1.natAbs z2.natAbs a1 a2 n1 n2 c1 c2 _ (H1.out.go hb1').2.1 (H2.out.go hb1').2.1 (by omega) (by omega)).mono ?_
  rintro e w2 ⟨a, n, c, rfl, hsl, hb2, hf2⟩
  have m2 : w.heap.size + 1 + 1 < w1.heap.size := by omega
  have q4 := (hb2.cell (p := ⟨w.heap.size + 1 + 1, 0, none⟩) m2).trans j4
  have q5 := (hb2.cell (p := ⟨w.heap.size + 1 + 1, 1, none⟩) m2).trans j5
  have q6 := (hb2.frozen (p := ⟨w.heap.size + 1 + 1, 0, none⟩) m2).trans j6
  have q7 := (hb2.frozen (p := ⟨w.heap.size + 1 + 1, 1, none⟩) m2).trans j7
  have hs2 := hb2.size
  go_wp2_with fail
  refine (told_ok g (z1.natAbs * z2.natAbs) a n c _ hsl (by rw [hsl.len]; exact Hfit.out)).mono ?_
  rintro e w3 ⟨s3, a3, n3, c3, rfl, hlg, hb3, hf3⟩
  rw [← Hz.out] at hlg
  have m3 : w.heap.size + 1 + 1 < w2.heap.size := by omega
  have q40 := (hb3.cell (p := ⟨w.heap.size + 1 + 1, 0, none⟩) m3).trans q4
  have q50 := (hb3.cell (p := ⟨w.heap.size + 1 + 1, 1, none⟩) m3).trans q5
  have q60 := (hb3.frozen (p := ⟨w.heap.size + 1 + 1, 0, none⟩) m3).trans q6
  have q70 := (hb3.frozen (p := ⟨w.heap.size + 1 + 1, 1, none⟩) m3).trans q7
  go_wp2
  refine bodyPost_ret (v := .tuple #[.agg #[.bool s3, .slice a3 n3 c3], .int .i64 0]) ?_ rfl ?_
  · simp [results, Try.results56, go_sem, q40, q50]
  · exact retL_mk hlg (hb1'.trans ((hb2.trans (hb3.mono hs2)).mono (by omega))) hf3 _ (by omega) (by omega) _ _

theorem heap3_size (w : World) (o p q : Obj) : (((w.alloc o).alloc p).alloc q).heap.size = w.heap.size + 3 := by simp

set_option maxRecDepth 100000 in
set_option maxHeartbeats 1000000 in
theorem mul_any (s1 s2 : Bool) (z1 z2 : Int) (a1 a2 : Option Addr) (n1 n2 c1 c2 : Nat) (w : World) (h1 : LG w.heap.size w s1 a1 n1 c1 z1) (h2 : LG w.heap.size w s2 a2 n2 c2 z2)
    (hfit : (digs (z1 * z2).natAbs).length ≤ 600) :
    Calls Try.prog 33 #[.agg #[.bool s1, .slice a1 n1 c1], .agg #[.bool s2, .slice a2 n2 c2]] w (RetL w (z1 * z2)) := by
  have H1 := Lib.hid h1; have H2 := Lib.hid h2; clear h1 h2
  have hz : (if (s1 != s2) then -((z1.natAbs * z2.natAbs : Nat) : Int) else ((z1.natAbs * z2.natAbs : Nat) : Int)) = z1 * z2 := by
    have e1 := H1.out.1; have e2 := H2.out.1
    have ea : (z1.natAbs : Int) = if z1 < 0 then -z1 else z1 := by split <;> omega
    have eb : (z2.natAbs : Int) = if z2 < 0 then -z2 else z2 := by split <;> omega
    rw [Int.natCast_mul, ea, eb]
    by_cases p1 : z1 < 0 <;> by_cases p2 : z2 < 0 <;> simp [p1, p2] at e1 e2 <;> subst e1 e2 <;> simp [p1, p2, Int.neg_mul, Int.mul_neg]
  have Hz := Lib.hid hz; clear hz
  have hfit' : (digs (z1.natAbs * z2.natAbs)).length ≤ 600 := by rw [← Int.natAbs_mul]; exact hfit
  have Hfit := Lib.hid hfit'; clear hfit hfit'
  go_enter Try.func33, Try.ntmps33
  go_wp2_with fail
  have hq := below3 w (.cells #[.bool s1, .slice a1 n1 c1] 51) (.cells #[.bool s2, .slice a2 n2 c2] 51) (.cells #[.bool false, .slice none 0 0] 51)
  have Hq := Lib.hid hq; clear hq
  refine (both_times s1 s2 (s1 != s2) z1 z2 a1 a2 n1 n2 c1 c2 _ (H1.out.go Hq.out) (H2.out.go Hq.out) Hfit.out _ Hz.out.symm).mono ?_
  rintro e w1 ⟨s3, a3, n3, c3, rfl, hlg, hb1, hf1⟩
  have hc := cells3 w #[.bool s1, .slice a1 n1 c1] #[.bool s2, .slice a2 n2 c2] #[.bool false, .slice none 0 0] 51 51 51
  have q4 := (hb1.cell (p := ⟨w.heap.size + 1 + 1, 0, none⟩) (by simp)).trans ((hc.2.2 0).trans rfl)
  have q5 := (hb1.cell (p := ⟨w.heap.size + 1 + 1, 1, none⟩) (by simp)).trans ((hc.2.2 1).trans rfl)
  have hfz : ∀ i, (((w.alloc (.cells #[.bool s1, .slice a1 n1 c1] 51)).alloc (.cells #[.bool s2, .slice a2 n2 c2] 51)).alloc (.cells #[.bool false, .slice none 0 0] 51)).frozen? ⟨w.heap.size + 1 + 1, i, none⟩ = false := fun i => World.frozen?_alloc_at _ _ _ _ (by simp)
  have q6 := (hb1.frozen (p := ⟨w.heap.size + 1 + 1, 0, none⟩) (by simp)).trans (hfz 0)
  have q7 := (hb1.frozen (p := ⟨w.heap.size + 1 + 1, 1, none⟩) (by simp)).trans (hfz 1)
  clear hc hfz
  have hb1' := Hq.out.trans (hb1.mono (by simp; omega))
  rw [heap3_size] at hf1
  clear hb1
  go_wp2
  refine bodyPost_ret (v := .tuple #[.agg #[.bool s3, .slice a3 n3 c3], .int .i64 0]) ?_ rfl ?_
  · simp [results, Try.results33, go_sem, q4, q5]
  · exact retL_mk hlg hb1' hf1 _ (by omega) (by omega) _ _

end Go.Proofs.Ytkfkdkoohnfgaaa
