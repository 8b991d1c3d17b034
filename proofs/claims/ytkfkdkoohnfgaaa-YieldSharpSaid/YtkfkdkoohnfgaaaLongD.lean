/-
  DERIVED. The walks of package long, fourth part: both at Times, Mul, Add.
-/
import Derived.Test.YtkfkdkoohnfgaaaLongC
import Derived.Deep.DeepMust
namespace Go.Proofs.Ytkfkdkoohnfgaaa
open Go.RowKit

/-- what stands in the three blocks that Add and its kin lay, and in the list of its two arguments -/
theorem cells4 (w : World) (o p q r : Array Value) (t u v x : TypeId) :
    (∀ i, ((((w.alloc (.cells o t)).alloc (.cells p u)).alloc (.cells q v)).alloc (.cells r x)).cell? ⟨w.heap.size, i, none⟩ = o[i]?) ∧
    (∀ i, ((((w.alloc (.cells o t)).alloc (.cells p u)).alloc (.cells q v)).alloc (.cells r x)).cell? ⟨w.heap.size + 1, i, none⟩ = p[i]?) ∧
    (∀ i, ((((w.alloc (.cells o t)).alloc (.cells p u)).alloc (.cells q v)).alloc (.cells r x)).cell? ⟨w.heap.size + 1 + 1, i, none⟩ = q[i]?) ∧
    (∀ i, ((((w.alloc (.cells o t)).alloc (.cells p u)).alloc (.cells q v)).alloc (.cells r x)).cell? ⟨w.heap.size + 1 + 1 + 1, i, none⟩ = r[i]?) ∧
    (∀ i, ((((w.alloc (.cells o t)).alloc (.cells p u)).alloc (.cells q v)).alloc (.cells r x)).frozen? ⟨w.heap.size + 1 + 1, i, none⟩ = false) := by
  obtain ⟨h1, h2, h3⟩ := cells3 w o p q t u v
  refine ⟨fun i => ?_, fun i => ?_, fun i => ?_, fun i => ?_, fun i => ?_⟩
  · rw [World.cell?_alloc_past _ _ _ (by simp; omega)]; exact h1 i
  · rw [World.cell?_alloc_past _ _ _ (by simp)]; exact h2 i
  · rw [World.cell?_alloc_past _ _ _ (by simp)]; exact h3 i
  · rw [World.cell?_alloc_at _ _ _ _ (by simp)]
  · rw [World.frozen?_alloc_past _ _ _ (by simp), World.frozen?_alloc_at _ _ _ _ (by simp)]

set_option maxRecDepth 100000 in
set_option maxHeartbeats 1000000 in
theorem add_same (s : Bool) (z1 z2 : Int) (a1 a2 : Option Addr) (n1 n2 c1 c2 : Nat) (w : World) (h1 : LG w.heap.size w s a1 n1 c1 z1) (h2 : LG w.heap.size w s a2 n2 c2 z2)
    (hfit : (digs (z1 + z2).natAbs).length ≤ 600) :
    Calls Try.prog 32 #[.agg #[.bool s, .slice a1 n1 c1], .agg #[.bool s, .slice a2 n2 c2]] w (RetL w (z1 + z2)) := by
  have H1 := Lib.hid h1; have H2 := Lib.hid h2; have Hfit := Lib.hid hfit; clear h1 h2 hfit
  go_enter Try.func32, Try.ntmps32
  go_wp2_with fail
  have hq := below4 w (.cells #[.bool s, .slice a1 n1 c1] 51) (.cells #[.bool s, .slice a2 n2 c2] 51) (.cells #[.bool false, .slice none 0 0] 51) (.cells #[.bool s, .slice a1 n1 c1, .bool s, .slice a2 n2 c2] 51)
  have hc := cells4 w #[.bool s, .slice a1 n1 c1] #[.bool s, .slice a2 n2 c2] #[.bool false, .slice none 0 0] #[.bool s, .slice a1 n1 c1, .bool s, .slice a2 n2 c2] 51 51 51 51
  have Hq := Lib.hid hq; have Hc := Lib.hid hc; clear hq hc
  refine (all_two (w.heap.size + 1 + 1 + 1) s s z1 z2 a1 a2 n1 n2 c1 c2 _ (H1.out.go Hq.out) (H2.out.go Hq.out) (by simp) (Hc.out.2.2.2.1 0) (Hc.out.2.2.2.1 1) (Hc.out.2.2.2.1 2) (Hc.out.2.2.2.1 3)).mono ?_
  rintro e w1 ⟨rfl, hb1⟩
  have j0 := (hb1.cell (p := ⟨w.heap.size, 0, none⟩) (by simp; omega)).trans (Hc.out.1 0)
  have j1 := (hb1.cell (p := ⟨w.heap.size, 1, none⟩) (by simp; omega)).trans (Hc.out.1 1)
  have j2 := (hb1.cell (p := ⟨w.heap.size + 1, 0, none⟩) (by simp)).trans (Hc.out.2.1 0)
  have j3 := (hb1.cell (p := ⟨w.heap.size + 1, 1, none⟩) (by simp)).trans (Hc.out.2.1 1)
  have j4 := (hb1.cell (p := ⟨w.heap.size + 1 + 1, 0, none⟩) (by simp)).trans (Hc.out.2.2.1 0)
  have j5 := (hb1.cell (p := ⟨w.heap.size + 1 + 1, 1, none⟩) (by simp)).trans (Hc.out.2.2.1 1)
  have j6 := (hb1.frozen (p := ⟨w.heap.size + 1 + 1, 0, none⟩) (by simp)).trans (Hc.out.2.2.2.2 0)
  have j7 := (hb1.frozen (p := ⟨w.heap.size + 1 + 1, 1, none⟩) (by simp)).trans (Hc.out.2.2.2.2 1)
  simp at j0 j1 j2 j3 j4 j5
  have hb1' := Hq.out.trans (hb1.mono (by simp; omega))
  have hs1 := hb1.size
  simp at hs1
  go_wp2_with fail
  go_quiet (fail)
  have hn1 := H1.out.2.2; have hn2 := H2.out.2.2
  have g1 := (H1.out.go hb1').2.1
  have g2 := (H2.out.go hb1').2.1
  go_wp2_with fail
  have m1 : w.heap.size < w1.heap.size := by omega
  have m2 : w.heap.size + 1 + 1 < w1.heap.size := by omega
  have hz12 : z1.natAbs + z2.natAbs = (z1 + z2).natAbs := by
    have e1 := H1.out.1; have e2 := H2.out.1
    cases s <;> simp at e1 e2 <;> omega
  have hfit2 : (digs (z1.natAbs + z2.natAbs)).length ≤ 600 := by rw [hz12]; exact Hfit.out
  have hzs : (if s then -((z1.natAbs + z2.natAbs : Nat) : Int) else ((z1.natAbs + z2.natAbs : Nat) : Int)) = z1 + z2 := by
    have e1 := H1.out.1; have e2 := H2.out.1
    cases s <;> simp at e1 e2 ⊢ <;> omega
  have Hfit2 := Lib.hid hfit2; have Hzs := Lib.hid hzs; clear hfit2 hz12 hzs
  go_region_with (first
    | (go_at_call 53; refine (plus_any z1.natAbs z2.natAbs a1 a2 n1 n2 c1 c2 _ (by exact g1) (by exact g2) (by omega) (by omega)).mono ?_; rintro e w2 ⟨a, n, c, rfl, hsl, hb2, hf⟩; have hb2' : Below w1.heap.size w1 w2 := below_undrew hb2; have q0 := (hb2'.cell (p := ⟨w.heap.size, 0, none⟩) m1).trans j0; have q4 := (hb2'.cell (p := ⟨w.heap.size + 1 + 1, 0, none⟩) m2).trans j4; have q5 := (hb2'.cell (p := ⟨w.heap.size + 1 + 1, 1, none⟩) m2).trans j5; have q6 := (hb2'.frozen (p := ⟨w.heap.size + 1 + 1, 0, none⟩) m2).trans j6; have q7 := (hb2'.frozen (p := ⟨w.heap.size + 1 + 1, 1, none⟩) m2).trans j7; have hs2 := hb2'.size; have m3 : w.heap.size + 1 + 1 < w2.heap.size := (by omega); clear hb2 hf)
    | (go_at_call 52; go_must (refine (told_ok s (z1.natAbs + z2.natAbs) a n c _ (by exact hsl) (by rw [hsl.len]; exact Hfit2.out)).mono ?_; rintro e w3 ⟨s3, a3, n3, c3, rfl, hlg, hb3, hf3⟩; have hb3' : Below w2.heap.size w2 w3 := (by first | exact hb3 | exact below_undrew hb3); have q40 := (hb3'.cell (p := ⟨w.heap.size + 1 + 1, 0, none⟩) m3).trans q4; have q50 := (hb3'.cell (p := ⟨w.heap.size + 1 + 1, 1, none⟩) m3).trans q5; have q60 := (hb3'.frozen (p := ⟨w.heap.size + 1 + 1, 0, none⟩) m3).trans q6; have q70 := (hb3'.frozen (p := ⟨w.heap.size + 1 + 1, 1, none⟩) m3).trans q7; clear hb3)))
  all_goals
    rw [Hzs.out] at hlg
    go_wp2
    refine bodyPost_ret (v := .tuple #[.agg #[.bool s3, .slice a3 n3 c3], .int .i64 0]) ?_ rfl ?_
    · simp [results, Try.results32, go_sem, q40, q50]
    · exact retL_mk hlg (hb1'.trans ((hb2'.trans (hb3'.mono hs2)).mono (by omega))) hf3 _ (by omega) (by omega) _ _
end Go.Proofs.Ytkfkdkoohnfgaaa
