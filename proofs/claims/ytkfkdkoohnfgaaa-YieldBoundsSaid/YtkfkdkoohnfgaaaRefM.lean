/-
  DERIVED. The walks of the reference's bounds of a yield, second part: power.
-/
import Derived.Test.YtkfkdkoohnfgaaaRefL
import Derived.Test.YtkfkdkoohnfgaaaFloats
namespace Go.Proofs.Ytkfkdkoohnfgaaa
open Go.RowKit

/-- block g holds the long integer z, whose digits lie neither there nor in B -/
def VarL (B : Nat) (w : World) (g : Nat) (z : Int) : Prop :=
  ∃ s p q c, w.heap[g]? = some (.cells #[.bool s, .slice p q c] 51 (0, 0)) ∧ LG w.heap.size w s p q c z ∧ Out g (g + 1) p q ∧ Fresh (B + 1) p q

theorem VarL.below {B : Nat} {w w' : World} {g : Nat} {z : Int} (h : VarL B w g z) (hb : Below w.heap.size w w') : VarL B w' g z := by
  obtain ⟨s, p, q, c, h1, h2, h3, h4⟩ := h
  exact ⟨s, p, q, c, (hb.block g (lt_of_block h1)).trans h1, h2.go hb, h3, h4⟩

/-- a value of a call is stored -/
theorem VarL.store {B : Nat} {w : World} {g : Nat} {z : Int} {s : Bool} {p : Option Addr} {q c : Nat} {u v : Value} (h0 : w.heap[g]? = some (.cells #[u, v] 51 (0, 0))) (h : LG w.heap.size w s p q c z) (ho : Out g (g + 1) p q) (hf : Fresh (B + 1) p q) :
    VarL B ((w.setCell ⟨g, 0, none⟩ (.bool s)).setCell ⟨g, 1, none⟩ (.slice p q c)) g z := by
  refine ⟨s, p, q, c, ?_, lg_stored h ho (Nat.le_refl _) (by omega) _ _, ho, hf⟩
  rw [obj_setCell (w := w.setCell ⟨g, 0, none⟩ (.bool s)) (by exact obj_setCell h0 0 (.bool s)) 1 (.slice p q c)]
  rfl

set_option maxRecDepth 100000 in
set_option maxHeartbeats 800000 in
theorem power_any (a n : Nat) (w : World) (ha : (a : Int) ≤ 9223372036854775807) (hn : n ≤ 1000000) (hfit : ∀ i, i ≤ n → (digs (a ^ i)).length ≤ 600) :
    Calls Try.prog 40 #[.int .i64 (a : Int), .int .i64 (n : Int)] w (RetL1 w ((a ^ n : Nat) : Int)) := by
  have Hfit := Lib.hid hfit; clear hfit
  go_enter Try.func40, Try.ntmps40
  go_wp2_with fail
  refine (refOf_any 1 _ (by omega)).mono ?_
  rintro e w1 ⟨s1, a1, n1, c1, rfl, hl1, hb1, hf1⟩
  have hk := kept_new hb1
  have hw1 := below_alloc hb1
  have e1 := (hb1.block w.heap.size (by simp)).trans (heap_alloc_new w (.cells #[.bool false, .slice none 0 0] 51))
  have hf1' : Fresh (w.heap.size + 1) a1 n1 := by simpa using hf1
  have hs1 := hb1.size
  simp at hs1
  have hv0 : VarL w.heap.size (w1.alloc (.cells #[.bool s1, .slice a1 n1 c1] 51)) w1.heap.size ((a ^ 0 : Nat) : Int) :=
    ⟨s1, a1, n1, c1, heap_alloc_new w1 _, by simpa using hl1.go ((Below.refl _ _).alloc (Nat.le_refl _) _), Out.ofLG hl1, hf1'⟩
  have hw2 : Below w.heap.size w (w1.alloc (.cells #[.bool s1, .slice a1 n1 c1] 51)) := hw1.alloc hw1.size _
  have e2 := (Below.heap_alloc w1 (.cells #[.bool s1, .slice a1 n1 c1] 51) w.heap.size (by omega)).trans e1
  have Hv0 := Lib.hid hv0; have Hw2 := Lib.hid hw2; have E2 := Lib.hid e2; have Hs1 := Lib.hid hs1
  clear hv0 hw2 e2 e1 hk hw1 hf1 hf1' hl1 hb1 hs1
  go_wp2_with fail
  go_loopw [6] (fun iv wr => ∃ i : Nat, i ≤ n ∧ iv = .int .i64 i ∧ VarL w.heap.size wr w1.heap.size ((a ^ i : Nat) : Int) ∧ wr.heap[w.heap.size]? = some (.cells #[.bool false, .slice none 0 0] 51 (0, 0)) ∧ Below w.heap.size w wr) (fun iv _ => n - (intOf iv).toNat)
  case atStart => exact ⟨0, Nat.zero_le _, rfl, Hv0.out, E2.out, Hw2.out⟩
  case round =>
    obtain ⟨i, hi, rfl, hv, e0, hwr⟩ := hrel
    obtain ⟨s, p, q, c, h1, h2, h3, h4⟩ := hv
    obtain ⟨q1, q2, f1, f2⟩ := cells_at h1
    have H1 := Lib.hid h1; have H2 := Lib.hid h2; have H3 := Lib.hid h3; have H4 := Lib.hid h4; have E0 := Lib.hid e0; have Hwr := Lib.hid hwr
    have hlt := lt_of_block h1
    clear h1 h2 h3 h4 e0 hwr
    by_cases hin : i < n
    · go_wp2_with fail
      refine wp_region_eager 4 [(0, true), (1, true), (2, false), (3, false)] (by kernel_rfl) (by kernel_rfl) ?_
      iterate 2
        refine wpOrd_yield (v := ?_) rfl (fun _ _ _ h => h) (by rfl) ?_ ?_
        rotate_left
        · intro x hx
          have z1 := (hx.cell (p := ⟨w1.heap.size, 0, none⟩) hlt).trans q1
          have z2 := (hx.cell (p := ⟨w1.heap.size, 1, none⟩) hlt).trans q2
          go_simp
          with_reducible rfl
        try simp only [Act.put, List.setIfInBounds_toArray, List.set_cons_zero, List.set_cons_succ]
      refine wpOrd_step rfl rfl (fun KK hKK => ?_)
      go_simp
      refine (refOf_any a _ ha).mono ?_
      rintro e w4 ⟨s4, a4, n4, c4, rfl, hlg4, hb4, hf4⟩
      refine hKK _ _ hb4 ?_
      clear hKK KK
      try simp only [Act.put, List.setIfInBounds_toArray, List.set_cons_zero, List.set_cons_succ]
      have Hb4 := Lib.hid (below_undrew (k := 1) hb4); have Hlg4 := Lib.hid hlg4
      have Hl4 := Lib.hid (H2.out.go (below_undrew (k := 1) hb4))
      clear hb4 hlg4 hf4
      refine wpOrd_step rfl rfl (fun KK hKK => ?_)
      go_simp
      refine (mul39_any s s4 ((a ^ i : Nat) : Int) (a : Int) p a4 q n4 c c4 _ Hl4.out Hlg4.out ?_).mono ?_
      · rw [← Int.natCast_mul, Int.natAbs_natCast, ← Nat.pow_succ]; exact Hfit.out _ (by omega)
      rintro e w5 ⟨s5, a5, n5, c5, rfl, hlg5, hb5, hf5⟩
      refine hKK _ _ hb5 ?_
      clear hKK KK
      try simp only [Act.put, List.setIfInBounds_toArray, List.set_cons_zero, List.set_cons_succ]
      have hb45 : Below wr.heap.size wr w5 := Hb4.out.trans (hb5.mono Hb4.out.size)
      have hs5 := hb45.size
      have h5 := (hb45.block w1.heap.size hlt).trans H1.out
      have h0 := (hb45.block w.heap.size (by have := Hs1.out; omega)).trans E0.out
      have hw5 := Hwr.out.trans (hb45.mono Hwr.out.size)
      have hf5' := hf5.mono Hb4.out.size
      obtain ⟨k1, k2, g1, g2⟩ := cells_at h5
      have H5 := Lib.hid h5; have H0 := Lib.hid h0; have Hw5 := Lib.hid hw5; have Hf5 := Lib.hid hf5'; have Hlg5 := Lib.hid hlg5
      clear q1 q2 f1 f2 hb5 hf5 hlg5 h5 h0 hw5 hf5' hb45 hs5
      refine wpOrd_nil rfl ?_
      go_wp2_with fail
      go_roundw
      case rel =>
        have hs := Hs1.out
        refine ⟨i + 1, by omega, by go_num, ?_, ?_, (Hw5.out.setCell ?_ _).setCell ?_ _⟩
        · rw [Nat.pow_succ, Int.natCast_mul]
          exact VarL.store H5.out Hlg5.out (Out.ofFresh (Hf5.out.mono (by omega))) (Hf5.out.mono (by omega))
        · rw [obj_other (obj_other H0.out _ (by show w1.heap.size ≠ w.heap.size; omega) _) _ (by show w1.heap.size ≠ w.heap.size; omega) _]
        · show w.heap.size ≤ w1.heap.size; omega
        · show w.heap.size ≤ w1.heap.size; omega
      case measure => simp [intOf]; omega
    · obtain rfl : i = n := by omega
      obtain ⟨k1, k2, g1, g2⟩ := cells_at E0.out
      go_wp2_with fail
      refine bodyPost_ret (v := .agg #[.bool s, .slice p q c]) ?_ rfl ?_
      · simp [results, Try.results40, go_sem, k1, k2]
      · exact refL1_mk H2.out Hwr.out H4.out w.heap.size (by omega) (Nat.le_refl _) _ _

end Go.Proofs.Ytkfkdkoohnfgaaa
