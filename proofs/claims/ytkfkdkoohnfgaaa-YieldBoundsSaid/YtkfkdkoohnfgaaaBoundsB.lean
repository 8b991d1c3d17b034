/-
  DERIVED. The walk of YieldBounds.
-/
import Derived.Test.YtkfkdkoohnfgaaaRefP
import Derived.Test.YtkfkdkoohnfgaaaLawA
import Derived.BigRegion
namespace Go.Proofs.Ytkfkdkoohnfgaaa
open Go.RowKit

/-- both give the same three numbers back -/
theorem both_bounds (n k d : Int) : ∃ x y e : Int, (∀ w : World, Calls Try.prog 7 #[.int .i64 n, .int .i64 k, .int .i64 d] w (Ret3 w (.int .i64 x) (.int .i64 y) (.int .i64 e))) ∧
    ∀ w : World, Calls Try.prog 8 #[.int .i64 n, .int .i64 k, .int .i64 d] w (Ret3 w (.int .i64 x) (.int .i64 y) (.int .i64 e)) := by
  by_cases h : n < 1 ∨ 200 < n ∨ k < 0 ∨ n < k ∨ d < 1 ∨ 999999 < d
  · exact ⟨0, 0, 2, fun w => bound_no n k d w h, fun w => refBound_no n k d w h⟩
  · obtain ⟨N, rfl⟩ : ∃ N : Nat, n = (N : Int) := ⟨n.toNat, by omega⟩
    obtain ⟨K, rfl⟩ : ∃ K : Nat, k = (K : Int) := ⟨k.toNat, by omega⟩
    exact ⟨lowOf N K d, highOf N K d, 0, fun w => bound_ok N K d w (by omega) (by omega) (by omega) (by omega) (by omega), fun w => refBound_ok N K d w (by omega) (by omega) (by omega) (by omega) (by omega)⟩

theorem cells_three (w : World) (x y z : Value) (t : TypeId) : (w.alloc (.cells #[x, y, z] t)).heap[w.heap.size]? = some (.cells #[x, y, z] t (0, 0)) := heap_alloc_new w _

theorem obj_three {w : World} {b : Nat} {x y z : Value} {t : TypeId} (h : w.heap[b]? = some (.cells #[x, y, z] t (0, 0))) :
    w.cell? ⟨b, 0, none⟩ = some x ∧ w.cell? ⟨b, 1, none⟩ = some y ∧ w.cell? ⟨b, 2, none⟩ = some z ∧ w.frozen? ⟨b, 0, none⟩ = false := by
  refine ⟨?_, ?_, ?_, ?_⟩ <;> simp [World.cell?, World.frozen?, h]


theorem upon_value {P : Program} {o : Oper} {a : Act} {K : Act → World → Prop} {Q : Exit → Act → World → Prop} {v : Value} {w : World} (h : K (a.put o.dst v) w) : Oper.upon P o a K Q (.ok (.value v) w) := h
theorem index_triple0 (x0 x1 x2 x3 x4 x5 x6 x7 x8 x9 x10 x11 : Value) (w : World) : ((Sem.run Try.prog (Instr.index 25 (Value.agg #[x0, x1, x2, x3, x4, x5, x6, x7, x8, x9, x10, x11]) (Value.int IntKind.i64 0)) w).andThen fun a w' => Result.ok (Next.value a) w') = Result.ok (Next.value (Value.agg #[x0, x1, x2])) w := by kernel_rfl
theorem index_triple1 (x0 x1 x2 x3 x4 x5 x6 x7 x8 x9 x10 x11 : Value) (w : World) : ((Sem.run Try.prog (Instr.index 25 (Value.agg #[x0, x1, x2, x3, x4, x5, x6, x7, x8, x9, x10, x11]) (Value.int IntKind.i64 1)) w).andThen fun a w' => Result.ok (Next.value a) w') = Result.ok (Next.value (Value.agg #[x3, x4, x5])) w := by kernel_rfl
theorem index_triple2 (x0 x1 x2 x3 x4 x5 x6 x7 x8 x9 x10 x11 : Value) (w : World) : ((Sem.run Try.prog (Instr.index 25 (Value.agg #[x0, x1, x2, x3, x4, x5, x6, x7, x8, x9, x10, x11]) (Value.int IntKind.i64 2)) w).andThen fun a w' => Result.ok (Next.value a) w') = Result.ok (Next.value (Value.agg #[x6, x7, x8])) w := by kernel_rfl
theorem index_triple3 (x0 x1 x2 x3 x4 x5 x6 x7 x8 x9 x10 x11 : Value) (w : World) : ((Sem.run Try.prog (Instr.index 25 (Value.agg #[x0, x1, x2, x3, x4, x5, x6, x7, x8, x9, x10, x11]) (Value.int IntKind.i64 3)) w).andThen fun a w' => Result.ok (Next.value a) w') = Result.ok (Next.value (Value.agg #[x9, x10, x11])) w := by kernel_rfl

set_option maxRecDepth 100000 in
set_option maxHeartbeats 1600000 in
theorem bounds_walk (n k d r0 r1 r2 : Int) (w : World) (hn0 : 0 ≤ n) (hn1 : n ≤ 255) (hk0 : 0 ≤ k) (hk1 : k ≤ 255) (hd0 : 0 ≤ d) :
    Calls Try.prog 3 #[.int .u8 n, .int .u8 k, .int .u32 d, .agg #[.int .i64 r0, .int .i64 r1, .int .i64 r2]] w (RetB w (.bool true)) := by
  obtain ⟨M, hM, hM1, hM2⟩ : ∃ M : Nat, 1 + n % 24 = (M : Int) ∧ 1 ≤ M ∧ M ≤ 24 := ⟨(1 + n % 24).toNat, by omega, by omega, by omega⟩
  have hk2 : IntKind.i64.wrap k = k := IntWalk.i64_in _ (by omega)
  have hM3 : ¬ (M : Int) + 1 = 0 := by omega
  have hM4 : IntKind.i64.wrap ((M : Int) + 1) = (M : Int) + 1 := IntWalk.i64_in _ (by omega)
  obtain ⟨F, hF, hF0, hF1⟩ : ∃ F : Int, k.tmod ((M : Int) + 1) = F ∧ 0 ≤ F ∧ F ≤ M := ⟨_, rfl, Int.tmod_nonneg _ hk0, by
    have := Int.tmod_lt_of_pos k (show (0 : Int) < (M : Int) + 1 by omega)
    omega⟩
  have hF2 : IntKind.i64.wrap F = F := IntWalk.i64_in _ (by omega)
  obtain ⟨p, hp0, hp1, hp2⟩ : ∃ p : Int, d.tmod 999999 = p ∧ 0 ≤ p ∧ p < 999999 := ⟨_, rfl, Int.tmod_nonneg _ hd0, Int.tmod_lt_of_pos _ (by decide)⟩
  have hp3 : IntKind.i64.wrap p = p := IntWalk.i64_in _ (by omega)
  have hp4 : IntKind.i64.wrap (1 + p) = 1 + p := IntWalk.i64_in _ (by omega)
  have e0 := cells_three w (.int .i64 r0) (.int .i64 r1) (.int .i64 r2) 23
  have E0 := Lib.hid e0; clear e0
  go_enter Try.func3, Try.ntmps3
  go_wp2_with fail
  refine (works_true _).mono ?_
  rintro e w1 ⟨rfl, hb1⟩
  have e1 := (hb1.block w.heap.size (by simp)).trans E0.out
  obtain ⟨c0, c1, c2, f0⟩ := obj_three e1
  have hw1 := below_alloc hb1
  have E1 := Lib.hid e1; have Hw1 := Lib.hid hw1
  clear hb1 e1 hw1
  by_cases hr : 24 < r0
  · by_cases hs : r0 ≤ 200
    · go_wp2_with fail
      have hx : ∃ R : Int, (w1.setCell ⟨w.heap.size, 0, none⟩ (.int .i64 201)).heap[w.heap.size]? = some (.cells #[.int .i64 R, .int .i64 r1, .int .i64 r2] 23 (0, 0)) := ⟨201, by rw [obj_setCell E1.out 0 (.int .i64 201)]; rfl⟩
      have hw2 : Below w.heap.size w (w1.setCell ⟨w.heap.size, 0, none⟩ (.int .i64 201)) := Hw1.out.setCell (Nat.le_refl _) _
      generalize w1.setCell ⟨w.heap.size, 0, none⟩ (.int .i64 201) = w2 at *
      obtain ⟨R, e2⟩ := hx
      clear c0 c1 c2 f0 E1 Hw1
      obtain ⟨c0, c1, c2, _⟩ := obj_three e2
      clear e2
      go_quiet (fail)
      clear c0 c1 c2
      go_wp2_with fail
      go_loopw [61] (fun iv wr => ∃ i : Nat, i ≤ 4 ∧ iv = .int .i64 (i : Int) ∧ Below w.heap.size w wr) (fun iv _ => 4 - (intOf iv).toNat)
      case atStart => exact ⟨0, by omega, rfl, below_drewN hw2 _⟩
      case round =>
        obtain ⟨i, hi, rfl, hwr⟩ := hrel
        clear hw2
        have hi5 : i = 0 ∨ i = 1 ∨ i = 2 ∨ i = 3 ∨ i = 4 := by omega
        rcases hi5 with rfl | rfl | rfl | rfl | rfl
        · obtain ⟨x, y, en, hA, hB⟩ := both_bounds (M : Int) F (1 + p)
          have HA := Lib.hid hA; have HB := Lib.hid hB; clear hA hB
          have e5 := cells_three wr (.int .i64 (M : Int)) (.int .i64 F) (.int .i64 (1 + p)) 23
          obtain ⟨d0, d1, d2, _⟩ := obj_three e5
          have E5 := Lib.hid e5
          clear e5
          go_wp2_with fail
          rw [index_triple0]
          refine upon_value ?_
          simp only [Act.put, List.setIfInBounds_toArray, List.set_cons_zero, List.set_cons_succ]
          go_wp2_with fail
          refine (HA.out _).mono ?_
          rintro e w3 ⟨rfl, hb3⟩
          clear d0 d1 d2
          obtain ⟨d0, d1, d2, _⟩ := obj_three ((hb3.block wr.heap.size (by simp)).trans E5.out)
          go_wp2_with fail
          refine (HB.out _).mono ?_
          rintro e w4 ⟨rfl, hb4⟩
          have hb34 := below_alloc (hb3.trans (hb4.mono hb3.size))
          have hw4 := hwr.trans (hb34.mono hwr.size)
          clear d0 d1 d2 hb3 hb4 hb34
          go_wp2
          go_roundw
          case rel => exact ⟨1, by omega, rfl, hw4⟩
          case measure => simp [intOf]
        · obtain ⟨x, y, en, hA, hB⟩ := both_bounds R r1 r2
          have HA := Lib.hid hA; have HB := Lib.hid hB; clear hA hB
          have e5 := cells_three wr (.int .i64 R) (.int .i64 r1) (.int .i64 r2) 23
          obtain ⟨d0, d1, d2, _⟩ := obj_three e5
          have E5 := Lib.hid e5
          clear e5
          go_wp2_with fail
          rw [index_triple1]
          refine upon_value ?_
          simp only [Act.put, List.setIfInBounds_toArray, List.set_cons_zero, List.set_cons_succ]
          go_wp2_with fail
          refine (HA.out _).mono ?_
          rintro e w3 ⟨rfl, hb3⟩
          clear d0 d1 d2
          obtain ⟨d0, d1, d2, _⟩ := obj_three ((hb3.block wr.heap.size (by simp)).trans E5.out)
          go_wp2_with fail
          refine (HB.out _).mono ?_
          rintro e w4 ⟨rfl, hb4⟩
          have hb34 := below_alloc (hb3.trans (hb4.mono hb3.size))
          have hw4 := hwr.trans (hb34.mono hwr.size)
          clear d0 d1 d2 hb3 hb4 hb34
          go_wp2
          go_roundw
          case rel => exact ⟨2, by omega, rfl, hw4⟩
          case measure => simp [intOf]
        · obtain ⟨x, y, en, hA, hB⟩ := both_bounds (M : Int) r1 r2
          have HA := Lib.hid hA; have HB := Lib.hid hB; clear hA hB
          have e5 := cells_three wr (.int .i64 (M : Int)) (.int .i64 r1) (.int .i64 r2) 23
          obtain ⟨d0, d1, d2, _⟩ := obj_three e5
          have E5 := Lib.hid e5
          clear e5
          go_wp2_with fail
          rw [index_triple2]
          refine upon_value ?_
          simp only [Act.put, List.setIfInBounds_toArray, List.set_cons_zero, List.set_cons_succ]
          go_wp2_with fail
          refine (HA.out _).mono ?_
          rintro e w3 ⟨rfl, hb3⟩
          clear d0 d1 d2
          obtain ⟨d0, d1, d2, _⟩ := obj_three ((hb3.block wr.heap.size (by simp)).trans E5.out)
          go_wp2_with fail
          refine (HB.out _).mono ?_
          rintro e w4 ⟨rfl, hb4⟩
          have hb34 := below_alloc (hb3.trans (hb4.mono hb3.size))
          have hw4 := hwr.trans (hb34.mono hwr.size)
          clear d0 d1 d2 hb3 hb4 hb34
          go_wp2
          go_roundw
          case rel => exact ⟨3, by omega, rfl, hw4⟩
          case measure => simp [intOf]
        · obtain ⟨x, y, en, hA, hB⟩ := both_bounds (M : Int) F r2
          have HA := Lib.hid hA; have HB := Lib.hid hB; clear hA hB
          have e5 := cells_three wr (.int .i64 (M : Int)) (.int .i64 F) (.int .i64 r2) 23
          obtain ⟨d0, d1, d2, _⟩ := obj_three e5
          have E5 := Lib.hid e5
          clear e5
          go_wp2_with fail
          rw [index_triple3]
          refine upon_value ?_
          simp only [Act.put, List.setIfInBounds_toArray, List.set_cons_zero, List.set_cons_succ]
          go_wp2_with fail
          refine (HA.out _).mono ?_
          rintro e w3 ⟨rfl, hb3⟩
          clear d0 d1 d2
          obtain ⟨d0, d1, d2, _⟩ := obj_three ((hb3.block wr.heap.size (by simp)).trans E5.out)
          go_wp2_with fail
          refine (HB.out _).mono ?_
          rintro e w4 ⟨rfl, hb4⟩
          have hb34 := below_alloc (hb3.trans (hb4.mono hb3.size))
          have hw4 := hwr.trans (hb34.mono hwr.size)
          clear d0 d1 d2 hb3 hb4 hb34
          go_wp2
          go_roundw
          case rel => exact ⟨4, by omega, rfl, hw4⟩
          case measure => simp [intOf]
        · go_wp2
          go_ret
          exact ⟨rfl, hwr⟩
    · go_wp2_with fail
      have hx : ∃ R : Int, w1.heap[w.heap.size]? = some (.cells #[.int .i64 R, .int .i64 r1, .int .i64 r2] 23 (0, 0)) := ⟨r0, E1.out⟩
      have hw2 : Below w.heap.size w w1 := Hw1.out
      generalize w1 = w2 at *
      obtain ⟨R, e2⟩ := hx
      clear c0 c1 c2 f0 E1 Hw1
      obtain ⟨c0, c1, c2, _⟩ := obj_three e2
      clear e2
      go_quiet (fail)
      clear c0 c1 c2
      go_wp2_with fail
      go_loopw [61] (fun iv wr => ∃ i : Nat, i ≤ 4 ∧ iv = .int .i64 (i : Int) ∧ Below w.heap.size w wr) (fun iv _ => 4 - (intOf iv).toNat)
      case atStart => exact ⟨0, by omega, rfl, below_drewN hw2 _⟩
      case round =>
        obtain ⟨i, hi, rfl, hwr⟩ := hrel
        clear hw2
        have hi5 : i = 0 ∨ i = 1 ∨ i = 2 ∨ i = 3 ∨ i = 4 := by omega
        rcases hi5 with rfl | rfl | rfl | rfl | rfl
        · obtain ⟨x, y, en, hA, hB⟩ := both_bounds (M : Int) F (1 + p)
          have HA := Lib.hid hA; have HB := Lib.hid hB; clear hA hB
          have e5 := cells_three wr (.int .i64 (M : Int)) (.int .i64 F) (.int .i64 (1 + p)) 23
          obtain ⟨d0, d1, d2, _⟩ := obj_three e5
          have E5 := Lib.hid e5
          clear e5
          go_wp2_with fail
          rw [index_triple0]
          refine upon_value ?_
          simp only [Act.put, List.setIfInBounds_toArray, List.set_cons_zero, List.set_cons_succ]
          go_wp2_with fail
          refine (HA.out _).mono ?_
          rintro e w3 ⟨rfl, hb3⟩
          clear d0 d1 d2
          obtain ⟨d0, d1, d2, _⟩ := obj_three ((hb3.block wr.heap.size (by simp)).trans E5.out)
          go_wp2_with fail
          refine (HB.out _).mono ?_
          rintro e w4 ⟨rfl, hb4⟩
          have hb34 := below_alloc (hb3.trans (hb4.mono hb3.size))
          have hw4 := hwr.trans (hb34.mono hwr.size)
          clear d0 d1 d2 hb3 hb4 hb34
          go_wp2
          go_roundw
          case rel => exact ⟨1, by omega, rfl, hw4⟩
          case measure => simp [intOf]
        · obtain ⟨x, y, en, hA, hB⟩ := both_bounds R r1 r2
          have HA := Lib.hid hA; have HB := Lib.hid hB; clear hA hB
          have e5 := cells_three wr (.int .i64 R) (.int .i64 r1) (.int .i64 r2) 23
          obtain ⟨d0, d1, d2, _⟩ := obj_three e5
          have E5 := Lib.hid e5
          clear e5
          go_wp2_with fail
          rw [index_triple1]
          refine upon_value ?_
          simp only [Act.put, List.setIfInBounds_toArray, List.set_cons_zero, List.set_cons_succ]
          go_wp2_with fail
          refine (HA.out _).mono ?_
          rintro e w3 ⟨rfl, hb3⟩
          clear d0 d1 d2
          obtain ⟨d0, d1, d2, _⟩ := obj_three ((hb3.block wr.heap.size (by simp)).trans E5.out)
          go_wp2_with fail
          refine (HB.out _).mono ?_
          rintro e w4 ⟨rfl, hb4⟩
          have hb34 := below_alloc (hb3.trans (hb4.mono hb3.size))
          have hw4 := hwr.trans (hb34.mono hwr.size)
          clear d0 d1 d2 hb3 hb4 hb34
          go_wp2
          go_roundw
          case rel => exact ⟨2, by omega, rfl, hw4⟩
          case measure => simp [intOf]
        · obtain ⟨x, y, en, hA, hB⟩ := both_bounds (M : Int) r1 r2
          have HA := Lib.hid hA; have HB := Lib.hid hB; clear hA hB
          have e5 := cells_three wr (.int .i64 (M : Int)) (.int .i64 r1) (.int .i64 r2) 23
          obtain ⟨d0, d1, d2, _⟩ := obj_three e5
          have E5 := Lib.hid e5
          clear e5
          go_wp2_with fail
          rw [index_triple2]
          refine upon_value ?_
          simp only [Act.put, List.setIfInBounds_toArray, List.set_cons_zero, List.set_cons_succ]
          go_wp2_with fail
          refine (HA.out _).mono ?_
          rintro e w3 ⟨rfl, hb3⟩
          clear d0 d1 d2
          obtain ⟨d0, d1, d2, _⟩ := obj_three ((hb3.block wr.heap.size (by simp)).trans E5.out)
          go_wp2_with fail
          refine (HB.out _).mono ?_
          rintro e w4 ⟨rfl, hb4⟩
          have hb34 := below_alloc (hb3.trans (hb4.mono hb3.size))
          have hw4 := hwr.trans (hb34.mono hwr.size)
          clear d0 d1 d2 hb3 hb4 hb34
          go_wp2
          go_roundw
          case rel => exact ⟨3, by omega, rfl, hw4⟩
          case measure => simp [intOf]
        · obtain ⟨x, y, en, hA, hB⟩ := both_bounds (M : Int) F r2
          have HA := Lib.hid hA; have HB := Lib.hid hB; clear hA hB
          have e5 := cells_three wr (.int .i64 (M : Int)) (.int .i64 F) (.int .i64 r2) 23
          obtain ⟨d0, d1, d2, _⟩ := obj_three e5
          have E5 := Lib.hid e5
          clear e5
          go_wp2_with fail
          rw [index_triple3]
          refine upon_value ?_
          simp only [Act.put, List.setIfInBounds_toArray, List.set_cons_zero, List.set_cons_succ]
          go_wp2_with fail
          refine (HA.out _).mono ?_
          rintro e w3 ⟨rfl, hb3⟩
          clear d0 d1 d2
          obtain ⟨d0, d1, d2, _⟩ := obj_three ((hb3.block wr.heap.size (by simp)).trans E5.out)
          go_wp2_with fail
          refine (HB.out _).mono ?_
          rintro e w4 ⟨rfl, hb4⟩
          have hb34 := below_alloc (hb3.trans (hb4.mono hb3.size))
          have hw4 := hwr.trans (hb34.mono hwr.size)
          clear d0 d1 d2 hb3 hb4 hb34
          go_wp2
          go_roundw
          case rel => exact ⟨4, by omega, rfl, hw4⟩
          case measure => simp [intOf]
        · go_wp2
          go_ret
          exact ⟨rfl, hwr⟩
  · go_wp2_with fail
    have hx : ∃ R : Int, w1.heap[w.heap.size]? = some (.cells #[.int .i64 R, .int .i64 r1, .int .i64 r2] 23 (0, 0)) := ⟨r0, E1.out⟩
    have hw2 : Below w.heap.size w w1 := Hw1.out
    generalize w1 = w2 at *
    obtain ⟨R, e2⟩ := hx
    clear c0 c1 c2 f0 E1 Hw1
    obtain ⟨c0, c1, c2, _⟩ := obj_three e2
    clear e2
    go_quiet (fail)
    clear c0 c1 c2
    go_wp2_with fail
    go_loopw [61] (fun iv wr => ∃ i : Nat, i ≤ 4 ∧ iv = .int .i64 (i : Int) ∧ Below w.heap.size w wr) (fun iv _ => 4 - (intOf iv).toNat)
    case atStart => exact ⟨0, by omega, rfl, below_drewN hw2 _⟩
    case round =>
      obtain ⟨i, hi, rfl, hwr⟩ := hrel
      clear hw2
      have hi5 : i = 0 ∨ i = 1 ∨ i = 2 ∨ i = 3 ∨ i = 4 := by omega
      rcases hi5 with rfl | rfl | rfl | rfl | rfl
      · obtain ⟨x, y, en, hA, hB⟩ := both_bounds (M : Int) F (1 + p)
        have HA := Lib.hid hA; have HB := Lib.hid hB; clear hA hB
        have e5 := cells_three wr (.int .i64 (M : Int)) (.int .i64 F) (.int .i64 (1 + p)) 23
        obtain ⟨d0, d1, d2, _⟩ := obj_three e5
        have E5 := Lib.hid e5
        clear e5
        go_wp2_with fail
        rw [index_triple0]
        refine upon_value ?_
        simp only [Act.put, List.setIfInBounds_toArray, List.set_cons_zero, List.set_cons_succ]
        go_wp2_with fail
        refine (HA.out _).mono ?_
        rintro e w3 ⟨rfl, hb3⟩
        clear d0 d1 d2
        obtain ⟨d0, d1, d2, _⟩ := obj_three ((hb3.block wr.heap.size (by simp)).trans E5.out)
        go_wp2_with fail
        refine (HB.out _).mono ?_
        rintro e w4 ⟨rfl, hb4⟩
        have hb34 := below_alloc (hb3.trans (hb4.mono hb3.size))
        have hw4 := hwr.trans (hb34.mono hwr.size)
        clear d0 d1 d2 hb3 hb4 hb34
        go_wp2
        go_roundw
        case rel => exact ⟨1, by omega, rfl, hw4⟩
        case measure => simp [intOf]
      · obtain ⟨x, y, en, hA, hB⟩ := both_bounds R r1 r2
        have HA := Lib.hid hA; have HB := Lib.hid hB; clear hA hB
        have e5 := cells_three wr (.int .i64 R) (.int .i64 r1) (.int .i64 r2) 23
        obtain ⟨d0, d1, d2, _⟩ := obj_three e5
        have E5 := Lib.hid e5
        clear e5
        go_wp2_with fail
        rw [index_triple1]
        refine upon_value ?_
        simp only [Act.put, List.setIfInBounds_toArray, List.set_cons_zero, List.set_cons_succ]
        go_wp2_with fail
        refine (HA.out _).mono ?_
        rintro e w3 ⟨rfl, hb3⟩
        clear d0 d1 d2
        obtain ⟨d0, d1, d2, _⟩ := obj_three ((hb3.block wr.heap.size (by simp)).trans E5.out)
        go_wp2_with fail
        refine (HB.out _).mono ?_
        rintro e w4 ⟨rfl, hb4⟩
        have hb34 := below_alloc (hb3.trans (hb4.mono hb3.size))
        have hw4 := hwr.trans (hb34.mono hwr.size)
        clear d0 d1 d2 hb3 hb4 hb34
        go_wp2
        go_roundw
        case rel => exact ⟨2, by omega, rfl, hw4⟩
        case measure => simp [intOf]
      · obtain ⟨x, y, en, hA, hB⟩ := both_bounds (M : Int) r1 r2
        have HA := Lib.hid hA; have HB := Lib.hid hB; clear hA hB
        have e5 := cells_three wr (.int .i64 (M : Int)) (.int .i64 r1) (.int .i64 r2) 23
        obtain ⟨d0, d1, d2, _⟩ := obj_three e5
        have E5 := Lib.hid e5
        clear e5
        go_wp2_with fail
        rw [index_triple2]
        refine upon_value ?_
        simp only [Act.put, List.setIfInBounds_toArray, List.set_cons_zero, List.set_cons_succ]
        go_wp2_with fail
        refine (HA.out _).mono ?_
        rintro e w3 ⟨rfl, hb3⟩
        clear d0 d1 d2
        obtain ⟨d0, d1, d2, _⟩ := obj_three ((hb3.block wr.heap.size (by simp)).trans E5.out)
        go_wp2_with fail
        refine (HB.out _).mono ?_
        rintro e w4 ⟨rfl, hb4⟩
        have hb34 := below_alloc (hb3.trans (hb4.mono hb3.size))
        have hw4 := hwr.trans (hb34.mono hwr.size)
        clear d0 d1 d2 hb3 hb4 hb34
        go_wp2
        go_roundw
        case rel => exact ⟨3, by omega, rfl, hw4⟩
        case measure => simp [intOf]
      · obtain ⟨x, y, en, hA, hB⟩ := both_bounds (M : Int) F r2
        have HA := Lib.hid hA; have HB := Lib.hid hB; clear hA hB
        have e5 := cells_three wr (.int .i64 (M : Int)) (.int .i64 F) (.int .i64 r2) 23
        obtain ⟨d0, d1, d2, _⟩ := obj_three e5
        have E5 := Lib.hid e5
        clear e5
        go_wp2_with fail
        rw [index_triple3]
        refine upon_value ?_
        simp only [Act.put, List.setIfInBounds_toArray, List.set_cons_zero, List.set_cons_succ]
        go_wp2_with fail
        refine (HA.out _).mono ?_
        rintro e w3 ⟨rfl, hb3⟩
        clear d0 d1 d2
        obtain ⟨d0, d1, d2, _⟩ := obj_three ((hb3.block wr.heap.size (by simp)).trans E5.out)
        go_wp2_with fail
        refine (HB.out _).mono ?_
        rintro e w4 ⟨rfl, hb4⟩
        have hb34 := below_alloc (hb3.trans (hb4.mono hb3.size))
        have hw4 := hwr.trans (hb34.mono hwr.size)
        clear d0 d1 d2 hb3 hb4 hb34
        go_wp2
        go_roundw
        case rel => exact ⟨4, by omega, rfl, hw4⟩
        case measure => simp [intOf]
      · go_wp2
        go_ret
        exact ⟨rfl, hwr⟩

end Go.Proofs.Ytkfkdkoohnfgaaa
