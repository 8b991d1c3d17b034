/-
  DERIVED. The walks of package yield, seventh part: refuse, caught, Bound.
-/
import Derived.Test.YtkfkdkoohnfgaaaYieldF
import Derived.Defers
import Derived.Recover
namespace Go.Proofs.Ytkfkdkoohnfgaaa
open Go.RowKit

set_option maxHeartbeats 400000 in
theorem refuse_arg (w : World) :
    Calls Try.prog 16 #[.int .i64 2] w (fun e w' => e = .panicked [{ v := .iface 72 (.agg #[.int .i64 2]), recovered := false }] ∧ w = w') := by
  go_enter Try.func16, Try.ntmps16
  go_wp2
  exact ⟨rfl, rfl, rfl⟩

set_option maxHeartbeats 800000 in
set_option maxRecDepth 100000 in
theorem bound1_no (n k d : Int) (bn bk bd : Nat) (w : World) (hno : n < 1 ∨ 200 < n ∨ k < 0 ∨ n < k ∨ d < 1 ∨ 999999 < d)
    (ln : bn < w.heap.size) (lk : bk < w.heap.size) (ld : bd < w.heap.size)
    (cn : w.cell? ⟨bn, 0, none⟩ = some (.int .i64 n)) (ck : w.cell? ⟨bk, 0, none⟩ = some (.int .i64 k)) (cd : w.cell? ⟨bd, 0, none⟩ = some (.int .i64 d)) :
    Calls Try.prog 15 #[.pointer (some ⟨bn, 0, none⟩), .pointer (some ⟨bk, 0, none⟩), .pointer (some ⟨bd, 0, none⟩)] w
      (fun e w' => e = .panicked [{ v := .iface 72 (.agg #[.int .i64 2]), recovered := false }] ∧ Below w.heap.size w w') := by
  have Hno := Lib.hid hno; clear hno
  have hfin : ∀ o : Obj, Below w.heap.size w (w.alloc o) := fun o => (Below.refl _ _).alloc (Nat.le_refl _) _
  by_cases h1 : n < 1
  · go_enter Try.func15, Try.ntmps15
    go_wp2_with fail
    refine (refuse_arg _).mono ?_
    rintro e w' ⟨rfl, rfl⟩
    exact ⟨rfl, rfl, hfin _⟩
  by_cases h2 : 200 < n
  · go_enter Try.func15, Try.ntmps15
    go_wp2_with fail
    refine (refuse_arg _).mono ?_
    rintro e w' ⟨rfl, rfl⟩
    exact ⟨rfl, rfl, hfin _⟩
  by_cases h3 : k < 0
  · go_enter Try.func15, Try.ntmps15
    go_wp2_with fail
    refine (refuse_arg _).mono ?_
    rintro e w' ⟨rfl, rfl⟩
    exact ⟨rfl, rfl, hfin _⟩
  by_cases h4 : n < k
  · go_enter Try.func15, Try.ntmps15
    go_wp2_with fail
    refine (refuse_arg _).mono ?_
    rintro e w' ⟨rfl, rfl⟩
    exact ⟨rfl, rfl, hfin _⟩
  by_cases h5 : d < 1
  · go_enter Try.func15, Try.ntmps15
    go_wp2_with fail
    refine (refuse_arg _).mono ?_
    rintro e w' ⟨rfl, rfl⟩
    exact ⟨rfl, rfl, hfin _⟩
  have h6 : 999999 < d := by have := Hno.out; omega
  go_enter Try.func15, Try.ntmps15
  go_wp2_with fail
  refine (refuse_arg _).mono ?_
  rintro e w' ⟨rfl, rfl⟩
  exact ⟨rfl, rfl, hfin _⟩

theorem caught_idle (p q : Addr) (w : World) :
    CallsD Try.prog 30 #[.pointer (some p), .pointer (some q)] .returning w fun e u' w' => e = .returned (.tuple #[]) ∧ u' = .returning ∧ w' = w := by
  refine callsD_of_wpS Try.func30 rfl fun c₀ cs hu => ?_
  apply wpS_seq
  apply wpS_region
  simp [wpOpsS, go_sem, recoverD, hu, Try.ntmps30, Exit.thenS]
  apply wpS_seq
  apply wpS_region
  simp [wpOpsS, go_sem, Exit.thenS]
  refine wpS_cond (t := false) (by simp [Act.eval]) ?_
  simp only [Bool.false_eq_true, if_false]
  refine wpS_of_wp (wp_skip ?_)
  cases c₀
  simp_all [bodyPostS, results, Try.results30]

theorem caught_broken (p q : Nat) (en : Int) (w : World) (hpq : p ≠ q) (hp : w.heap[p]? = some (.cells #[.int .i64 0, .int .i64 0] 31 (0, 0))) (hq : w.heap[q]? = some (.cells #[.int .i64 0] 26 (0, 0))) :
    CallsD Try.prog 30 #[.pointer (some ⟨p, 0, none⟩), .pointer (some ⟨q, 0, none⟩)] (.panicking ({ v := .iface 72 (.agg #[.int .i64 en]), recovered := false } :: [])) w fun e u' w' =>
      e = .returned (.tuple #[]) ∧ u' = .panicking ({ v := .iface 72 (.agg #[.int .i64 en]), recovered := true } :: []) ∧
        w'.heap[p]? = some (.cells #[.int .i64 0, .int .i64 0] 31 (0, 0)) ∧ w'.heap[q]? = some (.cells #[.int .i64 en] 26 (0, 0)) ∧ Below (min p q) w w' := by
  have lp := lt_of_block hp
  have lq := lt_of_block hq
  have p0 := (obj_cell hp 0).trans rfl
  have p1 := (obj_cell hp 1).trans rfl
  have q0 := (obj_cell hq 0).trans rfl
  have p2 := obj_free hp 0
  have p3 := obj_free hp 1
  have q2 := obj_free hq 0
  refine callsD_of_wpS Try.func30 rfl fun c₀ cs hu => ?_
  apply wpS_seq
  apply wpS_region
  simp [wpOpsS, go_sem, recoverD, hu, Try.ntmps30, Exit.thenS]
  apply wpS_seq
  apply wpS_region
  simp [wpOpsS, go_sem, Exit.thenS]
  refine wpS_cond (t := true) (by simp [Act.eval]) ?_
  simp only [if_true]
  have hta : ∀ w : World, (Instr.typeAssert (.iface 72 (.agg #[.int .i64 en])) 20 72 true).run Try.prog w = .ok (.tuple #[.agg #[.int .i64 en], .bool true]) w := fun _ => by kernel_rfl
  clear hu
  refine wpS_of_wp ?_
  simp [Array.replicate, List.replicate]
  go_wp2_with fail
  have hqp : q ≠ p := fun e => hpq e.symm
  go_region
  go_wp2
  refine ⟨rfl, _, rfl, .tuple #[], by simp [results, Try.results30], rfl, rfl, ?_, ?_, ?_⟩
  · have e1 := obj_other (obj_setCell (obj_setCell hp 0 (.int .i64 0)) 1 (.int .i64 0)) ⟨q, 0, none⟩ hqp (.int .i64 en)
    show ((((w.setCell _ _).setCell _ _).setCell _ _).alloc _ |>.alloc _).heap[p]? = _
    rw [Below.heap_alloc _ _ _ (by simp; omega), Below.heap_alloc _ _ _ (by simp; omega), e1]
    rfl
  · have e1 := obj_setCell (obj_other (obj_other hq ⟨p, 0, none⟩ hpq (.int .i64 0)) ⟨p, 1, none⟩ hpq (.int .i64 0)) 0 (.int .i64 en)
    show ((((w.setCell _ _).setCell _ _).setCell _ _).alloc _ |>.alloc _).heap[q]? = _
    rw [Below.heap_alloc _ _ _ (by simp; omega), Below.heap_alloc _ _ _ (by simp; omega), e1]
    rfl
  · exact ((((((Below.refl _ _).setCell (by simp; omega) _).setCell (by simp; omega) _).setCell (by simp; omega) _).alloc (by simp; omega) _).alloc (by simp; omega) _).drew

theorem makeFunc_run (fn : Fn) (first cap : Array Value) (w : World) : (Instr.makeFunc fn first cap).run Try.prog w = .ok (.func fn first cap) w := rfl

set_option maxHeartbeats 800000 in
theorem caught_ret (x y : Int) (p1 p2 p3 : Value) (w : World)
    (hcall : Calls Try.prog 15 #[p1, p2, p3] ((w.alloc (.cells #[.int .i64 0, .int .i64 0] 31)).alloc (.cells #[.int .i64 0] 26)) (Ret2 ((w.alloc (.cells #[.int .i64 0, .int .i64 0] 31)).alloc (.cells #[.int .i64 0] 26)) x y)) :
    Calls Try.prog 14 #[.func (.func 15) #[] #[p1, p2, p3]] w (fun e w' => e = .returned (.tuple #[.agg #[.int .i64 x, .int .i64 y], .int .i64 0]) ∧ Below w.heap.size w w') := by
  have Hcall := Lib.hid hcall; clear hcall
  have hmf := makeFunc_run
  go_enter_defers Try.func14, Try.ntmps14
  go_wp2_with fail
  refine Hcall.out.mono ?_
  rintro e w1 ⟨rfl, hb1⟩
  have h0 : w1.heap[w.heap.size]? = some (.cells #[.int .i64 0, .int .i64 0] 31 (0, 0)) := (hb1.block w.heap.size (by simp; omega)).trans (heap_two w _ _).1
  have h1 : w1.heap[w.heap.size + 1]? = some (.cells #[.int .i64 0] 26 (0, 0)) := (hb1.block (w.heap.size + 1) (by simp)).trans (heap_two w _ _).2
  have a0 := (obj_cell h0 0).trans rfl
  have a1 := (obj_cell h0 1).trans rfl
  have a2 := (obj_cell h1 0).trans rfl
  have b0 := obj_free h0 0
  have b1 := obj_free h0 1
  have b2 := obj_free h1 0
  have hbb : Below w.heap.size w w1 := (below_two _ _).trans (hb1.mono (by simp; omega))
  clear h0 h1
  go_wp2
  refine leaves_cons (f := 30) (args := #[.pointer (some ⟨w.heap.size, 0, none⟩), .pointer (some ⟨w.heap.size + 1, 0, none⟩)]) (by simp) (by simp [go_sem]) ?_
  refine (caught_idle _ _ _).mono ?_
  rintro e u' w'' ⟨rfl, rfl, rfl⟩
  simp [Leaves, settle, results, Try.results14, go_sem, a0, a1, a2]
  exact ((hbb.setCell (by simp) _).setCell (by simp) _).setCell (by simp) _

set_option maxHeartbeats 800000 in
theorem caught_pan (en : Int) (p1 p2 p3 : Value) (w : World)
    (hcall : Calls Try.prog 15 #[p1, p2, p3] ((w.alloc (.cells #[.int .i64 0, .int .i64 0] 31)).alloc (.cells #[.int .i64 0] 26))
      (fun e w' => e = .panicked [{ v := .iface 72 (.agg #[.int .i64 en]), recovered := false }] ∧ Below ((w.alloc (.cells #[.int .i64 0, .int .i64 0] 31)).alloc (.cells #[.int .i64 0] 26)).heap.size ((w.alloc (.cells #[.int .i64 0, .int .i64 0] 31)).alloc (.cells #[.int .i64 0] 26)) w')) :
    Calls Try.prog 14 #[.func (.func 15) #[] #[p1, p2, p3]] w (fun e w' => e = .returned (.tuple #[.agg #[.int .i64 0, .int .i64 0], .int .i64 en]) ∧ Below w.heap.size w w') := by
  have Hcall := Lib.hid hcall; clear hcall
  have hmf := makeFunc_run
  go_enter_defers Try.func14, Try.ntmps14
  go_wp2_with fail
  refine Hcall.out.mono ?_
  rintro e w1 ⟨rfl, hb1⟩
  have h0 : w1.heap[w.heap.size]? = some (.cells #[.int .i64 0, .int .i64 0] 31 (0, 0)) := (hb1.block w.heap.size (by simp; omega)).trans (heap_two w _ _).1
  have h1 : w1.heap[w.heap.size + 1]? = some (.cells #[.int .i64 0] 26 (0, 0)) := (hb1.block (w.heap.size + 1) (by simp)).trans (heap_two w _ _).2
  have hbb : Below w.heap.size w w1 := (below_two _ _).trans (hb1.mono (by simp; omega))
  refine leaves_cons (f := 30) (args := #[.pointer (some ⟨w.heap.size, 0, none⟩), .pointer (some ⟨w.heap.size + 1, 0, none⟩)]) (by simp) (by simp [go_sem]) ?_
  refine (caught_broken _ _ en _ (by omega) h0 h1).mono ?_
  rintro e u' w'' ⟨rfl, rfl, g0, g1, gb⟩
  have a0 := (obj_cell g0 0).trans rfl
  have a1 := (obj_cell g0 1).trans rfl
  have a2 := (obj_cell g1 0).trans rfl
  simp [Leaves, settle, results, Try.results14, go_sem, a0, a1, a2]
  exact hbb.trans (gb.mono (by omega))

end Go.Proofs.Ytkfkdkoohnfgaaa
