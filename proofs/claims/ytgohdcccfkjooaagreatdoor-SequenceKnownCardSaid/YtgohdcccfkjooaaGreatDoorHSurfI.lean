/-
  DERIVED. The walks of package surface, eighth part: Check.
-/
import Derived.Test.YtgohdcccfkjooaaGreatDoorGac
import Derived.WalkMore
namespace Go.Proofs.YtgohdcccfkjooaaGreatDoor
open Go.RowKit

def testN (s : Surf) (zs : List Int) (n : Nat) : Nat → Bool
  | 0 => test1 s zs
  | 1 => test2 s
  | 2 => test3 s
  | 3 => test4 s
  | 4 => test5 s
  | 5 => test6 s
  | 6 => decide (n ≤ 8)
  | _ => true
def tests (s : Surf) (zs : List Int) (n : Nat) : Bool := (List.range 7).all (testN s zs n)
def filmB (zs : List Int) (k : Nat) : Bool := okFilm (zs.getD (k * 3) 0) (zs.getD (k * 3 + 1) 0) (zs.getD (k * 3 + 2) 0)
/-- a valid surface, with its coating -/
def okS (s : Surf) (zs : List Int) (n : Nat) : Bool := tests s zs n && (List.range n).all (filmB zs)
def err (b : Bool) (e : Int) : Value := .int .i64 (if b then 0 else e)

theorem all_next {f : Nat → Bool} {k : Nat} (h : ∀ j, j < k → f j = true) (hk : f k = true) : ∀ j, j < k + 1 → f j = true := fun j hj => by
  by_cases e : j = k
  · subst e; exact hk
  · exact h j (by omega)
theorem tests_bad {s : Surf} {zs : List Int} {n k : Nat} (hk : k < 7) (h : testN s zs n k = false) : tests s zs n = false := by
  rw [Bool.eq_false_iff]
  intro ha
  have := List.all_eq_true.1 ha k (List.mem_range.2 hk)
  rw [h] at this; cases this
theorem tests_good {s : Surf} {zs : List Int} {n : Nat} (h : ∀ j, j < 7 → testN s zs n j = true) : tests s zs n = true :=
  List.all_eq_true.2 fun j hj => h j (List.mem_range.1 hj)

theorem upon_val' {P : Program} {o : Oper} {a : Act} {K : Act → World → Prop} {Q : Exit → Act → World → Prop} {v : Value} {w : World} (h : K (a.put o.dst v) w) : Oper.upon P o a K Q (.ok (.value v) w) := h
theorem index_fn0 (x0 x1 x2 x3 x4 x5 x6 : Value) (w : World) : ((Sem.run Tryz.prog (Instr.index 290 (Value.agg #[x0, x1, x2, x3, x4, x5, x6]) (Value.int IntKind.i64 0)) w).andThen fun a w' => Result.ok (Next.value a) w') = Result.ok (Next.value x0) w := by kernel_rfl
theorem index_fn1 (x0 x1 x2 x3 x4 x5 x6 : Value) (w : World) : ((Sem.run Tryz.prog (Instr.index 290 (Value.agg #[x0, x1, x2, x3, x4, x5, x6]) (Value.int IntKind.i64 1)) w).andThen fun a w' => Result.ok (Next.value a) w') = Result.ok (Next.value x1) w := by kernel_rfl
theorem index_fn2 (x0 x1 x2 x3 x4 x5 x6 : Value) (w : World) : ((Sem.run Tryz.prog (Instr.index 290 (Value.agg #[x0, x1, x2, x3, x4, x5, x6]) (Value.int IntKind.i64 2)) w).andThen fun a w' => Result.ok (Next.value a) w') = Result.ok (Next.value x2) w := by kernel_rfl
theorem index_fn3 (x0 x1 x2 x3 x4 x5 x6 : Value) (w : World) : ((Sem.run Tryz.prog (Instr.index 290 (Value.agg #[x0, x1, x2, x3, x4, x5, x6]) (Value.int IntKind.i64 3)) w).andThen fun a w' => Result.ok (Next.value a) w') = Result.ok (Next.value x3) w := by kernel_rfl
theorem index_fn4 (x0 x1 x2 x3 x4 x5 x6 : Value) (w : World) : ((Sem.run Tryz.prog (Instr.index 290 (Value.agg #[x0, x1, x2, x3, x4, x5, x6]) (Value.int IntKind.i64 4)) w).andThen fun a w' => Result.ok (Next.value a) w') = Result.ok (Next.value x4) w := by kernel_rfl
theorem index_fn5 (x0 x1 x2 x3 x4 x5 x6 : Value) (w : World) : ((Sem.run Tryz.prog (Instr.index 290 (Value.agg #[x0, x1, x2, x3, x4, x5, x6]) (Value.int IntKind.i64 5)) w).andThen fun a w' => Result.ok (Next.value a) w') = Result.ok (Next.value x5) w := by kernel_rfl
theorem index_fn6 (x0 x1 x2 x3 x4 x5 x6 : Value) (w : World) : ((Sem.run Tryz.prog (Instr.index 290 (Value.agg #[x0, x1, x2, x3, x4, x5, x6]) (Value.int IntKind.i64 6)) w).andThen fun a w' => Result.ok (Next.value a) w') = Result.ok (Next.value x6) w := by kernel_rfl

theorem range_block {w : World} {g : Nat} {l : List Value} {T : TypeId} (h : w.heap[g]? = some (.cells l.toArray T (0, 0))) : w.rangeAt g 0 l := by
  intro j v hj
  simp only [World.cell?, h, Nat.zero_add]
  simpa using hj

set_option maxRecDepth 100000 in
set_option maxHeartbeats 1600000 in
theorem scheck_any (s : Surf) (zs : List Int) (a : Option Addr) (n c : Nat) (w : World) (hz : IR w.heap.size w 3 a n c zs) (hn : n ≤ 1000000) (hg : s.glass.size ≤ 9223372036854775807) :
    Calls Tryz.prog 164 #[.agg #[.int .i64 s.kind, .int .i64 s.curv, .int .i64 s.conic, .int .i64 s.curvX, .int .i64 s.conicX, .int .i64 s.a0, .int .i64 s.a1, .int .i64 s.a2, .int .i64 s.a3, .int .i64 s.p0, .int .i64 s.p1, .int .i64 s.order, .int .i64 s.thick, .string s.glass, .int .i64 s.semi, .int .i64 s.hole, .int .i64 s.dx, .int .i64 s.dy, .int .i64 s.ax, .int .i64 s.ay, .int .i64 s.az, .slice a n c]] w (RetB w (err (okS s zs n) 110)) := by
  have h1 := SurfB.new w s a n c
  have H1 := Lib.hid h1; have Hz := Lib.hid hz
  clear h1 hz
  go_enter Tryz.func164, Tryz.ntmps164
  have h2 := heap_alloc_new (w.alloc (.cells #[.int .i64 s.kind, .int .i64 s.curv, .int .i64 s.conic, .int .i64 s.curvX, .int .i64 s.conicX, .int .i64 s.a0, .int .i64 s.a1, .int .i64 s.a2, .int .i64 s.a3, .int .i64 s.p0, .int .i64 s.p1, .int .i64 s.order, .int .i64 s.thick, .string s.glass, .int .i64 s.semi, .int .i64 s.hole, .int .i64 s.dx, .int .i64 s.dy, .int .i64 s.ax, .int .i64 s.ay, .int .i64 s.az, .slice a n c] 70)) (.cells #[.nilFunc, .nilFunc, .nilFunc, .nilFunc, .nilFunc, .nilFunc, .nilFunc] 290)
  rw [size_alloc] at h2
  have H2 := Lib.hid h2; clear h2
  have hsf : ∀ (a : Addr) (f : Fn) (x y : Array Value) (m : Mode) (w : World), (store a (.func f x y) m).run Tryz.prog w = stored Tryz.prog w a (.func f x y) m := fun a f x y m w => run_store Tryz.prog w a _ m rfl
  go_wp2_with fail
  go_step3
  go_wp2_with fail
  go_step3
  go_upto_block 0 with fail
  refine step_world (fun wx => SurfB wx w.heap.size s a n c ∧ Below w.heap.size w wx) ⟨SurfB.go (B := w.heap.size + 1) H1.out ((Below.refl _ _).alloc (by simp) _) (by omega), below_al (below_al (Below.refl _ _))⟩ ?_
  clear H1 H2 hsf
  rintro w1 ⟨h1, hb1⟩
  have S1 := Lib.hid h1; have B1 := Lib.hid hb1; have Z1 := Lib.hid (Hz.out.go hb1)
  have hl := h1.lt
  clear h1 hb1
  go_cut [4, 6] from 17 to 25 (fun v4 v6 wx => v4 = err (tests s zs n) 110 ∧ Below w1.heap.size w1 wx)
  case first =>
    go_wp2_with fail
    go_loopw [4, 18] (fun v4 iv wr => ∃ k : Nat, k ≤ 7 ∧ iv = .int .i64 (k : Int) ∧ v4 = .int .i64 0 ∧ (∀ j, j < k → testN s zs n j = true) ∧ Below w1.heap.size w1 wr) (fun _ iv _ => 7 - (intOf iv).toNat)
    case atStart => exact ⟨0, by omega, rfl, rfl, fun j hj => by omega, Below.refl _ _⟩
    case round =>
      obtain ⟨k, hk, rfl, rfl, ht, hb⟩ := hrel
      have Ht := Lib.hid ht; have Hb := Lib.hid hb
      have Sw := Lib.hid (SurfB.go S1.out hb hl)
      have Zw := Lib.hid (Z1.out.go hb)
      clear ht hb
      have hk8 : k = 0 ∨ k = 1 ∨ k = 2 ∨ k = 3 ∨ k = 4 ∨ k = 5 ∨ k = 6 ∨ k = 7 := by omega
      rcases hk8 with rfl | rfl | rfl | rfl | rfl | rfl | rfl | rfl
      · cases hv : testN s zs n 0 with
        | true =>
          have Hv := Lib.hid hv; clear hv
          go_wp2_with fail
          rw [index_fn0]
          refine upon_val' ?_
          simp only [Act.put, List.setIfInBounds_toArray, List.set_cons_zero, List.set_cons_succ]
          go_wp2_with ((with_reducible refine (lit_test1 s zs a n c w.heap.size _ Sw.out Zw.out hn).mono ?_); rintro e w2 ⟨he, hb2⟩; rw [show test1 s zs = _ from Hv.out] at he; subst he)
          go_roundw
          case rel => exact ⟨1, by omega, rfl, rfl, all_next Ht.out Hv.out, below_chain Hb.out hb2⟩
          case measure => simp [intOf]
        | false =>
          have Hv := Lib.hid hv; clear hv
          go_wp2_with fail
          rw [index_fn0]
          refine upon_val' ?_
          simp only [Act.put, List.setIfInBounds_toArray, List.set_cons_zero, List.set_cons_succ]
          go_wp2_with ((with_reducible refine (lit_test1 s zs a n c w.heap.size _ Sw.out Zw.out hn).mono ?_); rintro e w2 ⟨he, hb2⟩; rw [show test1 s zs = _ from Hv.out] at he; subst he)
          go_meet
          exact ⟨by rw [tests_bad (k := 0) (by omega) Hv.out]; rfl, below_chain Hb.out hb2⟩
      · cases hv : testN s zs n 1 with
        | true =>
          have Hv := Lib.hid hv; clear hv
          go_wp2_with fail
          rw [index_fn1]
          refine upon_val' ?_
          simp only [Act.put, List.setIfInBounds_toArray, List.set_cons_zero, List.set_cons_succ]
          go_wp2_with ((with_reducible refine (lit_test2 s a n c w.heap.size _ Sw.out).mono ?_); rintro e w2 ⟨he, hb2⟩; rw [show test2 s = _ from Hv.out] at he; subst he)
          go_roundw
          case rel => exact ⟨2, by omega, rfl, rfl, all_next Ht.out Hv.out, below_chain Hb.out hb2⟩
          case measure => simp [intOf]
        | false =>
          have Hv := Lib.hid hv; clear hv
          go_wp2_with fail
          rw [index_fn1]
          refine upon_val' ?_
          simp only [Act.put, List.setIfInBounds_toArray, List.set_cons_zero, List.set_cons_succ]
          go_wp2_with ((with_reducible refine (lit_test2 s a n c w.heap.size _ Sw.out).mono ?_); rintro e w2 ⟨he, hb2⟩; rw [show test2 s = _ from Hv.out] at he; subst he)
          go_meet
          exact ⟨by rw [tests_bad (k := 1) (by omega) Hv.out]; rfl, below_chain Hb.out hb2⟩
      · cases hv : testN s zs n 2 with
        | true =>
          have Hv := Lib.hid hv; clear hv
          go_wp2_with fail
          rw [index_fn2]
          refine upon_val' ?_
          simp only [Act.put, List.setIfInBounds_toArray, List.set_cons_zero, List.set_cons_succ]
          go_wp2_with ((with_reducible refine (lit_test3 s a n c w.heap.size _ Sw.out).mono ?_); rintro e w2 ⟨he, hb2⟩; rw [show test3 s = _ from Hv.out] at he; subst he)
          go_roundw
          case rel => exact ⟨3, by omega, rfl, rfl, all_next Ht.out Hv.out, below_chain Hb.out hb2⟩
          case measure => simp [intOf]
        | false =>
          have Hv := Lib.hid hv; clear hv
          go_wp2_with fail
          rw [index_fn2]
          refine upon_val' ?_
          simp only [Act.put, List.setIfInBounds_toArray, List.set_cons_zero, List.set_cons_succ]
          go_wp2_with ((with_reducible refine (lit_test3 s a n c w.heap.size _ Sw.out).mono ?_); rintro e w2 ⟨he, hb2⟩; rw [show test3 s = _ from Hv.out] at he; subst he)
          go_meet
          exact ⟨by rw [tests_bad (k := 2) (by omega) Hv.out]; rfl, below_chain Hb.out hb2⟩
      · cases hv : testN s zs n 3 with
        | true =>
          have Hv := Lib.hid hv; clear hv
          go_wp2_with fail
          rw [index_fn3]
          refine upon_val' ?_
          simp only [Act.put, List.setIfInBounds_toArray, List.set_cons_zero, List.set_cons_succ]
          go_wp2_with ((with_reducible refine (lit_test4 s a n c w.heap.size _ Sw.out).mono ?_); rintro e w2 ⟨he, hb2⟩; rw [show test4 s = _ from Hv.out] at he; subst he)
          go_roundw
          case rel => exact ⟨4, by omega, rfl, rfl, all_next Ht.out Hv.out, below_chain Hb.out hb2⟩
          case measure => simp [intOf]
        | false =>
          have Hv := Lib.hid hv; clear hv
          go_wp2_with fail
          rw [index_fn3]
          refine upon_val' ?_
          simp only [Act.put, List.setIfInBounds_toArray, List.set_cons_zero, List.set_cons_succ]
          go_wp2_with ((with_reducible refine (lit_test4 s a n c w.heap.size _ Sw.out).mono ?_); rintro e w2 ⟨he, hb2⟩; rw [show test4 s = _ from Hv.out] at he; subst he)
          go_meet
          exact ⟨by rw [tests_bad (k := 3) (by omega) Hv.out]; rfl, below_chain Hb.out hb2⟩
      · cases hv : testN s zs n 4 with
        | true =>
          have Hv := Lib.hid hv; clear hv
          go_wp2_with fail
          rw [index_fn4]
          refine upon_val' ?_
          simp only [Act.put, List.setIfInBounds_toArray, List.set_cons_zero, List.set_cons_succ]
          go_wp2_with ((with_reducible refine (lit_test5 s a n c w.heap.size _ Sw.out).mono ?_); rintro e w2 ⟨he, hb2⟩; rw [show test5 s = _ from Hv.out] at he; subst he)
          go_roundw
          case rel => exact ⟨5, by omega, rfl, rfl, all_next Ht.out Hv.out, below_chain Hb.out hb2⟩
          case measure => simp [intOf]
        | false =>
          have Hv := Lib.hid hv; clear hv
          go_wp2_with fail
          rw [index_fn4]
          refine upon_val' ?_
          simp only [Act.put, List.setIfInBounds_toArray, List.set_cons_zero, List.set_cons_succ]
          go_wp2_with ((with_reducible refine (lit_test5 s a n c w.heap.size _ Sw.out).mono ?_); rintro e w2 ⟨he, hb2⟩; rw [show test5 s = _ from Hv.out] at he; subst he)
          go_meet
          exact ⟨by rw [tests_bad (k := 4) (by omega) Hv.out]; rfl, below_chain Hb.out hb2⟩
      · cases hv : testN s zs n 5 with
        | true =>
          have Hv := Lib.hid hv; clear hv
          go_wp2_with fail
          rw [index_fn5]
          refine upon_val' ?_
          simp only [Act.put, List.setIfInBounds_toArray, List.set_cons_zero, List.set_cons_succ]
          go_wp2_with ((with_reducible refine (lit_test6 s a n c w.heap.size _ Sw.out hg).mono ?_); rintro e w2 ⟨he, hb2⟩; rw [show test6 s = _ from Hv.out] at he; subst he)
          go_roundw
          case rel => exact ⟨6, by omega, rfl, rfl, all_next Ht.out Hv.out, below_chain Hb.out hb2⟩
          case measure => simp [intOf]
        | false =>
          have Hv := Lib.hid hv; clear hv
          go_wp2_with fail
          rw [index_fn5]
          refine upon_val' ?_
          simp only [Act.put, List.setIfInBounds_toArray, List.set_cons_zero, List.set_cons_succ]
          go_wp2_with ((with_reducible refine (lit_test6 s a n c w.heap.size _ Sw.out hg).mono ?_); rintro e w2 ⟨he, hb2⟩; rw [show test6 s = _ from Hv.out] at he; subst he)
          go_meet
          exact ⟨by rw [tests_bad (k := 5) (by omega) Hv.out]; rfl, below_chain Hb.out hb2⟩
      · cases hv : testN s zs n 6 with
        | true =>
          have Hv := Lib.hid hv; clear hv
          go_wp2_with fail
          rw [index_fn6]
          refine upon_val' ?_
          simp only [Act.put, List.setIfInBounds_toArray, List.set_cons_zero, List.set_cons_succ]
          go_wp2_with ((with_reducible refine (lit_test7 s a n c w.heap.size _ Sw.out).mono ?_); rintro e w2 ⟨he, hb2⟩; rw [show decide (n ≤ 8) = _ from Hv.out] at he; subst he)
          go_roundw
          case rel => exact ⟨7, by omega, rfl, rfl, all_next Ht.out Hv.out, below_chain Hb.out hb2⟩
          case measure => simp [intOf]
        | false =>
          have Hv := Lib.hid hv; clear hv
          go_wp2_with fail
          rw [index_fn6]
          refine upon_val' ?_
          simp only [Act.put, List.setIfInBounds_toArray, List.set_cons_zero, List.set_cons_succ]
          go_wp2_with ((with_reducible refine (lit_test7 s a n c w.heap.size _ Sw.out).mono ?_); rintro e w2 ⟨he, hb2⟩; rw [show decide (n ≤ 8) = _ from Hv.out] at he; subst he)
          go_meet
          exact ⟨by rw [tests_bad (k := 6) (by omega) Hv.out]; rfl, below_chain Hb.out hb2⟩
      · go_wp2_with fail
        go_meet
        exact ⟨by rw [tests_good Ht.out]; rfl, Hb.out⟩
  case rest =>
    obtain ⟨rfl, hb⟩ := hcut
    have Sc := Lib.hid (SurfB.go S1.out hb hl)
    have Zc := Lib.hid (Z1.out.go hb)
    have Bc := Lib.hid (below_chain B1.out hb)
    have hlc : w.heap.size < wc.heap.size := Nat.lt_of_lt_of_le hl hb.size
    have hlen := Zc.out.1
    have Hlen := Lib.hid hlen
    clear hb S1 B1 Z1 hlen
    obtain ⟨k0, k1, k2, k3, k4, k5, k6, k7, k8, k9, k10, k11, k12, k13, k14, k15, k16, k17, k18, k19, k20, k21⟩ := Sc.out.cells
    generalize hv : err (tests s zs n) 110 = v4 at *
    cases hT : tests s zs n with
    | false =>
      have HT := Lib.hid hT
      obtain rfl : v4 = .int .i64 110 := by rw [← hv, hT]; rfl
      clear hv hT
      go_wp2_with fail
      clear k0 k1 k2 k3 k4 k5 k6 k7 k8 k9 k10 k11 k12 k13 k14 k15 k16 k17 k18 k19 k20 k21
      go_loopw [4, 28] (fun v4 iv wr => ∃ k : Nat, k ≤ n ∧ iv = .int .i64 (k : Int) ∧ v4 = .int .i64 110 ∧ Below wc.heap.size wc wr) (fun _ iv _ => n - (intOf iv).toNat)
      case atStart => exact ⟨0, by omega, rfl, rfl, Below.refl _ _⟩
      case round =>
        obtain ⟨k, hk, rfl, rfl, hb⟩ := hrel
        have Hb := Lib.hid hb; clear hb
        by_cases hkn : k < n
        · obtain ⟨b1, o1, rfl, l1, x0, x1, x2⟩ := (Zc.out.go Hb.out).at3 hkn
          go_wp2_with fail
          go_roundw
          case rel => exact ⟨k + 1, by omega, by go_num, rfl, by (repeat (first | exact Hb.out | apply below_al | apply below_dr | (refine below_chain ?_ (by assumption))))⟩
          case measure => simp [intOf]; omega
        · go_wp2
          go_ret
          exact ⟨by unfold okS; rw [HT.out]; rfl, below_chain Bc.out Hb.out⟩
    | true =>
      have HT := Lib.hid hT
      obtain rfl : v4 = .int .i64 0 := by rw [← hv, hT]; rfl
      clear hv hT
      go_wp2_with fail
      clear k0 k1 k2 k3 k4 k5 k6 k7 k8 k9 k10 k11 k12 k13 k14 k15 k16 k17 k18 k19 k20 k21
      go_loopw [4, 28] (fun v4 iv wr => ∃ k : Nat, k ≤ n ∧ iv = .int .i64 (k : Int) ∧ v4 = err ((List.range k).all (filmB zs)) 110 ∧ Below wc.heap.size wc wr) (fun _ iv _ => n - (intOf iv).toNat)
      case atStart => exact ⟨0, by omega, rfl, rfl, Below.refl _ _⟩
      case round =>
        obtain ⟨k, hk, rfl, hv, hb⟩ := hrel
        have Hb := Lib.hid hb; clear hb
        by_cases hkn : k < n
        · obtain ⟨b1, o1, rfl, l1, x0, x1, x2⟩ := (Zc.out.go Hb.out).at3 hkn
          have hnx : (List.range (k + 1)).all (filmB zs) = ((List.range k).all (filmB zs) && okFilm (zs.getD (k * 3) 0) (zs.getD (k * 3 + 1) 0) (zs.getD (k * 3 + 2) 0)) := by
            rw [List.range_succ, List.all_append]; simp [filmB]
          have Hnx := Lib.hid hnx; clear hnx
          generalize zs.getD (k * 3) 0 = p0 at *
          generalize zs.getD (k * 3 + 1) 0 = p1 at *
          generalize zs.getD (k * 3 + 2) 0 = p2 at *
          cases hT : (List.range k).all (filmB zs) with
          | false =>
            have HF := Lib.hid hT
            rw [hT] at hv
            replace hv := hv.trans (show err false 110 = Value.int .i64 110 from rfl)
            subst hv
            clear hT
            go_wp2_with fail
            go_roundw
            case rel => exact ⟨k + 1, by omega, by go_num, by rw [Hnx.out, HF.out]; rfl, by (repeat (first | exact Hb.out | apply below_al | apply below_dr | (refine below_chain ?_ (by assumption))))⟩
            case measure => simp [intOf]; omega
          | true =>
            have HF := Lib.hid hT
            rw [hT] at hv
            replace hv := hv.trans (show err true 110 = Value.int .i64 0 from rfl)
            subst hv
            clear hT
            cases hf : okFilm p0 p1 p2 with
            | true =>
              have Hf := Lib.hid hf; clear hf
              go_wp2_with ((with_reducible refine (film_any _ _ _ _).mono ?_); rintro e w2 ⟨he, hb2⟩; rw [Hf.out] at he; subst he)
              go_roundw
              case rel => exact ⟨k + 1, by omega, by go_num, by rw [Hnx.out, HF.out, Hf.out]; rfl, by (repeat (first | exact Hb.out | apply below_al | apply below_dr | (refine below_chain ?_ (by assumption))))⟩
              case measure => simp [intOf]; omega
            | false =>
              have Hf := Lib.hid hf; clear hf
              go_wp2_with ((with_reducible refine (film_any _ _ _ _).mono ?_); rintro e w2 ⟨he, hb2⟩; rw [Hf.out] at he; subst he)
              go_roundw
              case rel => exact ⟨k + 1, by omega, by go_num, by rw [Hnx.out, HF.out, Hf.out]; rfl, by (repeat (first | exact Hb.out | apply below_al | apply below_dr | (refine below_chain ?_ (by assumption))))⟩
              case measure => simp [intOf]; omega
        · obtain rfl : k = n := by omega
          go_wp2
          go_ret
          exact ⟨by rw [hv]; unfold okS; rw [HT.out]; rfl, below_chain Bc.out Hb.out⟩

end Go.Proofs.YtgohdcccfkjooaaGreatDoor
