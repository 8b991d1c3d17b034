/-
  DERIVED. The walks of package surface: kept, the first kind (printed by wip/mkKept.py).
-/
import Derived.Test.YtgohdcccfkjooaaGreatDoorHSurfK
namespace Go.Proofs.YtgohdcccfkjooaaGreatDoor
open Go.RowKit

set_option maxRecDepth 100000 in
set_option maxHeartbeats 3200000 in
theorem kept_1a (s : Surf) (a : Option Addr) (n c : Nat) (w : World) (hk : s.kind = 1) (h0 : s.order = 0) : Calls Tryz.prog 202 #[.agg #[.int .i64 s.kind, .int .i64 s.curv, .int .i64 s.conic, .int .i64 s.curvX, .int .i64 s.conicX, .int .i64 s.a0, .int .i64 s.a1, .int .i64 s.a2, .int .i64 s.a3, .int .i64 s.p0, .int .i64 s.p1, .int .i64 s.order, .int .i64 s.thick, .string s.glass, .int .i64 s.semi, .int .i64 s.hole, .int .i64 s.dx, .int .i64 s.dy, .int .i64 s.ax, .int .i64 s.ay, .int .i64 s.az, .slice a n c]] w (RetSurf w (keptS s) a n c) := by
  obtain ⟨kind, curv, conic, curvX, conicX, a0, a1, a2, a3, p0, p1, order, thick, glass, semi, hole, dx, dy, ax, ay, az⟩ := s
  obtain rfl : kind = 1 := hk
  obtain ⟨e1, e2, e3⟩ := heap3 w (.cells #[.int .i64 1, .int .i64 curv, .int .i64 conic, .int .i64 curvX, .int .i64 conicX, .int .i64 a0, .int .i64 a1, .int .i64 a2, .int .i64 a3, .int .i64 p0, .int .i64 p1, .int .i64 order, .int .i64 thick, .string glass, .int .i64 semi, .int .i64 hole, .int .i64 dx, .int .i64 dy, .int .i64 ax, .int .i64 ay, .int .i64 az, .slice a n c] 70) (.cells #[.int .i64 0, .int .i64 0, .int .i64 0, .int .i64 0, .int .i64 0, .int .i64 0, .int .i64 0, .int .i64 0, .int .i64 0, .int .i64 0, .int .i64 0, .int .i64 0, .int .i64 0, .string emptyS, .int .i64 0, .int .i64 0, .int .i64 0, .int .i64 0, .int .i64 0, .int .i64 0, .int .i64 0, .slice none 0 0] 70) (.cells #[.int .i64 0, .int .i64 0, .int .i64 0, .int .i64 0, .int .i64 0, .int .i64 0, .int .i64 0, .int .i64 0, .int .i64 0, .int .i64 0, .int .i64 0, .int .i64 0, .int .i64 0, .string emptyS, .int .i64 0, .int .i64 0, .int .i64 0, .int .i64 0, .int .i64 0, .int .i64 0, .int .i64 0, .slice none 0 0] 70)
  have hb := belowT w (.cells #[.int .i64 1, .int .i64 curv, .int .i64 conic, .int .i64 curvX, .int .i64 conicX, .int .i64 a0, .int .i64 a1, .int .i64 a2, .int .i64 a3, .int .i64 p0, .int .i64 p1, .int .i64 order, .int .i64 thick, .string glass, .int .i64 semi, .int .i64 hole, .int .i64 dx, .int .i64 dy, .int .i64 ax, .int .i64 ay, .int .i64 az, .slice a n c] 70) (.cells #[.int .i64 0, .int .i64 0, .int .i64 0, .int .i64 0, .int .i64 0, .int .i64 0, .int .i64 0, .int .i64 0, .int .i64 0, .int .i64 0, .int .i64 0, .int .i64 0, .int .i64 0, .string emptyS, .int .i64 0, .int .i64 0, .int .i64 0, .int .i64 0, .int .i64 0, .int .i64 0, .int .i64 0, .slice none 0 0] 70) (.cells #[.int .i64 0, .int .i64 0, .int .i64 0, .int .i64 0, .int .i64 0, .int .i64 0, .int .i64 0, .int .i64 0, .int .i64 0, .int .i64 0, .int .i64 0, .int .i64 0, .int .i64 0, .string emptyS, .int .i64 0, .int .i64 0, .int .i64 0, .int .i64 0, .int .i64 0, .int .i64 0, .int .i64 0, .slice none 0 0] 70)
  have E1 := Lib.hid e1; have E2 := Lib.hid e2; have E3 := Lib.hid e3; have Hb := Lib.hid hb
  clear e1 e2 e3 hb
  have h0 : order = 0 := h0
  have q0 : (order != 0) = false := by simpa using h0
  have H0 := Lib.hid h0; clear h0
  go_enter Tryz.func202, Tryz.ntmps202
  go_upto_region 4 with (refine wpL_store_surf (g := w.heap.size + 2) ⟨1, 0, 0, 0, 0, 0, 0, 0, 0, 0, 0, 0, thick, emptyS, 0, 0, 0, 0, 0, 0, 0⟩ none 0 0 E3.out rfl rfl (.tmp 3) (.tmp 8) rfl rfl rfl ?_; refine step_list (fun wx => SurfB wx w.heap.size ⟨1, curv, conic, curvX, conicX, a0, a1, a2, a3, p0, p1, order, thick, glass, semi, hole, dx, dy, ax, ay, az⟩ a n c ∧ wx.heap[w.heap.size + 1]? = some (.cells #[.int .i64 0, .int .i64 0, .int .i64 0, .int .i64 0, .int .i64 0, .int .i64 0, .int .i64 0, .int .i64 0, .int .i64 0, .int .i64 0, .int .i64 0, .int .i64 0, .int .i64 0, .string emptyS, .int .i64 0, .int .i64 0, .int .i64 0, .int .i64 0, .int .i64 0, .int .i64 0, .int .i64 0, .slice none 0 0] 70 (0, 0)) ∧ SurfB wx (w.heap.size + 1 + 1) ⟨1, 0, 0, 0, 0, 0, 0, 0, 0, 0, 0, 0, thick, emptyS, 0, 0, 0, 0, 0, 0, 0⟩ none 0 0 ∧ Below w.heap.size w wx) ⟨W22.other E1.out (by omega) _ _ _ _, W22.other E2.out (by omega) _ _ _ _, SurfB.stored E3.out rfl _ _ _ _, Below.put22 Hb.out (by omega) _ _ _ _⟩ ?_; rintro w1 ⟨h1, h2, h3, hb⟩; have q1 := SurfB.cells h1; obtain ⟨z0, z1, z2, z3, z4, z5, z6, z7, z8, z9, z10, z11, z12, z13, z14, z15, z16, z17, z18, z19, z20, z21⟩ := h3.cells; have f5 := SurfB.free h3 5; have f6 := SurfB.free h3 6; have f7 := SurfB.free h3 7; have f8 := SurfB.free h3 8)
  go_upto_region 5 with fail
  have k3 := surf_set (k := 8) (v := .int .i64 a3) (surf_set (k := 7) (v := .int .i64 a2) (surf_set (k := 6) (v := .int .i64 a1) (surf_set (k := 5) (v := .int .i64 a0) (h3))))
  simp only [List.set_cons_zero, List.set_cons_succ] at k3
  have i1 := (obj_other (obj_other (obj_other (obj_other h1 ⟨w.heap.size + 1 + 1, 5, none⟩ (by show w.heap.size + 1 + 1 ≠ w.heap.size; omega) (.int .i64 a0)) ⟨w.heap.size + 1 + 1, 6, none⟩ (by show w.heap.size + 1 + 1 ≠ w.heap.size; omega) (.int .i64 a1)) ⟨w.heap.size + 1 + 1, 7, none⟩ (by show w.heap.size + 1 + 1 ≠ w.heap.size; omega) (.int .i64 a2)) ⟨w.heap.size + 1 + 1, 8, none⟩ (by show w.heap.size + 1 + 1 ≠ w.heap.size; omega) (.int .i64 a3))
  have i2 := (obj_other (obj_other (obj_other (obj_other h2 ⟨w.heap.size + 1 + 1, 5, none⟩ (by show w.heap.size + 1 + 1 ≠ w.heap.size + 1; omega) (.int .i64 a0)) ⟨w.heap.size + 1 + 1, 6, none⟩ (by show w.heap.size + 1 + 1 ≠ w.heap.size + 1; omega) (.int .i64 a1)) ⟨w.heap.size + 1 + 1, 7, none⟩ (by show w.heap.size + 1 + 1 ≠ w.heap.size + 1; omega) (.int .i64 a2)) ⟨w.heap.size + 1 + 1, 8, none⟩ (by show w.heap.size + 1 + 1 ≠ w.heap.size + 1; omega) (.int .i64 a3))
  refine step_world (fun wx => SurfB wx w.heap.size ⟨1, curv, conic, curvX, conicX, a0, a1, a2, a3, p0, p1, order, thick, glass, semi, hole, dx, dy, ax, ay, az⟩ a n c ∧ wx.heap[w.heap.size + 1]? = some (.cells #[.int .i64 0, .int .i64 0, .int .i64 0, .int .i64 0, .int .i64 0, .int .i64 0, .int .i64 0, .int .i64 0, .int .i64 0, .int .i64 0, .int .i64 0, .int .i64 0, .int .i64 0, .string emptyS, .int .i64 0, .int .i64 0, .int .i64 0, .int .i64 0, .int .i64 0, .int .i64 0, .int .i64 0, .slice none 0 0] 70 (0, 0)) ∧ SurfB wx (w.heap.size + 1 + 1) ⟨1, 0, 0, 0, 0, a0, a1, a2, a3, 0, 0, 0, thick, emptyS, 0, 0, 0, 0, 0, 0, 0⟩ none 0 0 ∧ Below w.heap.size w wx) ⟨i1, i2, k3, below_s1' (below_s1' (below_s1' (below_s1' (hb) (by omega)) (by omega)) (by omega)) (by omega)⟩ ?_
  clear hb h2 h3 i2 k3 h1 i1 q1 f5 f6 f7 f8 z0 z1 z2 z3 z4 z5 z6 z7 z8 z9 z10 z11 z12 z13 z14 z15 z16 z17 z18 z19 z20 z21
  rintro w2 ⟨h1, h2, h3, hb⟩
  obtain ⟨q0, q1, q2, q3, q4, q5, q6, q7, q8, q9, q10, q11, q12, q13, q14, q15, q16, q17, q18, q19, q20, q21⟩ := h1.cells
  go_wp2_with fail
  clear q0 q1 q2 q3 q4 q5 q6 q7 q8 q9 q10 q11 q12 q13 q14 q15 q16 q17 q18 q19 q20 q21
  obtain ⟨z0, z1, z2, z3, z4, z5, z6, z7, z8, z9, z10, z11, z12, z13, z14, z15, z16, z17, z18, z19, z20, z21⟩ := h3.cells
  have f0 := SurfB.free h3 1
  have f1 := SurfB.free h3 2
  have f2 := SurfB.free h3 13
  have f3 := SurfB.free h3 14
  have f4 := SurfB.free h3 15
  have f5 := SurfB.free h3 21
  have hz := h3.lt
  have hl := h1.lt
  refine wp_region_reads (w.heap.size + 1 + 1) [0, 1, 2, 3, 4, 5, 6, 7, 8, 9, 10, 11, 12] 11 (by kernel_rfl) rfl (by kernel_rfl) (by kernel_rfl) (fun _ _ o _ _ h => by cases o <;> exact h) ?_
  iterate 13
    refine wpRd_yield (v := ?_) rfl (by rfl) ?_ ?_
    rotate_left
    · intro y hy
      obtain ⟨y0, y1, y2, y3, y4, y5, y6, y7, y8, y9, y10, y11, y12, y13, y14, y15, y16, y17, y18, y19, y20, y21⟩ := SurfB.cells (SurfB.go h1 (below_undrew (k := 1) hy) (by omega))
      go_simp
      with_reducible rfl
    try simp only [Act.put, List.setIfInBounds_toArray, List.set_cons_zero, List.set_cons_succ]
  refine wpRd_nil ?_
  refine wpR_one (i := 13) (by kernel_rfl) rfl rfl (fun K hK => ?_)
  go_simp
  refine hK _ _ (below_s1 (Nat.le_refl _)) ?_
  clear hK K
  refine wpR_one (i := 14) (by kernel_rfl) rfl rfl (fun K hK => ?_)
  go_simp
  refine hK _ _ (Below.refl _ _) ?_
  clear hK K
  refine wpR_one (i := 15) (by kernel_rfl) rfl rfl (fun K hK => ?_)
  go_simp
  refine hK _ _ (below_s1 (Nat.le_refl _)) ?_
  clear hK K
  refine wpR_one (i := 16) (by kernel_rfl) rfl rfl (fun K hK => ?_)
  go_simp
  refine hK _ _ (Below.refl _ _) ?_
  clear hK K
  refine wpR_one (i := 17) (by kernel_rfl) rfl rfl (fun K hK => ?_)
  go_simp
  refine hK _ _ (below_s1 (Nat.le_refl _)) ?_
  clear hK K
  refine wpR_one (i := 18) (by kernel_rfl) rfl rfl (fun K hK => ?_)
  go_simp
  refine hK _ _ (Below.refl _ _) ?_
  clear hK K
  refine wpR_one (i := 19) (by kernel_rfl) rfl rfl (fun K hK => ?_)
  go_simp
  refine hK _ _ (below_s1 (Nat.le_refl _)) ?_
  clear hK K
  refine wpR_one (i := 20) (by kernel_rfl) rfl rfl (fun K hK => ?_)
  go_simp
  refine hK _ _ (Below.refl _ _) ?_
  clear hK K
  refine wpR_one (i := 21) (by kernel_rfl) rfl rfl (fun K hK => ?_)
  go_simp
  refine hK _ _ (below_s1 (Nat.le_refl _)) ?_
  clear hK K
  refine wpR_one (i := 22) (by kernel_rfl) rfl rfl (fun K hK => ?_)
  go_simp
  refine hK _ _ (Below.refl _ _) ?_
  clear hK K
  refine wpR_one (i := 23) (by kernel_rfl) rfl rfl (fun K hK => ?_)
  go_simp
  refine hK _ _ (below_s1 (Nat.le_refl _)) ?_
  clear hK K
  refine wpR_end (by kernel_rfl) ?_
  go_upto_region 16 with fail
  have k3 := surf_set (k := 21) (v := .slice a n c) (surf_set (k := 15) (v := .int .i64 hole) (surf_set (k := 14) (v := .int .i64 semi) (surf_set (k := 13) (v := .string glass) (surf_set (k := 2) (v := .int .i64 conic) (surf_set (k := 1) (v := .int .i64 curv) (h3))))))
  simp only [List.set_cons_zero, List.set_cons_succ] at k3
  have i2 := (obj_other (obj_other (obj_other (obj_other (obj_other (obj_other h2 ⟨w.heap.size + 1 + 1, 1, none⟩ (by show w.heap.size + 1 + 1 ≠ w.heap.size + 1; omega) (.int .i64 curv)) ⟨w.heap.size + 1 + 1, 2, none⟩ (by show w.heap.size + 1 + 1 ≠ w.heap.size + 1; omega) (.int .i64 conic)) ⟨w.heap.size + 1 + 1, 13, none⟩ (by show w.heap.size + 1 + 1 ≠ w.heap.size + 1; omega) (.string glass)) ⟨w.heap.size + 1 + 1, 14, none⟩ (by show w.heap.size + 1 + 1 ≠ w.heap.size + 1; omega) (.int .i64 semi)) ⟨w.heap.size + 1 + 1, 15, none⟩ (by show w.heap.size + 1 + 1 ≠ w.heap.size + 1; omega) (.int .i64 hole)) ⟨w.heap.size + 1 + 1, 21, none⟩ (by show w.heap.size + 1 + 1 ≠ w.heap.size + 1; omega) (.slice a n c))
  refine step_world (fun wx => wx.heap[w.heap.size + 1]? = some (.cells #[.int .i64 0, .int .i64 0, .int .i64 0, .int .i64 0, .int .i64 0, .int .i64 0, .int .i64 0, .int .i64 0, .int .i64 0, .int .i64 0, .int .i64 0, .int .i64 0, .int .i64 0, .string emptyS, .int .i64 0, .int .i64 0, .int .i64 0, .int .i64 0, .int .i64 0, .int .i64 0, .int .i64 0, .slice none 0 0] 70 (0, 0)) ∧ SurfB wx (w.heap.size + 1 + 1) ⟨1, curv, conic, 0, 0, a0, a1, a2, a3, 0, 0, 0, thick, glass, semi, hole, 0, 0, 0, 0, 0⟩ a n c ∧ Below w.heap.size w wx) ⟨heap_dr i2, SurfB.of_dr k3, below_dr (below_s1' (below_s1' (below_s1' (below_s1' (below_s1' (below_s1' (hb) (by omega)) (by omega)) (by omega)) (by omega)) (by omega)) (by omega))⟩ ?_
  clear hb h2 h3 i2 k3 h1
  rintro w3 ⟨h2, h3, hb⟩
  go_wp2_with (first
    | (refine wpL_load_surf h3 rfl (.tmp 3) rfl rfl ?_)
    | (refine wpL_store_surf _ _ _ _ h2 rfl rfl (.tmp 2) (.tmp 86) rfl rfl rfl ?_; refine step_list (fun wx => SurfB wx (w.heap.size + 1) ⟨1, curv, conic, 0, 0, a0, a1, a2, a3, 0, 0, 0, thick, glass, semi, hole, 0, 0, 0, 0, 0⟩ a n c ∧ Below w.heap.size w wx) ⟨SurfB.stored h2 rfl _ _ _ _, Below.put22 hb (by omega) _ _ _ _⟩ ?_; rintro w9 ⟨h4, hb4⟩))
  exact bodyPost_ret (ret_surf rfl rfl h4) rfl ⟨by simp [keptS, *], hb4⟩

set_option maxRecDepth 100000 in
set_option maxHeartbeats 3200000 in
theorem kept_1b (s : Surf) (a : Option Addr) (n c : Nat) (w : World) (hk : s.kind = 1) (h0 : s.order ≠ 0) (hm : isMirror s.glass = true) : Calls Tryz.prog 202 #[.agg #[.int .i64 s.kind, .int .i64 s.curv, .int .i64 s.conic, .int .i64 s.curvX, .int .i64 s.conicX, .int .i64 s.a0, .int .i64 s.a1, .int .i64 s.a2, .int .i64 s.a3, .int .i64 s.p0, .int .i64 s.p1, .int .i64 s.order, .int .i64 s.thick, .string s.glass, .int .i64 s.semi, .int .i64 s.hole, .int .i64 s.dx, .int .i64 s.dy, .int .i64 s.ax, .int .i64 s.ay, .int .i64 s.az, .slice a n c]] w (RetSurf w (keptS s) a n c) := by
  obtain ⟨kind, curv, conic, curvX, conicX, a0, a1, a2, a3, p0, p1, order, thick, glass, semi, hole, dx, dy, ax, ay, az⟩ := s
  obtain rfl : kind = 1 := hk
  obtain ⟨e1, e2, e3⟩ := heap3 w (.cells #[.int .i64 1, .int .i64 curv, .int .i64 conic, .int .i64 curvX, .int .i64 conicX, .int .i64 a0, .int .i64 a1, .int .i64 a2, .int .i64 a3, .int .i64 p0, .int .i64 p1, .int .i64 order, .int .i64 thick, .string glass, .int .i64 semi, .int .i64 hole, .int .i64 dx, .int .i64 dy, .int .i64 ax, .int .i64 ay, .int .i64 az, .slice a n c] 70) (.cells #[.int .i64 0, .int .i64 0, .int .i64 0, .int .i64 0, .int .i64 0, .int .i64 0, .int .i64 0, .int .i64 0, .int .i64 0, .int .i64 0, .int .i64 0, .int .i64 0, .int .i64 0, .string emptyS, .int .i64 0, .int .i64 0, .int .i64 0, .int .i64 0, .int .i64 0, .int .i64 0, .int .i64 0, .slice none 0 0] 70) (.cells #[.int .i64 0, .int .i64 0, .int .i64 0, .int .i64 0, .int .i64 0, .int .i64 0, .int .i64 0, .int .i64 0, .int .i64 0, .int .i64 0, .int .i64 0, .int .i64 0, .int .i64 0, .string emptyS, .int .i64 0, .int .i64 0, .int .i64 0, .int .i64 0, .int .i64 0, .int .i64 0, .int .i64 0, .slice none 0 0] 70)
  have hb := belowT w (.cells #[.int .i64 1, .int .i64 curv, .int .i64 conic, .int .i64 curvX, .int .i64 conicX, .int .i64 a0, .int .i64 a1, .int .i64 a2, .int .i64 a3, .int .i64 p0, .int .i64 p1, .int .i64 order, .int .i64 thick, .string glass, .int .i64 semi, .int .i64 hole, .int .i64 dx, .int .i64 dy, .int .i64 ax, .int .i64 ay, .int .i64 az, .slice a n c] 70) (.cells #[.int .i64 0, .int .i64 0, .int .i64 0, .int .i64 0, .int .i64 0, .int .i64 0, .int .i64 0, .int .i64 0, .int .i64 0, .int .i64 0, .int .i64 0, .int .i64 0, .int .i64 0, .string emptyS, .int .i64 0, .int .i64 0, .int .i64 0, .int .i64 0, .int .i64 0, .int .i64 0, .int .i64 0, .slice none 0 0] 70) (.cells #[.int .i64 0, .int .i64 0, .int .i64 0, .int .i64 0, .int .i64 0, .int .i64 0, .int .i64 0, .int .i64 0, .int .i64 0, .int .i64 0, .int .i64 0, .int .i64 0, .int .i64 0, .string emptyS, .int .i64 0, .int .i64 0, .int .i64 0, .int .i64 0, .int .i64 0, .int .i64 0, .int .i64 0, .slice none 0 0] 70)
  have E1 := Lib.hid e1; have E2 := Lib.hid e2; have E3 := Lib.hid e3; have Hb := Lib.hid hb
  clear e1 e2 e3 hb
  have h0 : order ≠ 0 := h0
  have q0 : (order != 0) = true := by simpa using h0
  have qm : (!glass.toList == [77, 73, 82, 82, 79, 82]) = false := by rw [show (glass.toList == [77, 73, 82, 82, 79, 82]) = true from hm]; rfl
  have H0 := Lib.hid h0; have Hm := Lib.hid hm; clear h0 hm
  go_enter Tryz.func202, Tryz.ntmps202
  go_upto_region 4 with (refine wpL_store_surf (g := w.heap.size + 2) ⟨1, 0, 0, 0, 0, 0, 0, 0, 0, 0, 0, 0, thick, emptyS, 0, 0, 0, 0, 0, 0, 0⟩ none 0 0 E3.out rfl rfl (.tmp 3) (.tmp 8) rfl rfl rfl ?_; refine step_list (fun wx => SurfB wx w.heap.size ⟨1, curv, conic, curvX, conicX, a0, a1, a2, a3, p0, p1, order, thick, glass, semi, hole, dx, dy, ax, ay, az⟩ a n c ∧ wx.heap[w.heap.size + 1]? = some (.cells #[.int .i64 0, .int .i64 0, .int .i64 0, .int .i64 0, .int .i64 0, .int .i64 0, .int .i64 0, .int .i64 0, .int .i64 0, .int .i64 0, .int .i64 0, .int .i64 0, .int .i64 0, .string emptyS, .int .i64 0, .int .i64 0, .int .i64 0, .int .i64 0, .int .i64 0, .int .i64 0, .int .i64 0, .slice none 0 0] 70 (0, 0)) ∧ SurfB wx (w.heap.size + 1 + 1) ⟨1, 0, 0, 0, 0, 0, 0, 0, 0, 0, 0, 0, thick, emptyS, 0, 0, 0, 0, 0, 0, 0⟩ none 0 0 ∧ Below w.heap.size w wx) ⟨W22.other E1.out (by omega) _ _ _ _, W22.other E2.out (by omega) _ _ _ _, SurfB.stored E3.out rfl _ _ _ _, Below.put22 Hb.out (by omega) _ _ _ _⟩ ?_; rintro w1 ⟨h1, h2, h3, hb⟩; have q1 := SurfB.cells h1; obtain ⟨z0, z1, z2, z3, z4, z5, z6, z7, z8, z9, z10, z11, z12, z13, z14, z15, z16, z17, z18, z19, z20, z21⟩ := h3.cells; have f5 := SurfB.free h3 5; have f6 := SurfB.free h3 6; have f7 := SurfB.free h3 7; have f8 := SurfB.free h3 8)
  go_upto_region 5 with fail
  have k3 := surf_set (k := 8) (v := .int .i64 a3) (surf_set (k := 7) (v := .int .i64 a2) (surf_set (k := 6) (v := .int .i64 a1) (surf_set (k := 5) (v := .int .i64 a0) (h3))))
  simp only [List.set_cons_zero, List.set_cons_succ] at k3
  have i1 := (obj_other (obj_other (obj_other (obj_other h1 ⟨w.heap.size + 1 + 1, 5, none⟩ (by show w.heap.size + 1 + 1 ≠ w.heap.size; omega) (.int .i64 a0)) ⟨w.heap.size + 1 + 1, 6, none⟩ (by show w.heap.size + 1 + 1 ≠ w.heap.size; omega) (.int .i64 a1)) ⟨w.heap.size + 1 + 1, 7, none⟩ (by show w.heap.size + 1 + 1 ≠ w.heap.size; omega) (.int .i64 a2)) ⟨w.heap.size + 1 + 1, 8, none⟩ (by show w.heap.size + 1 + 1 ≠ w.heap.size; omega) (.int .i64 a3))
  have i2 := (obj_other (obj_other (obj_other (obj_other h2 ⟨w.heap.size + 1 + 1, 5, none⟩ (by show w.heap.size + 1 + 1 ≠ w.heap.size + 1; omega) (.int .i64 a0)) ⟨w.heap.size + 1 + 1, 6, none⟩ (by show w.heap.size + 1 + 1 ≠ w.heap.size + 1; omega) (.int .i64 a1)) ⟨w.heap.size + 1 + 1, 7, none⟩ (by show w.heap.size + 1 + 1 ≠ w.heap.size + 1; omega) (.int .i64 a2)) ⟨w.heap.size + 1 + 1, 8, none⟩ (by show w.heap.size + 1 + 1 ≠ w.heap.size + 1; omega) (.int .i64 a3))
  refine step_world (fun wx => SurfB wx w.heap.size ⟨1, curv, conic, curvX, conicX, a0, a1, a2, a3, p0, p1, order, thick, glass, semi, hole, dx, dy, ax, ay, az⟩ a n c ∧ wx.heap[w.heap.size + 1]? = some (.cells #[.int .i64 0, .int .i64 0, .int .i64 0, .int .i64 0, .int .i64 0, .int .i64 0, .int .i64 0, .int .i64 0, .int .i64 0, .int .i64 0, .int .i64 0, .int .i64 0, .int .i64 0, .string emptyS, .int .i64 0, .int .i64 0, .int .i64 0, .int .i64 0, .int .i64 0, .int .i64 0, .int .i64 0, .slice none 0 0] 70 (0, 0)) ∧ SurfB wx (w.heap.size + 1 + 1) ⟨1, 0, 0, 0, 0, a0, a1, a2, a3, 0, 0, 0, thick, emptyS, 0, 0, 0, 0, 0, 0, 0⟩ none 0 0 ∧ Below w.heap.size w wx) ⟨i1, i2, k3, below_s1' (below_s1' (below_s1' (below_s1' (hb) (by omega)) (by omega)) (by omega)) (by omega)⟩ ?_
  clear hb h2 h3 i2 k3 h1 i1 q1 f5 f6 f7 f8 z0 z1 z2 z3 z4 z5 z6 z7 z8 z9 z10 z11 z12 z13 z14 z15 z16 z17 z18 z19 z20 z21
  rintro w2 ⟨h1, h2, h3, hb⟩
  obtain ⟨q0, q1, q2, q3, q4, q5, q6, q7, q8, q9, q10, q11, q12, q13, q14, q15, q16, q17, q18, q19, q20, q21⟩ := h1.cells
  go_wp2_with fail
  clear q0 q1 q2 q3 q4 q5 q6 q7 q8 q9 q10 q11 q12 q13 q14 q15 q16 q17 q18 q19 q20 q21
  obtain ⟨z0, z1, z2, z3, z4, z5, z6, z7, z8, z9, z10, z11, z12, z13, z14, z15, z16, z17, z18, z19, z20, z21⟩ := h3.cells
  have f0 := SurfB.free h3 1
  have f1 := SurfB.free h3 2
  have f2 := SurfB.free h3 13
  have f3 := SurfB.free h3 14
  have f4 := SurfB.free h3 15
  have f5 := SurfB.free h3 21
  have hz := h3.lt
  have hl := h1.lt
  refine wp_region_reads (w.heap.size + 1 + 1) [0, 1, 2, 3, 4, 5, 6, 7, 8, 9, 10, 11, 12] 11 (by kernel_rfl) rfl (by kernel_rfl) (by kernel_rfl) (fun _ _ o _ _ h => by cases o <;> exact h) ?_
  iterate 13
    refine wpRd_yield (v := ?_) rfl (by rfl) ?_ ?_
    rotate_left
    · intro y hy
      obtain ⟨y0, y1, y2, y3, y4, y5, y6, y7, y8, y9, y10, y11, y12, y13, y14, y15, y16, y17, y18, y19, y20, y21⟩ := SurfB.cells (SurfB.go h1 (below_undrew (k := 1) hy) (by omega))
      go_simp
      with_reducible rfl
    try simp only [Act.put, List.setIfInBounds_toArray, List.set_cons_zero, List.set_cons_succ]
  refine wpRd_nil ?_
  refine wpR_one (i := 13) (by kernel_rfl) rfl rfl (fun K hK => ?_)
  go_simp
  refine hK _ _ (below_s1 (Nat.le_refl _)) ?_
  clear hK K
  refine wpR_one (i := 14) (by kernel_rfl) rfl rfl (fun K hK => ?_)
  go_simp
  refine hK _ _ (Below.refl _ _) ?_
  clear hK K
  refine wpR_one (i := 15) (by kernel_rfl) rfl rfl (fun K hK => ?_)
  go_simp
  refine hK _ _ (below_s1 (Nat.le_refl _)) ?_
  clear hK K
  refine wpR_one (i := 16) (by kernel_rfl) rfl rfl (fun K hK => ?_)
  go_simp
  refine hK _ _ (Below.refl _ _) ?_
  clear hK K
  refine wpR_one (i := 17) (by kernel_rfl) rfl rfl (fun K hK => ?_)
  go_simp
  refine hK _ _ (below_s1 (Nat.le_refl _)) ?_
  clear hK K
  refine wpR_one (i := 18) (by kernel_rfl) rfl rfl (fun K hK => ?_)
  go_simp
  refine hK _ _ (Below.refl _ _) ?_
  clear hK K
  refine wpR_one (i := 19) (by kernel_rfl) rfl rfl (fun K hK => ?_)
  go_simp
  refine hK _ _ (below_s1 (Nat.le_refl _)) ?_
  clear hK K
  refine wpR_one (i := 20) (by kernel_rfl) rfl rfl (fun K hK => ?_)
  go_simp
  refine hK _ _ (Below.refl _ _) ?_
  clear hK K
  refine wpR_one (i := 21) (by kernel_rfl) rfl rfl (fun K hK => ?_)
  go_simp
  refine hK _ _ (below_s1 (Nat.le_refl _)) ?_
  clear hK K
  refine wpR_one (i := 22) (by kernel_rfl) rfl rfl (fun K hK => ?_)
  go_simp
  refine hK _ _ (Below.refl _ _) ?_
  clear hK K
  refine wpR_one (i := 23) (by kernel_rfl) rfl rfl (fun K hK => ?_)
  go_simp
  refine hK _ _ (below_s1 (Nat.le_refl _)) ?_
  clear hK K
  refine wpR_end (by kernel_rfl) ?_
  go_upto_region 16 with fail
  have k3 := surf_set (k := 21) (v := .slice a n c) (surf_set (k := 15) (v := .int .i64 hole) (surf_set (k := 14) (v := .int .i64 semi) (surf_set (k := 13) (v := .string glass) (surf_set (k := 2) (v := .int .i64 conic) (surf_set (k := 1) (v := .int .i64 curv) (h3))))))
  simp only [List.set_cons_zero, List.set_cons_succ] at k3
  have i2 := (obj_other (obj_other (obj_other (obj_other (obj_other (obj_other h2 ⟨w.heap.size + 1 + 1, 1, none⟩ (by show w.heap.size + 1 + 1 ≠ w.heap.size + 1; omega) (.int .i64 curv)) ⟨w.heap.size + 1 + 1, 2, none⟩ (by show w.heap.size + 1 + 1 ≠ w.heap.size + 1; omega) (.int .i64 conic)) ⟨w.heap.size + 1 + 1, 13, none⟩ (by show w.heap.size + 1 + 1 ≠ w.heap.size + 1; omega) (.string glass)) ⟨w.heap.size + 1 + 1, 14, none⟩ (by show w.heap.size + 1 + 1 ≠ w.heap.size + 1; omega) (.int .i64 semi)) ⟨w.heap.size + 1 + 1, 15, none⟩ (by show w.heap.size + 1 + 1 ≠ w.heap.size + 1; omega) (.int .i64 hole)) ⟨w.heap.size + 1 + 1, 21, none⟩ (by show w.heap.size + 1 + 1 ≠ w.heap.size + 1; omega) (.slice a n c))
  refine step_world (fun wx => wx.heap[w.heap.size + 1]? = some (.cells #[.int .i64 0, .int .i64 0, .int .i64 0, .int .i64 0, .int .i64 0, .int .i64 0, .int .i64 0, .int .i64 0, .int .i64 0, .int .i64 0, .int .i64 0, .int .i64 0, .int .i64 0, .string emptyS, .int .i64 0, .int .i64 0, .int .i64 0, .int .i64 0, .int .i64 0, .int .i64 0, .int .i64 0, .slice none 0 0] 70 (0, 0)) ∧ SurfB wx (w.heap.size + 1 + 1) ⟨1, curv, conic, 0, 0, a0, a1, a2, a3, 0, 0, 0, thick, glass, semi, hole, 0, 0, 0, 0, 0⟩ a n c ∧ Below w.heap.size w wx) ⟨heap_dr i2, SurfB.of_dr k3, below_dr (below_s1' (below_s1' (below_s1' (below_s1' (below_s1' (below_s1' (hb) (by omega)) (by omega)) (by omega)) (by omega)) (by omega)) (by omega))⟩ ?_
  clear hb h2 h3 i2 k3 h1
  rintro w3 ⟨h2, h3, hb⟩
  go_wp2_with (first
    | (refine wpL_load_surf h3 rfl (.tmp 3) rfl rfl ?_)
    | (refine wpL_store_surf _ _ _ _ h2 rfl rfl (.tmp 2) (.tmp 86) rfl rfl rfl ?_; refine step_list (fun wx => SurfB wx (w.heap.size + 1) ⟨1, curv, conic, 0, 0, a0, a1, a2, a3, 0, 0, 0, thick, glass, semi, hole, 0, 0, 0, 0, 0⟩ a n c ∧ Below w.heap.size w wx) ⟨SurfB.stored h2 rfl _ _ _ _, Below.put22 hb (by omega) _ _ _ _⟩ ?_; rintro w9 ⟨h4, hb4⟩))
  exact bodyPost_ret (ret_surf rfl rfl h4) rfl ⟨by (have e0 := H0.out; have e1 : isMirror glass = _ := Hm.out; simp [keptS, e0, e1]), hb4⟩

set_option maxRecDepth 100000 in
set_option maxHeartbeats 3200000 in
theorem kept_1c (s : Surf) (a : Option Addr) (n c : Nat) (w : World) (hk : s.kind = 1) (h0 : s.order ≠ 0) (hm : isMirror s.glass = false) : Calls Tryz.prog 202 #[.agg #[.int .i64 s.kind, .int .i64 s.curv, .int .i64 s.conic, .int .i64 s.curvX, .int .i64 s.conicX, .int .i64 s.a0, .int .i64 s.a1, .int .i64 s.a2, .int .i64 s.a3, .int .i64 s.p0, .int .i64 s.p1, .int .i64 s.order, .int .i64 s.thick, .string s.glass, .int .i64 s.semi, .int .i64 s.hole, .int .i64 s.dx, .int .i64 s.dy, .int .i64 s.ax, .int .i64 s.ay, .int .i64 s.az, .slice a n c]] w (RetSurf w (keptS s) a n c) := by
  obtain ⟨kind, curv, conic, curvX, conicX, a0, a1, a2, a3, p0, p1, order, thick, glass, semi, hole, dx, dy, ax, ay, az⟩ := s
  obtain rfl : kind = 1 := hk
  obtain ⟨e1, e2, e3⟩ := heap3 w (.cells #[.int .i64 1, .int .i64 curv, .int .i64 conic, .int .i64 curvX, .int .i64 conicX, .int .i64 a0, .int .i64 a1, .int .i64 a2, .int .i64 a3, .int .i64 p0, .int .i64 p1, .int .i64 order, .int .i64 thick, .string glass, .int .i64 semi, .int .i64 hole, .int .i64 dx, .int .i64 dy, .int .i64 ax, .int .i64 ay, .int .i64 az, .slice a n c] 70) (.cells #[.int .i64 0, .int .i64 0, .int .i64 0, .int .i64 0, .int .i64 0, .int .i64 0, .int .i64 0, .int .i64 0, .int .i64 0, .int .i64 0, .int .i64 0, .int .i64 0, .int .i64 0, .string emptyS, .int .i64 0, .int .i64 0, .int .i64 0, .int .i64 0, .int .i64 0, .int .i64 0, .int .i64 0, .slice none 0 0] 70) (.cells #[.int .i64 0, .int .i64 0, .int .i64 0, .int .i64 0, .int .i64 0, .int .i64 0, .int .i64 0, .int .i64 0, .int .i64 0, .int .i64 0, .int .i64 0, .int .i64 0, .int .i64 0, .string emptyS, .int .i64 0, .int .i64 0, .int .i64 0, .int .i64 0, .int .i64 0, .int .i64 0, .int .i64 0, .slice none 0 0] 70)
  have hb := belowT w (.cells #[.int .i64 1, .int .i64 curv, .int .i64 conic, .int .i64 curvX, .int .i64 conicX, .int .i64 a0, .int .i64 a1, .int .i64 a2, .int .i64 a3, .int .i64 p0, .int .i64 p1, .int .i64 order, .int .i64 thick, .string glass, .int .i64 semi, .int .i64 hole, .int .i64 dx, .int .i64 dy, .int .i64 ax, .int .i64 ay, .int .i64 az, .slice a n c] 70) (.cells #[.int .i64 0, .int .i64 0, .int .i64 0, .int .i64 0, .int .i64 0, .int .i64 0, .int .i64 0, .int .i64 0, .int .i64 0, .int .i64 0, .int .i64 0, .int .i64 0, .int .i64 0, .string emptyS, .int .i64 0, .int .i64 0, .int .i64 0, .int .i64 0, .int .i64 0, .int .i64 0, .int .i64 0, .slice none 0 0] 70) (.cells #[.int .i64 0, .int .i64 0, .int .i64 0, .int .i64 0, .int .i64 0, .int .i64 0, .int .i64 0, .int .i64 0, .int .i64 0, .int .i64 0, .int .i64 0, .int .i64 0, .int .i64 0, .string emptyS, .int .i64 0, .int .i64 0, .int .i64 0, .int .i64 0, .int .i64 0, .int .i64 0, .int .i64 0, .slice none 0 0] 70)
  have E1 := Lib.hid e1; have E2 := Lib.hid e2; have E3 := Lib.hid e3; have Hb := Lib.hid hb
  clear e1 e2 e3 hb
  have h0 : order ≠ 0 := h0
  have q0 : (order != 0) = true := by simpa using h0
  have qm : (!glass.toList == [77, 73, 82, 82, 79, 82]) = true := by rw [show (glass.toList == [77, 73, 82, 82, 79, 82]) = false from hm]; rfl
  have H0 := Lib.hid h0; have Hm := Lib.hid hm; clear h0 hm
  go_enter Tryz.func202, Tryz.ntmps202
  go_upto_region 4 with (refine wpL_store_surf (g := w.heap.size + 2) ⟨1, 0, 0, 0, 0, 0, 0, 0, 0, 0, 0, 0, thick, emptyS, 0, 0, 0, 0, 0, 0, 0⟩ none 0 0 E3.out rfl rfl (.tmp 3) (.tmp 8) rfl rfl rfl ?_; refine step_list (fun wx => SurfB wx w.heap.size ⟨1, curv, conic, curvX, conicX, a0, a1, a2, a3, p0, p1, order, thick, glass, semi, hole, dx, dy, ax, ay, az⟩ a n c ∧ wx.heap[w.heap.size + 1]? = some (.cells #[.int .i64 0, .int .i64 0, .int .i64 0, .int .i64 0, .int .i64 0, .int .i64 0, .int .i64 0, .int .i64 0, .int .i64 0, .int .i64 0, .int .i64 0, .int .i64 0, .int .i64 0, .string emptyS, .int .i64 0, .int .i64 0, .int .i64 0, .int .i64 0, .int .i64 0, .int .i64 0, .int .i64 0, .slice none 0 0] 70 (0, 0)) ∧ SurfB wx (w.heap.size + 1 + 1) ⟨1, 0, 0, 0, 0, 0, 0, 0, 0, 0, 0, 0, thick, emptyS, 0, 0, 0, 0, 0, 0, 0⟩ none 0 0 ∧ Below w.heap.size w wx) ⟨W22.other E1.out (by omega) _ _ _ _, W22.other E2.out (by omega) _ _ _ _, SurfB.stored E3.out rfl _ _ _ _, Below.put22 Hb.out (by omega) _ _ _ _⟩ ?_; rintro w1 ⟨h1, h2, h3, hb⟩; have q1 := SurfB.cells h1; obtain ⟨z0, z1, z2, z3, z4, z5, z6, z7, z8, z9, z10, z11, z12, z13, z14, z15, z16, z17, z18, z19, z20, z21⟩ := h3.cells; have f5 := SurfB.free h3 5; have f6 := SurfB.free h3 6; have f7 := SurfB.free h3 7; have f8 := SurfB.free h3 8)
  go_upto_region 5 with fail
  have k3 := surf_set (k := 8) (v := .int .i64 a3) (surf_set (k := 7) (v := .int .i64 a2) (surf_set (k := 6) (v := .int .i64 a1) (surf_set (k := 5) (v := .int .i64 a0) (h3))))
  simp only [List.set_cons_zero, List.set_cons_succ] at k3
  have i1 := (obj_other (obj_other (obj_other (obj_other h1 ⟨w.heap.size + 1 + 1, 5, none⟩ (by show w.heap.size + 1 + 1 ≠ w.heap.size; omega) (.int .i64 a0)) ⟨w.heap.size + 1 + 1, 6, none⟩ (by show w.heap.size + 1 + 1 ≠ w.heap.size; omega) (.int .i64 a1)) ⟨w.heap.size + 1 + 1, 7, none⟩ (by show w.heap.size + 1 + 1 ≠ w.heap.size; omega) (.int .i64 a2)) ⟨w.heap.size + 1 + 1, 8, none⟩ (by show w.heap.size + 1 + 1 ≠ w.heap.size; omega) (.int .i64 a3))
  have i2 := (obj_other (obj_other (obj_other (obj_other h2 ⟨w.heap.size + 1 + 1, 5, none⟩ (by show w.heap.size + 1 + 1 ≠ w.heap.size + 1; omega) (.int .i64 a0)) ⟨w.heap.size + 1 + 1, 6, none⟩ (by show w.heap.size + 1 + 1 ≠ w.heap.size + 1; omega) (.int .i64 a1)) ⟨w.heap.size + 1 + 1, 7, none⟩ (by show w.heap.size + 1 + 1 ≠ w.heap.size + 1; omega) (.int .i64 a2)) ⟨w.heap.size + 1 + 1, 8, none⟩ (by show w.heap.size + 1 + 1 ≠ w.heap.size + 1; omega) (.int .i64 a3))
  refine step_world (fun wx => SurfB wx w.heap.size ⟨1, curv, conic, curvX, conicX, a0, a1, a2, a3, p0, p1, order, thick, glass, semi, hole, dx, dy, ax, ay, az⟩ a n c ∧ wx.heap[w.heap.size + 1]? = some (.cells #[.int .i64 0, .int .i64 0, .int .i64 0, .int .i64 0, .int .i64 0, .int .i64 0, .int .i64 0, .int .i64 0, .int .i64 0, .int .i64 0, .int .i64 0, .int .i64 0, .int .i64 0, .string emptyS, .int .i64 0, .int .i64 0, .int .i64 0, .int .i64 0, .int .i64 0, .int .i64 0, .int .i64 0, .slice none 0 0] 70 (0, 0)) ∧ SurfB wx (w.heap.size + 1 + 1) ⟨1, 0, 0, 0, 0, a0, a1, a2, a3, 0, 0, 0, thick, emptyS, 0, 0, 0, 0, 0, 0, 0⟩ none 0 0 ∧ Below w.heap.size w wx) ⟨i1, i2, k3, below_s1' (below_s1' (below_s1' (below_s1' (hb) (by omega)) (by omega)) (by omega)) (by omega)⟩ ?_
  clear hb h2 h3 i2 k3 h1 i1 q1 f5 f6 f7 f8 z0 z1 z2 z3 z4 z5 z6 z7 z8 z9 z10 z11 z12 z13 z14 z15 z16 z17 z18 z19 z20 z21
  rintro w2 ⟨h1, h2, h3, hb⟩
  obtain ⟨q0, q1, q2, q3, q4, q5, q6, q7, q8, q9, q10, q11, q12, q13, q14, q15, q16, q17, q18, q19, q20, q21⟩ := h1.cells
  go_wp2_with fail
  clear q0 q1 q2 q3 q4 q5 q6 q7 q8 q9 q10 q11 q12 q13 q14 q15 q16 q17 q18 q19 q20 q21
  obtain ⟨z0, z1, z2, z3, z4, z5, z6, z7, z8, z9, z10, z11, z12, z13, z14, z15, z16, z17, z18, z19, z20, z21⟩ := h3.cells
  have f0 := SurfB.free h3 11
  have f1 := SurfB.free h3 9
  have f2 := SurfB.free h3 10
  have hz := h3.lt
  have hl := h1.lt
  refine wp_region_reads (w.heap.size + 1 + 1) [0, 1, 2, 3, 4] 3 (by kernel_rfl) rfl (by kernel_rfl) (by kernel_rfl) (fun _ _ o _ _ h => by cases o <;> exact h) ?_
  iterate 5
    refine wpRd_yield (v := ?_) rfl (by rfl) ?_ ?_
    rotate_left
    · intro y hy
      obtain ⟨y0, y1, y2, y3, y4, y5, y6, y7, y8, y9, y10, y11, y12, y13, y14, y15, y16, y17, y18, y19, y20, y21⟩ := SurfB.cells (SurfB.go h1 (below_undrew (k := 1) hy) (by omega))
      go_simp
      with_reducible rfl
    try simp only [Act.put, List.setIfInBounds_toArray, List.set_cons_zero, List.set_cons_succ]
  refine wpRd_nil ?_
  refine wpR_one (i := 5) (by kernel_rfl) rfl rfl (fun K hK => ?_)
  go_simp
  refine hK _ _ (below_s1 (Nat.le_refl _)) ?_
  clear hK K
  refine wpR_one (i := 6) (by kernel_rfl) rfl rfl (fun K hK => ?_)
  go_simp
  refine hK _ _ (Below.refl _ _) ?_
  clear hK K
  refine wpR_one (i := 7) (by kernel_rfl) rfl rfl (fun K hK => ?_)
  go_simp
  refine hK _ _ (below_s2 (Nat.le_refl _)) ?_
  clear hK K
  refine wpR_end (by kernel_rfl) ?_
  go_upto_region 15 with fail
  have k3 := surf_set (k := 10) (v := .int .i64 p1) (surf_set (k := 9) (v := .int .i64 p0) (surf_set (k := 11) (v := .int .i64 order) (h3)))
  simp only [List.set_cons_zero, List.set_cons_succ] at k3
  have i1 := (obj_other (obj_other (obj_other h1 ⟨w.heap.size + 1 + 1, 11, none⟩ (by show w.heap.size + 1 + 1 ≠ w.heap.size; omega) (.int .i64 order)) ⟨w.heap.size + 1 + 1, 9, none⟩ (by show w.heap.size + 1 + 1 ≠ w.heap.size; omega) (.int .i64 p0)) ⟨w.heap.size + 1 + 1, 10, none⟩ (by show w.heap.size + 1 + 1 ≠ w.heap.size; omega) (.int .i64 p1))
  have i2 := (obj_other (obj_other (obj_other h2 ⟨w.heap.size + 1 + 1, 11, none⟩ (by show w.heap.size + 1 + 1 ≠ w.heap.size + 1; omega) (.int .i64 order)) ⟨w.heap.size + 1 + 1, 9, none⟩ (by show w.heap.size + 1 + 1 ≠ w.heap.size + 1; omega) (.int .i64 p0)) ⟨w.heap.size + 1 + 1, 10, none⟩ (by show w.heap.size + 1 + 1 ≠ w.heap.size + 1; omega) (.int .i64 p1))
  refine step_world (fun wx => SurfB wx w.heap.size ⟨1, curv, conic, curvX, conicX, a0, a1, a2, a3, p0, p1, order, thick, glass, semi, hole, dx, dy, ax, ay, az⟩ a n c ∧ wx.heap[w.heap.size + 1]? = some (.cells #[.int .i64 0, .int .i64 0, .int .i64 0, .int .i64 0, .int .i64 0, .int .i64 0, .int .i64 0, .int .i64 0, .int .i64 0, .int .i64 0, .int .i64 0, .int .i64 0, .int .i64 0, .string emptyS, .int .i64 0, .int .i64 0, .int .i64 0, .int .i64 0, .int .i64 0, .int .i64 0, .int .i64 0, .slice none 0 0] 70 (0, 0)) ∧ SurfB wx (w.heap.size + 1 + 1) ⟨1, 0, 0, 0, 0, a0, a1, a2, a3, p0, p1, order, thick, emptyS, 0, 0, 0, 0, 0, 0, 0⟩ none 0 0 ∧ Below w.heap.size w wx) ⟨heap_dr i1, heap_dr i2, SurfB.of_dr k3, below_dr (below_s1' (below_s1' (below_s1' (hb) (by omega)) (by omega)) (by omega))⟩ ?_
  clear hb h2 h3 i2 k3 h1 i1
  rintro w4 ⟨h1, h2, h3, hb⟩
  obtain ⟨z0, z1, z2, z3, z4, z5, z6, z7, z8, z9, z10, z11, z12, z13, z14, z15, z16, z17, z18, z19, z20, z21⟩ := h3.cells
  have f0 := SurfB.free h3 1
  have f1 := SurfB.free h3 2
  have f2 := SurfB.free h3 13
  have f3 := SurfB.free h3 14
  have f4 := SurfB.free h3 15
  have f5 := SurfB.free h3 21
  have hz := h3.lt
  have hl := h1.lt
  refine wp_region_reads (w.heap.size + 1 + 1) [0, 1, 2, 3, 4, 5, 6, 7, 8, 9, 10, 11, 12] 11 (by kernel_rfl) rfl (by kernel_rfl) (by kernel_rfl) (fun _ _ o _ _ h => by cases o <;> exact h) ?_
  iterate 13
    refine wpRd_yield (v := ?_) rfl (by rfl) ?_ ?_
    rotate_left
    · intro y hy
      obtain ⟨y0, y1, y2, y3, y4, y5, y6, y7, y8, y9, y10, y11, y12, y13, y14, y15, y16, y17, y18, y19, y20, y21⟩ := SurfB.cells (SurfB.go h1 (below_undrew (k := 1) hy) (by omega))
      go_simp
      with_reducible rfl
    try simp only [Act.put, List.setIfInBounds_toArray, List.set_cons_zero, List.set_cons_succ]
  refine wpRd_nil ?_
  refine wpR_one (i := 13) (by kernel_rfl) rfl rfl (fun K hK => ?_)
  go_simp
  refine hK _ _ (below_s1 (Nat.le_refl _)) ?_
  clear hK K
  refine wpR_one (i := 14) (by kernel_rfl) rfl rfl (fun K hK => ?_)
  go_simp
  refine hK _ _ (Below.refl _ _) ?_
  clear hK K
  refine wpR_one (i := 15) (by kernel_rfl) rfl rfl (fun K hK => ?_)
  go_simp
  refine hK _ _ (below_s1 (Nat.le_refl _)) ?_
  clear hK K
  refine wpR_one (i := 16) (by kernel_rfl) rfl rfl (fun K hK => ?_)
  go_simp
  refine hK _ _ (Below.refl _ _) ?_
  clear hK K
  refine wpR_one (i := 17) (by kernel_rfl) rfl rfl (fun K hK => ?_)
  go_simp
  refine hK _ _ (below_s1 (Nat.le_refl _)) ?_
  clear hK K
  refine wpR_one (i := 18) (by kernel_rfl) rfl rfl (fun K hK => ?_)
  go_simp
  refine hK _ _ (Below.refl _ _) ?_
  clear hK K
  refine wpR_one (i := 19) (by kernel_rfl) rfl rfl (fun K hK => ?_)
  go_simp
  refine hK _ _ (below_s1 (Nat.le_refl _)) ?_
  clear hK K
  refine wpR_one (i := 20) (by kernel_rfl) rfl rfl (fun K hK => ?_)
  go_simp
  refine hK _ _ (Below.refl _ _) ?_
  clear hK K
  refine wpR_one (i := 21) (by kernel_rfl) rfl rfl (fun K hK => ?_)
  go_simp
  refine hK _ _ (below_s1 (Nat.le_refl _)) ?_
  clear hK K
  refine wpR_one (i := 22) (by kernel_rfl) rfl rfl (fun K hK => ?_)
  go_simp
  refine hK _ _ (Below.refl _ _) ?_
  clear hK K
  refine wpR_one (i := 23) (by kernel_rfl) rfl rfl (fun K hK => ?_)
  go_simp
  refine hK _ _ (below_s1 (Nat.le_refl _)) ?_
  clear hK K
  refine wpR_end (by kernel_rfl) ?_
  go_upto_region 16 with fail
  have k3 := surf_set (k := 21) (v := .slice a n c) (surf_set (k := 15) (v := .int .i64 hole) (surf_set (k := 14) (v := .int .i64 semi) (surf_set (k := 13) (v := .string glass) (surf_set (k := 2) (v := .int .i64 conic) (surf_set (k := 1) (v := .int .i64 curv) (h3))))))
  simp only [List.set_cons_zero, List.set_cons_succ] at k3
  have i2 := (obj_other (obj_other (obj_other (obj_other (obj_other (obj_other h2 ⟨w.heap.size + 1 + 1, 1, none⟩ (by show w.heap.size + 1 + 1 ≠ w.heap.size + 1; omega) (.int .i64 curv)) ⟨w.heap.size + 1 + 1, 2, none⟩ (by show w.heap.size + 1 + 1 ≠ w.heap.size + 1; omega) (.int .i64 conic)) ⟨w.heap.size + 1 + 1, 13, none⟩ (by show w.heap.size + 1 + 1 ≠ w.heap.size + 1; omega) (.string glass)) ⟨w.heap.size + 1 + 1, 14, none⟩ (by show w.heap.size + 1 + 1 ≠ w.heap.size + 1; omega) (.int .i64 semi)) ⟨w.heap.size + 1 + 1, 15, none⟩ (by show w.heap.size + 1 + 1 ≠ w.heap.size + 1; omega) (.int .i64 hole)) ⟨w.heap.size + 1 + 1, 21, none⟩ (by show w.heap.size + 1 + 1 ≠ w.heap.size + 1; omega) (.slice a n c))
  refine step_world (fun wx => wx.heap[w.heap.size + 1]? = some (.cells #[.int .i64 0, .int .i64 0, .int .i64 0, .int .i64 0, .int .i64 0, .int .i64 0, .int .i64 0, .int .i64 0, .int .i64 0, .int .i64 0, .int .i64 0, .int .i64 0, .int .i64 0, .string emptyS, .int .i64 0, .int .i64 0, .int .i64 0, .int .i64 0, .int .i64 0, .int .i64 0, .int .i64 0, .slice none 0 0] 70 (0, 0)) ∧ SurfB wx (w.heap.size + 1 + 1) ⟨1, curv, conic, 0, 0, a0, a1, a2, a3, p0, p1, order, thick, glass, semi, hole, 0, 0, 0, 0, 0⟩ a n c ∧ Below w.heap.size w wx) ⟨heap_dr i2, SurfB.of_dr k3, below_dr (below_s1' (below_s1' (below_s1' (below_s1' (below_s1' (below_s1' (hb) (by omega)) (by omega)) (by omega)) (by omega)) (by omega)) (by omega))⟩ ?_
  clear hb h2 h3 i2 k3 h1
  rintro w3 ⟨h2, h3, hb⟩
  go_wp2_with (first
    | (refine wpL_load_surf h3 rfl (.tmp 3) rfl rfl ?_)
    | (refine wpL_store_surf _ _ _ _ h2 rfl rfl (.tmp 2) (.tmp 86) rfl rfl rfl ?_; refine step_list (fun wx => SurfB wx (w.heap.size + 1) ⟨1, curv, conic, 0, 0, a0, a1, a2, a3, p0, p1, order, thick, glass, semi, hole, 0, 0, 0, 0, 0⟩ a n c ∧ Below w.heap.size w wx) ⟨SurfB.stored h2 rfl _ _ _ _, Below.put22 hb (by omega) _ _ _ _⟩ ?_; rintro w9 ⟨h4, hb4⟩))
  exact bodyPost_ret (ret_surf rfl rfl h4) rfl ⟨by (have e0 := H0.out; have e1 : isMirror glass = _ := Hm.out; simp [keptS, e0, e1]), hb4⟩


end Go.Proofs.YtgohdcccfkjooaaGreatDoor
