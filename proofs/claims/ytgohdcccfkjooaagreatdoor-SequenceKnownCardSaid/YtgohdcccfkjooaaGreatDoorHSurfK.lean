/-
  DERIVED. The walks of package surface: kept, kind by kind (printed by wip/mkKept.py).
-/
import Derived.Test.YtgohdcccfkjooaaGreatDoorHSurfE
namespace Go.Proofs.YtgohdcccfkjooaaGreatDoor
open Go.RowKit

set_option maxRecDepth 100000 in
set_option maxHeartbeats 3200000 in
theorem kept_2 (s : Surf) (a : Option Addr) (n c : Nat) (w : World) (hk : s.kind = 2) : Calls Tryz.prog 202 #[.agg #[.int .i64 s.kind, .int .i64 s.curv, .int .i64 s.conic, .int .i64 s.curvX, .int .i64 s.conicX, .int .i64 s.a0, .int .i64 s.a1, .int .i64 s.a2, .int .i64 s.a3, .int .i64 s.p0, .int .i64 s.p1, .int .i64 s.order, .int .i64 s.thick, .string s.glass, .int .i64 s.semi, .int .i64 s.hole, .int .i64 s.dx, .int .i64 s.dy, .int .i64 s.ax, .int .i64 s.ay, .int .i64 s.az, .slice a n c]] w (RetSurf w (keptS s) a n c) := by
  obtain ⟨kind, curv, conic, curvX, conicX, a0, a1, a2, a3, p0, p1, order, thick, glass, semi, hole, dx, dy, ax, ay, az⟩ := s
  obtain rfl : kind = 2 := hk
  obtain ⟨e1, e2, e3⟩ := heap3 w (.cells #[.int .i64 2, .int .i64 curv, .int .i64 conic, .int .i64 curvX, .int .i64 conicX, .int .i64 a0, .int .i64 a1, .int .i64 a2, .int .i64 a3, .int .i64 p0, .int .i64 p1, .int .i64 order, .int .i64 thick, .string glass, .int .i64 semi, .int .i64 hole, .int .i64 dx, .int .i64 dy, .int .i64 ax, .int .i64 ay, .int .i64 az, .slice a n c] 70) (.cells #[.int .i64 0, .int .i64 0, .int .i64 0, .int .i64 0, .int .i64 0, .int .i64 0, .int .i64 0, .int .i64 0, .int .i64 0, .int .i64 0, .int .i64 0, .int .i64 0, .int .i64 0, .string emptyS, .int .i64 0, .int .i64 0, .int .i64 0, .int .i64 0, .int .i64 0, .int .i64 0, .int .i64 0, .slice none 0 0] 70) (.cells #[.int .i64 0, .int .i64 0, .int .i64 0, .int .i64 0, .int .i64 0, .int .i64 0, .int .i64 0, .int .i64 0, .int .i64 0, .int .i64 0, .int .i64 0, .int .i64 0, .int .i64 0, .string emptyS, .int .i64 0, .int .i64 0, .int .i64 0, .int .i64 0, .int .i64 0, .int .i64 0, .int .i64 0, .slice none 0 0] 70)
  have hb := belowT w (.cells #[.int .i64 2, .int .i64 curv, .int .i64 conic, .int .i64 curvX, .int .i64 conicX, .int .i64 a0, .int .i64 a1, .int .i64 a2, .int .i64 a3, .int .i64 p0, .int .i64 p1, .int .i64 order, .int .i64 thick, .string glass, .int .i64 semi, .int .i64 hole, .int .i64 dx, .int .i64 dy, .int .i64 ax, .int .i64 ay, .int .i64 az, .slice a n c] 70) (.cells #[.int .i64 0, .int .i64 0, .int .i64 0, .int .i64 0, .int .i64 0, .int .i64 0, .int .i64 0, .int .i64 0, .int .i64 0, .int .i64 0, .int .i64 0, .int .i64 0, .int .i64 0, .string emptyS, .int .i64 0, .int .i64 0, .int .i64 0, .int .i64 0, .int .i64 0, .int .i64 0, .int .i64 0, .slice none 0 0] 70) (.cells #[.int .i64 0, .int .i64 0, .int .i64 0, .int .i64 0, .int .i64 0, .int .i64 0, .int .i64 0, .int .i64 0, .int .i64 0, .int .i64 0, .int .i64 0, .int .i64 0, .int .i64 0, .string emptyS, .int .i64 0, .int .i64 0, .int .i64 0, .int .i64 0, .int .i64 0, .int .i64 0, .int .i64 0, .slice none 0 0] 70)
  have E1 := Lib.hid e1; have E2 := Lib.hid e2; have E3 := Lib.hid e3; have Hb := Lib.hid hb
  clear e1 e2 e3 hb
  go_enter Tryz.func202, Tryz.ntmps202
  go_wp2_with (refine wpL_store_surf (g := w.heap.size + 2) ⟨2, 0, 0, 0, 0, 0, 0, 0, 0, 0, 0, 0, thick, emptyS, 0, 0, 0, 0, 0, 0, 0⟩ none 0 0 E3.out rfl rfl (.tmp 3) (.tmp 8) rfl rfl rfl ?_; refine step_list (fun wx => SurfB wx w.heap.size ⟨2, curv, conic, curvX, conicX, a0, a1, a2, a3, p0, p1, order, thick, glass, semi, hole, dx, dy, ax, ay, az⟩ a n c ∧ wx.heap[w.heap.size + 1]? = some (.cells #[.int .i64 0, .int .i64 0, .int .i64 0, .int .i64 0, .int .i64 0, .int .i64 0, .int .i64 0, .int .i64 0, .int .i64 0, .int .i64 0, .int .i64 0, .int .i64 0, .int .i64 0, .string emptyS, .int .i64 0, .int .i64 0, .int .i64 0, .int .i64 0, .int .i64 0, .int .i64 0, .int .i64 0, .slice none 0 0] 70 (0, 0)) ∧ SurfB wx (w.heap.size + 1 + 1) ⟨2, 0, 0, 0, 0, 0, 0, 0, 0, 0, 0, 0, thick, emptyS, 0, 0, 0, 0, 0, 0, 0⟩ none 0 0 ∧ Below w.heap.size w wx) ⟨W22.other E1.out (by omega) _ _ _ _, W22.other E2.out (by omega) _ _ _ _, SurfB.stored E3.out rfl _ _ _ _, Below.put22 Hb.out (by omega) _ _ _ _⟩ ?_; rintro w1 ⟨h1, h2, h3, hb⟩; have q1 := SurfB.cells h1)
  clear q1
  obtain ⟨z0, z1, z2, z3, z4, z5, z6, z7, z8, z9, z10, z11, z12, z13, z14, z15, z16, z17, z18, z19, z20, z21⟩ := h3.cells
  have f0 := SurfB.free h3 3
  have f1 := SurfB.free h3 4
  have hz := h3.lt
  have hl := h1.lt
  refine wp_region_reads (w.heap.size + 1 + 1) [0, 1, 2, 3, 4] 3 (by kernel_rfl) rfl (by kernel_rfl) (by kernel_rfl) (fun _ _ o _ _ h => by cases o <;> exact h) ?_
  iterate 5
    refine wpRd_yield (v := ?_) rfl (by rfl) ?_ ?_
    rotate_left
    · intro y hy
      obtain ⟨y0, y1, y2, y3, y4, y5, y6, y7, y8, y9, y10, y11, y12, y13, y14, y15, y16, y17, y18, y19, y20, y21⟩ := SurfB.cells (SurfB.go h1 (below_undrew (k := 1) hy) (by omega))
      go_simp
      with_reducible rfl
    try simp only [Act.put, List.setIfInBounds_toArray, List.set_cons_zero, List.set_cons_succ]
  refine wpRd_nil ?_
  refine wpR_one (i := 5) (by kernel_rfl) rfl rfl (fun K hK => ?_)
  go_simp
  refine hK _ _ (below_s1 (Nat.le_refl _)) ?_
  clear hK K
  refine wpR_one (i := 6) (by kernel_rfl) rfl rfl (fun K hK => ?_)
  go_simp
  refine hK _ _ (Below.refl _ _) ?_
  clear hK K
  refine wpR_one (i := 7) (by kernel_rfl) rfl rfl (fun K hK => ?_)
  go_simp
  refine hK _ _ (below_s1 (Nat.le_refl _)) ?_
  clear hK K
  refine wpR_end (by kernel_rfl) ?_
  go_upto_region 15 with fail
  have k3 := surf_set (k := 4) (v := .int .i64 conicX) (surf_set (k := 3) (v := .int .i64 curvX) (h3))
  simp only [List.set_cons_zero, List.set_cons_succ] at k3
  have i1 := (obj_other (obj_other h1 ⟨w.heap.size + 1 + 1, 3, none⟩ (by show w.heap.size + 1 + 1 ≠ w.heap.size; omega) (.int .i64 curvX)) ⟨w.heap.size + 1 + 1, 4, none⟩ (by show w.heap.size + 1 + 1 ≠ w.heap.size; omega) (.int .i64 conicX))
  have i2 := (obj_other (obj_other h2 ⟨w.heap.size + 1 + 1, 3, none⟩ (by show w.heap.size + 1 + 1 ≠ w.heap.size + 1; omega) (.int .i64 curvX)) ⟨w.heap.size + 1 + 1, 4, none⟩ (by show w.heap.size + 1 + 1 ≠ w.heap.size + 1; omega) (.int .i64 conicX))
  refine step_world (fun wx => SurfB wx w.heap.size ⟨2, curv, conic, curvX, conicX, a0, a1, a2, a3, p0, p1, order, thick, glass, semi, hole, dx, dy, ax, ay, az⟩ a n c ∧ wx.heap[w.heap.size + 1]? = some (.cells #[.int .i64 0, .int .i64 0, .int .i64 0, .int .i64 0, .int .i64 0, .int .i64 0, .int .i64 0, .int .i64 0, .int .i64 0, .int .i64 0, .int .i64 0, .int .i64 0, .int .i64 0, .string emptyS, .int .i64 0, .int .i64 0, .int .i64 0, .int .i64 0, .int .i64 0, .int .i64 0, .int .i64 0, .slice none 0 0] 70 (0, 0)) ∧ SurfB wx (w.heap.size + 1 + 1) ⟨2, 0, 0, curvX, conicX, 0, 0, 0, 0, 0, 0, 0, thick, emptyS, 0, 0, 0, 0, 0, 0, 0⟩ none 0 0 ∧ Below w.heap.size w wx) ⟨heap_dr i1, heap_dr i2, SurfB.of_dr k3, below_dr (below_s1' (below_s1' (hb) (by omega)) (by omega))⟩ ?_
  clear hb h2 h3 i2 k3 h1 i1
  rintro w2 ⟨h1, h2, h3, hb⟩
  obtain ⟨z0, z1, z2, z3, z4, z5, z6, z7, z8, z9, z10, z11, z12, z13, z14, z15, z16, z17, z18, z19, z20, z21⟩ := h3.cells
  have f0 := SurfB.free h3 1
  have f1 := SurfB.free h3 2
  have f2 := SurfB.free h3 13
  have f3 := SurfB.free h3 14
  have f4 := SurfB.free h3 15
  have f5 := SurfB.free h3 21
  have hz := h3.lt
  have hl := h1.lt
  refine wp_region_reads (w.heap.size + 1 + 1) [0, 1, 2, 3, 4, 5, 6, 7, 8, 9, 10, 11, 12] 11 (by kernel_rfl) rfl (by kernel_rfl) (by kernel_rfl) (fun _ _ o _ _ h => by cases o <;> exact h) ?_
  iterate 13
    refine wpRd_yield (v := ?_) rfl (by rfl) ?_ ?_
    rotate_left
    · intro y hy
      obtain ⟨y0, y1, y2, y3, y4, y5, y6, y7, y8, y9, y10, y11, y12, y13, y14, y15, y16, y17, y18, y19, y20, y21⟩ := SurfB.cells (SurfB.go h1 (below_undrew (k := 1) hy) (by omega))
      go_simp
      with_reducible rfl
    try simp only [Act.put, List.setIfInBounds_toArray, List.set_cons_zero, List.set_cons_succ]
  refine wpRd_nil ?_
  refine wpR_one (i := 13) (by kernel_rfl) rfl rfl (fun K hK => ?_)
  go_simp
  refine hK _ _ (below_s1 (Nat.le_refl _)) ?_
  clear hK K
  refine wpR_one (i := 14) (by kernel_rfl) rfl rfl (fun K hK => ?_)
  go_simp
  refine hK _ _ (Below.refl _ _) ?_
  clear hK K
  refine wpR_one (i := 15) (by kernel_rfl) rfl rfl (fun K hK => ?_)
  go_simp
  refine hK _ _ (below_s1 (Nat.le_refl _)) ?_
  clear hK K
  refine wpR_one (i := 16) (by kernel_rfl) rfl rfl (fun K hK => ?_)
  go_simp
  refine hK _ _ (Below.refl _ _) ?_
  clear hK K
  refine wpR_one (i := 17) (by kernel_rfl) rfl rfl (fun K hK => ?_)
  go_simp
  refine hK _ _ (below_s1 (Nat.le_refl _)) ?_
  clear hK K
  refine wpR_one (i := 18) (by kernel_rfl) rfl rfl (fun K hK => ?_)
  go_simp
  refine hK _ _ (Below.refl _ _) ?_
  clear hK K
  refine wpR_one (i := 19) (by kernel_rfl) rfl rfl (fun K hK => ?_)
  go_simp
  refine hK _ _ (below_s1 (Nat.le_refl _)) ?_
  clear hK K
  refine wpR_one (i := 20) (by kernel_rfl) rfl rfl (fun K hK => ?_)
  go_simp
  refine hK _ _ (Below.refl _ _) ?_
  clear hK K
  refine wpR_one (i := 21) (by kernel_rfl) rfl rfl (fun K hK => ?_)
  go_simp
  refine hK _ _ (below_s1 (Nat.le_refl _)) ?_
  clear hK K
  refine wpR_one (i := 22) (by kernel_rfl) rfl rfl (fun K hK => ?_)
  go_simp
  refine hK _ _ (Below.refl _ _) ?_
  clear hK K
  refine wpR_one (i := 23) (by kernel_rfl) rfl rfl (fun K hK => ?_)
  go_simp
  refine hK _ _ (below_s1 (Nat.le_refl _)) ?_
  clear hK K
  refine wpR_end (by kernel_rfl) ?_
  go_upto_region 16 with fail
  have k3 := surf_set (k := 21) (v := .slice a n c) (surf_set (k := 15) (v := .int .i64 hole) (surf_set (k := 14) (v := .int .i64 semi) (surf_set (k := 13) (v := .string glass) (surf_set (k := 2) (v := .int .i64 conic) (surf_set (k := 1) (v := .int .i64 curv) (h3))))))
  simp only [List.set_cons_zero, List.set_cons_succ] at k3
  have i2 := (obj_other (obj_other (obj_other (obj_other (obj_other (obj_other h2 ⟨w.heap.size + 1 + 1, 1, none⟩ (by show w.heap.size + 1 + 1 ≠ w.heap.size + 1; omega) (.int .i64 curv)) ⟨w.heap.size + 1 + 1, 2, none⟩ (by show w.heap.size + 1 + 1 ≠ w.heap.size + 1; omega) (.int .i64 conic)) ⟨w.heap.size + 1 + 1, 13, none⟩ (by show w.heap.size + 1 + 1 ≠ w.heap.size + 1; omega) (.string glass)) ⟨w.heap.size + 1 + 1, 14, none⟩ (by show w.heap.size + 1 + 1 ≠ w.heap.size + 1; omega) (.int .i64 semi)) ⟨w.heap.size + 1 + 1, 15, none⟩ (by show w.heap.size + 1 + 1 ≠ w.heap.size + 1; omega) (.int .i64 hole)) ⟨w.heap.size + 1 + 1, 21, none⟩ (by show w.heap.size + 1 + 1 ≠ w.heap.size + 1; omega) (.slice a n c))
  refine step_world (fun wx => wx.heap[w.heap.size + 1]? = some (.cells #[.int .i64 0, .int .i64 0, .int .i64 0, .int .i64 0, .int .i64 0, .int .i64 0, .int .i64 0, .int .i64 0, .int .i64 0, .int .i64 0, .int .i64 0, .int .i64 0, .int .i64 0, .string emptyS, .int .i64 0, .int .i64 0, .int .i64 0, .int .i64 0, .int .i64 0, .int .i64 0, .int .i64 0, .slice none 0 0] 70 (0, 0)) ∧ SurfB wx (w.heap.size + 1 + 1) ⟨2, curv, conic, curvX, conicX, 0, 0, 0, 0, 0, 0, 0, thick, glass, semi, hole, 0, 0, 0, 0, 0⟩ a n c ∧ Below w.heap.size w wx) ⟨heap_dr i2, SurfB.of_dr k3, below_dr (below_s1' (below_s1' (below_s1' (below_s1' (below_s1' (below_s1' (hb) (by omega)) (by omega)) (by omega)) (by omega)) (by omega)) (by omega))⟩ ?_
  clear hb h2 h3 i2 k3 h1
  rintro w3 ⟨h2, h3, hb⟩
  go_wp2_with (first
    | (refine wpL_load_surf h3 rfl (.tmp 3) rfl rfl ?_)
    | (refine wpL_store_surf _ _ _ _ h2 rfl rfl (.tmp 2) (.tmp 86) rfl rfl rfl ?_; refine step_list (fun wx => SurfB wx (w.heap.size + 1) ⟨2, curv, conic, curvX, conicX, 0, 0, 0, 0, 0, 0, 0, thick, glass, semi, hole, 0, 0, 0, 0, 0⟩ a n c ∧ Below w.heap.size w wx) ⟨SurfB.stored h2 rfl _ _ _ _, Below.put22 hb (by omega) _ _ _ _⟩ ?_; rintro w9 ⟨h4, hb4⟩))
  exact bodyPost_ret (ret_surf rfl rfl h4) rfl ⟨rfl, hb4⟩

set_option maxRecDepth 100000 in
set_option maxHeartbeats 3200000 in
theorem kept_3 (s : Surf) (a : Option Addr) (n c : Nat) (w : World) (hk : s.kind = 3) : Calls Tryz.prog 202 #[.agg #[.int .i64 s.kind, .int .i64 s.curv, .int .i64 s.conic, .int .i64 s.curvX, .int .i64 s.conicX, .int .i64 s.a0, .int .i64 s.a1, .int .i64 s.a2, .int .i64 s.a3, .int .i64 s.p0, .int .i64 s.p1, .int .i64 s.order, .int .i64 s.thick, .string s.glass, .int .i64 s.semi, .int .i64 s.hole, .int .i64 s.dx, .int .i64 s.dy, .int .i64 s.ax, .int .i64 s.ay, .int .i64 s.az, .slice a n c]] w (RetSurf w (keptS s) none 0 0) := by
  obtain ⟨kind, curv, conic, curvX, conicX, a0, a1, a2, a3, p0, p1, order, thick, glass, semi, hole, dx, dy, ax, ay, az⟩ := s
  obtain rfl : kind = 3 := hk
  obtain ⟨e1, e2, e3⟩ := heap3 w (.cells #[.int .i64 3, .int .i64 curv, .int .i64 conic, .int .i64 curvX, .int .i64 conicX, .int .i64 a0, .int .i64 a1, .int .i64 a2, .int .i64 a3, .int .i64 p0, .int .i64 p1, .int .i64 order, .int .i64 thick, .string glass, .int .i64 semi, .int .i64 hole, .int .i64 dx, .int .i64 dy, .int .i64 ax, .int .i64 ay, .int .i64 az, .slice a n c] 70) (.cells #[.int .i64 0, .int .i64 0, .int .i64 0, .int .i64 0, .int .i64 0, .int .i64 0, .int .i64 0, .int .i64 0, .int .i64 0, .int .i64 0, .int .i64 0, .int .i64 0, .int .i64 0, .string emptyS, .int .i64 0, .int .i64 0, .int .i64 0, .int .i64 0, .int .i64 0, .int .i64 0, .int .i64 0, .slice none 0 0] 70) (.cells #[.int .i64 0, .int .i64 0, .int .i64 0, .int .i64 0, .int .i64 0, .int .i64 0, .int .i64 0, .int .i64 0, .int .i64 0, .int .i64 0, .int .i64 0, .int .i64 0, .int .i64 0, .string emptyS, .int .i64 0, .int .i64 0, .int .i64 0, .int .i64 0, .int .i64 0, .int .i64 0, .int .i64 0, .slice none 0 0] 70)
  have hb := belowT w (.cells #[.int .i64 3, .int .i64 curv, .int .i64 conic, .int .i64 curvX, .int .i64 conicX, .int .i64 a0, .int .i64 a1, .int .i64 a2, .int .i64 a3, .int .i64 p0, .int .i64 p1, .int .i64 order, .int .i64 thick, .string glass, .int .i64 semi, .int .i64 hole, .int .i64 dx, .int .i64 dy, .int .i64 ax, .int .i64 ay, .int .i64 az, .slice a n c] 70) (.cells #[.int .i64 0, .int .i64 0, .int .i64 0, .int .i64 0, .int .i64 0, .int .i64 0, .int .i64 0, .int .i64 0, .int .i64 0, .int .i64 0, .int .i64 0, .int .i64 0, .int .i64 0, .string emptyS, .int .i64 0, .int .i64 0, .int .i64 0, .int .i64 0, .int .i64 0, .int .i64 0, .int .i64 0, .slice none 0 0] 70) (.cells #[.int .i64 0, .int .i64 0, .int .i64 0, .int .i64 0, .int .i64 0, .int .i64 0, .int .i64 0, .int .i64 0, .int .i64 0, .int .i64 0, .int .i64 0, .int .i64 0, .int .i64 0, .string emptyS, .int .i64 0, .int .i64 0, .int .i64 0, .int .i64 0, .int .i64 0, .int .i64 0, .int .i64 0, .slice none 0 0] 70)
  have E1 := Lib.hid e1; have E2 := Lib.hid e2; have E3 := Lib.hid e3; have Hb := Lib.hid hb
  clear e1 e2 e3 hb
  go_enter Tryz.func202, Tryz.ntmps202
  go_wp2_with (refine wpL_store_surf (g := w.heap.size + 2) ⟨3, 0, 0, 0, 0, 0, 0, 0, 0, 0, 0, 0, thick, emptyS, 0, 0, 0, 0, 0, 0, 0⟩ none 0 0 E3.out rfl rfl (.tmp 3) (.tmp 8) rfl rfl rfl ?_; refine step_list (fun wx => SurfB wx w.heap.size ⟨3, curv, conic, curvX, conicX, a0, a1, a2, a3, p0, p1, order, thick, glass, semi, hole, dx, dy, ax, ay, az⟩ a n c ∧ wx.heap[w.heap.size + 1]? = some (.cells #[.int .i64 0, .int .i64 0, .int .i64 0, .int .i64 0, .int .i64 0, .int .i64 0, .int .i64 0, .int .i64 0, .int .i64 0, .int .i64 0, .int .i64 0, .int .i64 0, .int .i64 0, .string emptyS, .int .i64 0, .int .i64 0, .int .i64 0, .int .i64 0, .int .i64 0, .int .i64 0, .int .i64 0, .slice none 0 0] 70 (0, 0)) ∧ SurfB wx (w.heap.size + 1 + 1) ⟨3, 0, 0, 0, 0, 0, 0, 0, 0, 0, 0, 0, thick, emptyS, 0, 0, 0, 0, 0, 0, 0⟩ none 0 0 ∧ Below w.heap.size w wx) ⟨W22.other E1.out (by omega) _ _ _ _, W22.other E2.out (by omega) _ _ _ _, SurfB.stored E3.out rfl _ _ _ _, Below.put22 Hb.out (by omega) _ _ _ _⟩ ?_; rintro w1 ⟨h1, h2, h3, hb⟩; have q1 := SurfB.cells h1)
  clear q1
  obtain ⟨z0, z1, z2, z3, z4, z5, z6, z7, z8, z9, z10, z11, z12, z13, z14, z15, z16, z17, z18, z19, z20, z21⟩ := h3.cells
  have f0 := SurfB.free h3 16
  have f1 := SurfB.free h3 17
  have f2 := SurfB.free h3 18
  have f3 := SurfB.free h3 19
  have f4 := SurfB.free h3 20
  have hz := h3.lt
  have hl := h1.lt
  refine wp_region_reads (w.heap.size + 1 + 1) [0, 1, 2, 3, 4, 5, 6, 7, 8, 9, 10] 9 (by kernel_rfl) rfl (by kernel_rfl) (by kernel_rfl) (fun _ _ o _ _ h => by cases o <;> exact h) ?_
  iterate 11
    refine wpRd_yield (v := ?_) rfl (by rfl) ?_ ?_
    rotate_left
    · intro y hy
      obtain ⟨y0, y1, y2, y3, y4, y5, y6, y7, y8, y9, y10, y11, y12, y13, y14, y15, y16, y17, y18, y19, y20, y21⟩ := SurfB.cells (SurfB.go h1 (below_undrew (k := 1) hy) (by omega))
      go_simp
      with_reducible rfl
    try simp only [Act.put, List.setIfInBounds_toArray, List.set_cons_zero, List.set_cons_succ]
  refine wpRd_nil ?_
  refine wpR_one (i := 11) (by kernel_rfl) rfl rfl (fun K hK => ?_)
  go_simp
  refine hK _ _ (below_s1 (Nat.le_refl _)) ?_
  clear hK K
  refine wpR_one (i := 12) (by kernel_rfl) rfl rfl (fun K hK => ?_)
  go_simp
  refine hK _ _ (Below.refl _ _) ?_
  clear hK K
  refine wpR_one (i := 13) (by kernel_rfl) rfl rfl (fun K hK => ?_)
  go_simp
  refine hK _ _ (below_s1 (Nat.le_refl _)) ?_
  clear hK K
  refine wpR_one (i := 14) (by kernel_rfl) rfl rfl (fun K hK => ?_)
  go_simp
  refine hK _ _ (Below.refl _ _) ?_
  clear hK K
  refine wpR_one (i := 15) (by kernel_rfl) rfl rfl (fun K hK => ?_)
  go_simp
  refine hK _ _ (below_s1 (Nat.le_refl _)) ?_
  clear hK K
  refine wpR_one (i := 16) (by kernel_rfl) rfl rfl (fun K hK => ?_)
  go_simp
  refine hK _ _ (Below.refl _ _) ?_
  clear hK K
  refine wpR_one (i := 17) (by kernel_rfl) rfl rfl (fun K hK => ?_)
  go_simp
  refine hK _ _ (below_s1 (Nat.le_refl _)) ?_
  clear hK K
  refine wpR_one (i := 18) (by kernel_rfl) rfl rfl (fun K hK => ?_)
  go_simp
  refine hK _ _ (Below.refl _ _) ?_
  clear hK K
  refine wpR_one (i := 19) (by kernel_rfl) rfl rfl (fun K hK => ?_)
  go_simp
  refine hK _ _ (below_s1 (Nat.le_refl _)) ?_
  clear hK K
  refine wpR_end (by kernel_rfl) ?_
  go_upto_region 11 with fail
  have k3 := surf_set (k := 20) (v := .int .i64 az) (surf_set (k := 19) (v := .int .i64 ay) (surf_set (k := 18) (v := .int .i64 ax) (surf_set (k := 17) (v := .int .i64 dy) (surf_set (k := 16) (v := .int .i64 dx) (h3)))))
  simp only [List.set_cons_zero, List.set_cons_succ] at k3
  have i2 := (obj_other (obj_other (obj_other (obj_other (obj_other h2 ⟨w.heap.size + 1 + 1, 16, none⟩ (by show w.heap.size + 1 + 1 ≠ w.heap.size + 1; omega) (.int .i64 dx)) ⟨w.heap.size + 1 + 1, 17, none⟩ (by show w.heap.size + 1 + 1 ≠ w.heap.size + 1; omega) (.int .i64 dy)) ⟨w.heap.size + 1 + 1, 18, none⟩ (by show w.heap.size + 1 + 1 ≠ w.heap.size + 1; omega) (.int .i64 ax)) ⟨w.heap.size + 1 + 1, 19, none⟩ (by show w.heap.size + 1 + 1 ≠ w.heap.size + 1; omega) (.int .i64 ay)) ⟨w.heap.size + 1 + 1, 20, none⟩ (by show w.heap.size + 1 + 1 ≠ w.heap.size + 1; omega) (.int .i64 az))
  refine step_world (fun wx => wx.heap[w.heap.size + 1]? = some (.cells #[.int .i64 0, .int .i64 0, .int .i64 0, .int .i64 0, .int .i64 0, .int .i64 0, .int .i64 0, .int .i64 0, .int .i64 0, .int .i64 0, .int .i64 0, .int .i64 0, .int .i64 0, .string emptyS, .int .i64 0, .int .i64 0, .int .i64 0, .int .i64 0, .int .i64 0, .int .i64 0, .int .i64 0, .slice none 0 0] 70 (0, 0)) ∧ SurfB wx (w.heap.size + 1 + 1) ⟨3, 0, 0, 0, 0, 0, 0, 0, 0, 0, 0, 0, thick, emptyS, 0, 0, dx, dy, ax, ay, az⟩ none 0 0 ∧ Below w.heap.size w wx) ⟨heap_dr i2, SurfB.of_dr k3, below_dr (below_s1' (below_s1' (below_s1' (below_s1' (below_s1' (hb) (by omega)) (by omega)) (by omega)) (by omega)) (by omega))⟩ ?_
  clear hb h2 h3 i2 k3 h1
  rintro w3 ⟨h2, h3, hb⟩
  go_wp2_with (first
    | (refine wpL_load_surf h3 rfl (.tmp 3) rfl rfl ?_)
    | (refine wpL_store_surf _ _ _ _ h2 rfl rfl (.tmp 2) (.tmp 55) rfl rfl rfl ?_; refine step_list (fun wx => SurfB wx (w.heap.size + 1) ⟨3, 0, 0, 0, 0, 0, 0, 0, 0, 0, 0, 0, thick, emptyS, 0, 0, dx, dy, ax, ay, az⟩ none 0 0 ∧ Below w.heap.size w wx) ⟨SurfB.stored h2 rfl _ _ _ _, Below.put22 hb (by omega) _ _ _ _⟩ ?_; rintro w9 ⟨h4, hb4⟩))
  exact bodyPost_ret (ret_surf rfl rfl h4) rfl ⟨rfl, hb4⟩

set_option maxRecDepth 100000 in
set_option maxHeartbeats 3200000 in
theorem kept_4 (s : Surf) (a : Option Addr) (n c : Nat) (w : World) (hk : s.kind = 4) : Calls Tryz.prog 202 #[.agg #[.int .i64 s.kind, .int .i64 s.curv, .int .i64 s.conic, .int .i64 s.curvX, .int .i64 s.conicX, .int .i64 s.a0, .int .i64 s.a1, .int .i64 s.a2, .int .i64 s.a3, .int .i64 s.p0, .int .i64 s.p1, .int .i64 s.order, .int .i64 s.thick, .string s.glass, .int .i64 s.semi, .int .i64 s.hole, .int .i64 s.dx, .int .i64 s.dy, .int .i64 s.ax, .int .i64 s.ay, .int .i64 s.az, .slice a n c]] w (RetSurf w (keptS s) none 0 0) := by
  obtain ⟨kind, curv, conic, curvX, conicX, a0, a1, a2, a3, p0, p1, order, thick, glass, semi, hole, dx, dy, ax, ay, az⟩ := s
  obtain rfl : kind = 4 := hk
  obtain ⟨e1, e2, e3⟩ := heap3 w (.cells #[.int .i64 4, .int .i64 curv, .int .i64 conic, .int .i64 curvX, .int .i64 conicX, .int .i64 a0, .int .i64 a1, .int .i64 a2, .int .i64 a3, .int .i64 p0, .int .i64 p1, .int .i64 order, .int .i64 thick, .string glass, .int .i64 semi, .int .i64 hole, .int .i64 dx, .int .i64 dy, .int .i64 ax, .int .i64 ay, .int .i64 az, .slice a n c] 70) (.cells #[.int .i64 0, .int .i64 0, .int .i64 0, .int .i64 0, .int .i64 0, .int .i64 0, .int .i64 0, .int .i64 0, .int .i64 0, .int .i64 0, .int .i64 0, .int .i64 0, .int .i64 0, .string emptyS, .int .i64 0, .int .i64 0, .int .i64 0, .int .i64 0, .int .i64 0, .int .i64 0, .int .i64 0, .slice none 0 0] 70) (.cells #[.int .i64 0, .int .i64 0, .int .i64 0, .int .i64 0, .int .i64 0, .int .i64 0, .int .i64 0, .int .i64 0, .int .i64 0, .int .i64 0, .int .i64 0, .int .i64 0, .int .i64 0, .string emptyS, .int .i64 0, .int .i64 0, .int .i64 0, .int .i64 0, .int .i64 0, .int .i64 0, .int .i64 0, .slice none 0 0] 70)
  have hb := belowT w (.cells #[.int .i64 4, .int .i64 curv, .int .i64 conic, .int .i64 curvX, .int .i64 conicX, .int .i64 a0, .int .i64 a1, .int .i64 a2, .int .i64 a3, .int .i64 p0, .int .i64 p1, .int .i64 order, .int .i64 thick, .string glass, .int .i64 semi, .int .i64 hole, .int .i64 dx, .int .i64 dy, .int .i64 ax, .int .i64 ay, .int .i64 az, .slice a n c] 70) (.cells #[.int .i64 0, .int .i64 0, .int .i64 0, .int .i64 0, .int .i64 0, .int .i64 0, .int .i64 0, .int .i64 0, .int .i64 0, .int .i64 0, .int .i64 0, .int .i64 0, .int .i64 0, .string emptyS, .int .i64 0, .int .i64 0, .int .i64 0, .int .i64 0, .int .i64 0, .int .i64 0, .int .i64 0, .slice none 0 0] 70) (.cells #[.int .i64 0, .int .i64 0, .int .i64 0, .int .i64 0, .int .i64 0, .int .i64 0, .int .i64 0, .int .i64 0, .int .i64 0, .int .i64 0, .int .i64 0, .int .i64 0, .int .i64 0, .string emptyS, .int .i64 0, .int .i64 0, .int .i64 0, .int .i64 0, .int .i64 0, .int .i64 0, .int .i64 0, .slice none 0 0] 70)
  have E1 := Lib.hid e1; have E2 := Lib.hid e2; have E3 := Lib.hid e3; have Hb := Lib.hid hb
  clear e1 e2 e3 hb
  go_enter Tryz.func202, Tryz.ntmps202
  go_wp2_with (refine wpL_store_surf (g := w.heap.size + 2) ⟨4, 0, 0, 0, 0, 0, 0, 0, 0, 0, 0, 0, thick, emptyS, 0, 0, 0, 0, 0, 0, 0⟩ none 0 0 E3.out rfl rfl (.tmp 3) (.tmp 8) rfl rfl rfl ?_; refine step_list (fun wx => SurfB wx w.heap.size ⟨4, curv, conic, curvX, conicX, a0, a1, a2, a3, p0, p1, order, thick, glass, semi, hole, dx, dy, ax, ay, az⟩ a n c ∧ wx.heap[w.heap.size + 1]? = some (.cells #[.int .i64 0, .int .i64 0, .int .i64 0, .int .i64 0, .int .i64 0, .int .i64 0, .int .i64 0, .int .i64 0, .int .i64 0, .int .i64 0, .int .i64 0, .int .i64 0, .int .i64 0, .string emptyS, .int .i64 0, .int .i64 0, .int .i64 0, .int .i64 0, .int .i64 0, .int .i64 0, .int .i64 0, .slice none 0 0] 70 (0, 0)) ∧ SurfB wx (w.heap.size + 1 + 1) ⟨4, 0, 0, 0, 0, 0, 0, 0, 0, 0, 0, 0, thick, emptyS, 0, 0, 0, 0, 0, 0, 0⟩ none 0 0 ∧ Below w.heap.size w wx) ⟨W22.other E1.out (by omega) _ _ _ _, W22.other E2.out (by omega) _ _ _ _, SurfB.stored E3.out rfl _ _ _ _, Below.put22 Hb.out (by omega) _ _ _ _⟩ ?_; rintro w1 ⟨h1, h2, h3, hb⟩; have q1 := SurfB.cells h1)
  clear q1
  obtain ⟨z0, z1, z2, z3, z4, z5, z6, z7, z8, z9, z10, z11, z12, z13, z14, z15, z16, z17, z18, z19, z20, z21⟩ := h3.cells
  have f0 := SurfB.free h3 1
  have f1 := SurfB.free h3 14
  have f2 := SurfB.free h3 15
  have hz := h3.lt
  have hl := h1.lt
  refine wp_region_reads (w.heap.size + 1 + 1) [0, 1, 2, 3, 4, 5, 6] 5 (by kernel_rfl) rfl (by kernel_rfl) (by kernel_rfl) (fun _ _ o _ _ h => by cases o <;> exact h) ?_
  iterate 7
    refine wpRd_yield (v := ?_) rfl (by rfl) ?_ ?_
    rotate_left
    · intro y hy
      obtain ⟨y0, y1, y2, y3, y4, y5, y6, y7, y8, y9, y10, y11, y12, y13, y14, y15, y16, y17, y18, y19, y20, y21⟩ := SurfB.cells (SurfB.go h1 (below_undrew (k := 1) hy) (by omega))
      go_simp
      with_reducible rfl
    try simp only [Act.put, List.setIfInBounds_toArray, List.set_cons_zero, List.set_cons_succ]
  refine wpRd_nil ?_
  refine wpR_one (i := 7) (by kernel_rfl) rfl rfl (fun K hK => ?_)
  go_simp
  refine hK _ _ (below_s1 (Nat.le_refl _)) ?_
  clear hK K
  refine wpR_one (i := 8) (by kernel_rfl) rfl rfl (fun K hK => ?_)
  go_simp
  refine hK _ _ (Below.refl _ _) ?_
  clear hK K
  refine wpR_one (i := 9) (by kernel_rfl) rfl rfl (fun K hK => ?_)
  go_simp
  refine hK _ _ (below_s1 (Nat.le_refl _)) ?_
  clear hK K
  refine wpR_one (i := 10) (by kernel_rfl) rfl rfl (fun K hK => ?_)
  go_simp
  refine hK _ _ (Below.refl _ _) ?_
  clear hK K
  refine wpR_one (i := 11) (by kernel_rfl) rfl rfl (fun K hK => ?_)
  go_simp
  refine hK _ _ (below_s1 (Nat.le_refl _)) ?_
  clear hK K
  refine wpR_end (by kernel_rfl) ?_
  go_upto_region 14 with fail
  have k3 := surf_set (k := 15) (v := .int .i64 hole) (surf_set (k := 14) (v := .int .i64 semi) (surf_set (k := 1) (v := .int .i64 curv) (h3)))
  simp only [List.set_cons_zero, List.set_cons_succ] at k3
  have i2 := (obj_other (obj_other (obj_other h2 ⟨w.heap.size + 1 + 1, 1, none⟩ (by show w.heap.size + 1 + 1 ≠ w.heap.size + 1; omega) (.int .i64 curv)) ⟨w.heap.size + 1 + 1, 14, none⟩ (by show w.heap.size + 1 + 1 ≠ w.heap.size + 1; omega) (.int .i64 semi)) ⟨w.heap.size + 1 + 1, 15, none⟩ (by show w.heap.size + 1 + 1 ≠ w.heap.size + 1; omega) (.int .i64 hole))
  refine step_world (fun wx => wx.heap[w.heap.size + 1]? = some (.cells #[.int .i64 0, .int .i64 0, .int .i64 0, .int .i64 0, .int .i64 0, .int .i64 0, .int .i64 0, .int .i64 0, .int .i64 0, .int .i64 0, .int .i64 0, .int .i64 0, .int .i64 0, .string emptyS, .int .i64 0, .int .i64 0, .int .i64 0, .int .i64 0, .int .i64 0, .int .i64 0, .int .i64 0, .slice none 0 0] 70 (0, 0)) ∧ SurfB wx (w.heap.size + 1 + 1) ⟨4, curv, 0, 0, 0, 0, 0, 0, 0, 0, 0, 0, thick, emptyS, semi, hole, 0, 0, 0, 0, 0⟩ none 0 0 ∧ Below w.heap.size w wx) ⟨heap_dr i2, SurfB.of_dr k3, below_dr (below_s1' (below_s1' (below_s1' (hb) (by omega)) (by omega)) (by omega))⟩ ?_
  clear hb h2 h3 i2 k3 h1
  rintro w3 ⟨h2, h3, hb⟩
  go_wp2_with (first
    | (refine wpL_load_surf h3 rfl (.tmp 3) rfl rfl ?_)
    | (refine wpL_store_surf _ _ _ _ h2 rfl rfl (.tmp 2) (.tmp 67) rfl rfl rfl ?_; refine step_list (fun wx => SurfB wx (w.heap.size + 1) ⟨4, curv, 0, 0, 0, 0, 0, 0, 0, 0, 0, 0, thick, emptyS, semi, hole, 0, 0, 0, 0, 0⟩ none 0 0 ∧ Below w.heap.size w wx) ⟨SurfB.stored h2 rfl _ _ _ _, Below.put22 hb (by omega) _ _ _ _⟩ ?_; rintro w9 ⟨h4, hb4⟩))
  exact bodyPost_ret (ret_surf rfl rfl h4) rfl ⟨rfl, hb4⟩


end Go.Proofs.YtgohdcccfkjooaaGreatDoor
