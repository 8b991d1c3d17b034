/-
  DERIVED. The walks of the reference of surfaces: Get.
-/
import Derived.Test.YthommhfppeonpaaGreatDoorKad
namespace Go.Proofs.YthommhfppeonpaaGreatDoor
open Go.RowKit

set_option maxRecDepth 100000 in
set_option maxHeartbeats 3200000 in
theorem refGet_any (s : Surf) (zs : List Int) (p : Int) (a : Option Addr) (n c : Nat) (w : World) (hz : IR w.heap.size w 3 a n c zs) (hn : n ≤ 1000000) (hg : s.glass.size ≤ 9223372036854775807) :
    Calls Tryz.prog 91 #[.agg #[.int .i64 s.kind, .int .i64 s.curv, .int .i64 s.conic, .int .i64 s.curvX, .int .i64 s.conicX, .int .i64 s.a0, .int .i64 s.a1, .int .i64 s.a2, .int .i64 s.a3, .int .i64 s.p0, .int .i64 s.p1, .int .i64 s.order, .int .i64 s.thick, .string s.glass, .int .i64 s.semi, .int .i64 s.hole, .int .i64 s.dx, .int .i64 s.dy, .int .i64 s.ax, .int .i64 s.ay, .int .i64 s.az, .slice a n c], .int .i64 p] w (RetB w (getV s zs n p)) := by
  have h1 := SurfB.new w s a n c
  have hb1 := (Below.refl w.heap.size w).alloc (Nat.le_refl _) (.cells #[.int .i64 s.kind, .int .i64 s.curv, .int .i64 s.conic, .int .i64 s.curvX, .int .i64 s.conicX, .int .i64 s.a0, .int .i64 s.a1, .int .i64 s.a2, .int .i64 s.a3, .int .i64 s.p0, .int .i64 s.p1, .int .i64 s.order, .int .i64 s.thick, .string s.glass, .int .i64 s.semi, .int .i64 s.hole, .int .i64 s.dx, .int .i64 s.dy, .int .i64 s.ax, .int .i64 s.ay, .int .i64 s.az, .slice a n c] 92)
  have H1 := Lib.hid h1; have Hz := Lib.hid (hz.go hb1); have Hb1 := Lib.hid hb1
  clear h1 hz hb1
  go_enter Tryz.func91, Tryz.ntmps91
  cases ho : okS s zs n with
  | false =>
    have hm : missI s zs n p = 110 := by unfold missI; rw [if_neg (by rw [ho]; simp)]
    have Ho := Lib.hid ho; have Hm := Lib.hid hm; clear ho hm
    go_wp2_with (first
      | (refine wpL_load_surf H1.out rfl (.tmp 2) rfl rfl ?_)
      | ((with_reducible refine (right_ok s zs a n c _ Hz.out hn hg).mono ?_); rintro e w2 ⟨he, hb⟩; rw [Ho.out] at he; subst he))
    go_ret2
    exact ⟨by unfold getV; rw [Hm.out]; rfl, below_chain Hb1.out hb⟩
  | true =>
    have hc : hasC s zs n p = hasB s p := by unfold hasC; rw [ho]; rfl
    cases hh : hasB s p with
    | false =>
      have hm : missI s zs n p = 2 := by unfold missI; rw [if_pos ho, hh]; rfl
      rw [hh] at hc
      have Ho := Lib.hid ho; have Hm := Lib.hid hm; have Hc := Lib.hid hc; clear ho hm hh hc
      go_wp2_with (first
        | (refine wpL_load_surf H1.out rfl (.tmp 2) rfl rfl ?_)
        | (refine wpL_load_surf (SurfB.go H1.out Hb2.out (by simp)) rfl (.tmp 2) rfl rfl ?_)
        | ((with_reducible refine (right_ok s zs a n c _ Hz.out hn hg).mono ?_); rintro e w2 ⟨he, hb⟩; rw [Ho.out] at he; subst he; have Hb2 := Lib.hid hb; clear hb)
        | ((with_reducible refine (refHas_any s zs p a n c _ (Hz.out.go Hb2.out) hn hg).mono ?_); rintro e w3 ⟨he, hb⟩; rw [Hc.out] at he; subst he; have Hb3 := Lib.hid hb; clear hb))
      go_ret2
      exact ⟨by unfold getV; rw [Hm.out]; rfl, below_chain Hb1.out (below_chain Hb2.out Hb3.out)⟩
    | true =>
      have hm : missI s zs n p = 0 := by unfold missI; rw [if_pos ho, hh]; rfl
      rw [hh] at hc
      obtain ⟨r1, r2⟩ := hasB_range hh
      have Ho := Lib.hid ho; have Hm := Lib.hid hm; have Hc := Lib.hid hc; clear ho hm hh hc
      go_upto_region 5 with (first
        | (refine wpL_load_surf H1.out rfl (.tmp 2) rfl rfl ?_)
        | (refine wpL_load_surf (SurfB.go H1.out Hb2.out (by simp)) rfl (.tmp 2) rfl rfl ?_)
        | ((with_reducible refine (right_ok s zs a n c _ Hz.out hn hg).mono ?_); rintro e w2 ⟨he, hb⟩; rw [Ho.out] at he; subst he; have Hb2 := Lib.hid hb; clear hb)
        | ((with_reducible refine (refHas_any s zs p a n c _ (Hz.out.go Hb2.out) hn hg).mono ?_); rintro e w3 ⟨he, hb⟩; rw [Hc.out] at he; subst he; have Hb3 := Lib.hid hb; clear hb))
      refine step_world (fun wx => SurfB wx w.heap.size s a n c ∧ Below w.heap.size w wx) ⟨SurfB.go (SurfB.go H1.out Hb2.out (by simp)) Hb3.out (Nat.lt_of_lt_of_le (by simp) Hb2.out.size), below_chain Hb1.out (below_chain Hb2.out Hb3.out)⟩ ?_
      clear H1 Hz Hb1 Hb2 Hb3
      rintro w4 ⟨h1, hb⟩
      obtain ⟨k0, k1, k2, k3, k4, k5, k6, k7, k8, k9, k10, k11, k12, k13, k14, k15, k16, k17, k18, k19, k20, k21⟩ := h1.cells
      have hv : getV s zs n p = .tuple #[.int .i64 (s.get p), .int .i64 0] := by unfold getV; rw [if_pos Hm.out]
      have Hv := Lib.hid hv; have Hb := Lib.hid hb; have hl := h1.lt
      clear hv hb h1 Hm Hc Ho
      rcases ways17 r1 r2 with rfl | rfl | rfl | rfl | rfl | rfl | rfl | rfl | rfl | rfl | rfl | rfl | rfl | rfl | rfl | rfl | rfl
      all_goals
        go_wp2
        go_ret2
        refine ⟨by rw [Hv.out]; rfl, ?_⟩
        repeat (first | exact Hb.out | apply below_al | apply below_dr | (refine below_st ?_ (by simp <;> omega)))

end Go.Proofs.YthommhfppeonpaaGreatDoor
