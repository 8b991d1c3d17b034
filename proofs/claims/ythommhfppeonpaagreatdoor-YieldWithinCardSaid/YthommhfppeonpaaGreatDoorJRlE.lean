/-
  DERIVED. The reference of lenses: Image.
-/
import Derived.Test.YthommhfppeonpaaGreatDoorKab
namespace Go.Proofs.YthommhfppeonpaaGreatDoor
open Go.RowKit

set_option maxRecDepth 100000 in
set_option maxHeartbeats 1600000 in
theorem rimage_any (x : SurfC) (a : Option Addr) (n c : Nat) (w : World) (hz : IR w.heap.size w 3 a n c x.zs) (hn : n ≤ 1000000) (hg : x.s.glass.size ≤ 9223372036854775807) :
    Calls Tryz.prog 112 #[.agg #[.int .i64 x.s.kind, .int .i64 x.s.curv, .int .i64 x.s.conic, .int .i64 x.s.curvX, .int .i64 x.s.conicX, .int .i64 x.s.a0, .int .i64 x.s.a1, .int .i64 x.s.a2, .int .i64 x.s.a3, .int .i64 x.s.p0, .int .i64 x.s.p1, .int .i64 x.s.order, .int .i64 x.s.thick, .string x.s.glass, .int .i64 x.s.semi, .int .i64 x.s.hole, .int .i64 x.s.dx, .int .i64 x.s.dy, .int .i64 x.s.ax, .int .i64 x.s.ay, .int .i64 x.s.az, .slice a n c]] w (RetB w (.bool (okC x && imageB x.s n))) := by
  have hlen : n = x.zs.length / 3 := by rw [hz.1]; omega
  have hok : okC x = okS x.s x.zs n := by unfold okC; rw [← hlen]
  have h1 := SurfB.new w x.s a n c
  have hb1 := (Below.refl w.heap.size w).alloc (Nat.le_refl _) (.cells #[.int .i64 x.s.kind, .int .i64 x.s.curv, .int .i64 x.s.conic, .int .i64 x.s.curvX, .int .i64 x.s.conicX, .int .i64 x.s.a0, .int .i64 x.s.a1, .int .i64 x.s.a2, .int .i64 x.s.a3, .int .i64 x.s.p0, .int .i64 x.s.p1, .int .i64 x.s.order, .int .i64 x.s.thick, .string x.s.glass, .int .i64 x.s.semi, .int .i64 x.s.hole, .int .i64 x.s.dx, .int .i64 x.s.dy, .int .i64 x.s.ax, .int .i64 x.s.ay, .int .i64 x.s.az, .slice a n c] 92)
  have Hz := Lib.hid hz; have H1 := Lib.hid h1; have Hb1 := Lib.hid hb1; have Hok := Lib.hid hok
  clear hz h1 hb1 hlen hok
  go_enter Tryz.func112, Tryz.ntmps112
  go_upto_region 1 with fail
  refine step_world (fun wx => SurfB wx w.heap.size x.s a n c ∧ Below w.heap.size w wx) ⟨H1.out, Hb1.out⟩ ?_
  clear H1 Hb1
  rintro w1 ⟨h1, hb1⟩
  have hl1 := h1.lt
  have H1 := Lib.hid h1; have Hb1 := Lib.hid hb1
  clear h1 hb1
  cases ho : okS x.s x.zs n
  case false =>
    have Ho := Lib.hid ho; clear ho
    go_wp2_with (first
      | (refine wpL_load_surf H1.out rfl (.tmp 1) rfl rfl ?_)
      | ((with_reducible refine (right_ok x.s x.zs a n c _ (Hz.out.go Hb1.out) hn hg).mono ?_); rintro e w2 ⟨he, hb⟩; rw [Ho.out] at he; subst he; have Hb2 := Lib.hid hb; clear hb))
    go_ret
    exact ⟨by rw [Hok.out, Ho.out]; rfl, below_chain Hb1.out Hb2.out⟩
  case true =>
    have Ho := Lib.hid ho; clear ho
    cases q1 : (x.s.kind == 1) <;> cases q2 : x.s.glass.toList.isEmpty <;> cases q3 : (x.s.thick == 0) <;> cases q4 : (x.s.order == 0) <;> cases q5 : ((n : Int) == 0)
    all_goals
      go_wp2_with (first
        | (refine wpL_load_surf H1.out rfl (.tmp 1) rfl rfl ?_)
        | ((with_reducible refine (right_ok x.s x.zs a n c _ (Hz.out.go Hb1.out) hn hg).mono ?_); rintro e w2 ⟨he, hb⟩; rw [Ho.out] at he; subst he; obtain ⟨k0, _, _, _, _, _, _, _, _, _, _, k11, k12, k13, _, _, _, _, _, _, _, k21⟩ := (H1.out.go hb hl1).cells; have Hb2 := Lib.hid hb; clear hb))
      go_ret
      refine ⟨?_, below_chain Hb1.out Hb2.out⟩
      rw [Hok.out, Ho.out]
      clear Hb1 Hb2 k0 k11 k12 k13 k21 Hz H1 Hok Ho
      simp [imageB, q2] at *
      try omega

end Go.Proofs.YthommhfppeonpaaGreatDoor
