/-
  DERIVED. The walks of the reference of surfaces, third part: Right.
-/
import Derived.Test.YthommhfppeonpaaGreatDoorJRsfB
import Derived.Deep.Light
namespace Go.Proofs.YthommhfppeonpaaGreatDoor
open Go.RowKit

def plainX (s : Surf) : Bool := (s.curvX == 0) && (s.conicX == 0)
def plainP (s : Surf) : Bool := decide ([s.a0, s.a1, s.a2, s.a3] = [0, 0, 0, 0]) && decide ([s.p0, s.p1] = [0, 0]) && (s.order == 0)
def straightB (s : Surf) : Bool := (s.dx == 0) && (s.dy == 0) && (s.ax == 0) && (s.ay == 0) && (s.az == 0)
def bareB (s : Surf) (n : Nat) : Bool := s.glass.toList.isEmpty && decide (n = 0)
def kindB (s : Surf) (n : Nat) : Bool :=
  if s.kind = 1 then (if s.order = 0 ∨ isMirror s.glass = true then plainX s && straightB s && decide (s.order = 0) && decide ([s.p0, s.p1] = [0, 0]) else plainX s && straightB s)
  else if s.kind = 2 then plainP s && straightB s
  else if s.kind = 3 then plainX s && plainP s && bareB s n && decide (s.curv = 0) && decide (s.conic = 0) && decide (s.semi = 0) && decide (s.hole = 0)
  else if s.kind = 4 then plainX s && plainP s && straightB s && bareB s n && decide (s.conic = 0)
  else false
def rightB (s : Surf) (zs : List Int) (n : Nat) : Bool := smallB' s zs n && kindB s n

theorem zero4 (s : Surf) (w : World) : (Op.equalIn 10000 88 (.agg #[.int .i64 s.a0, .int .i64 s.a1, .int .i64 s.a2, .int .i64 s.a3]) (.agg #[.int .i64 0, .int .i64 0, .int .i64 0, .int .i64 0])).run Tryz.prog w = .ok (decide ([s.a0, s.a1, s.a2, s.a3] = [0, 0, 0, 0])) w :=
  eq_ints 9998 (n := 4) (k' := .i64) Tryz.underlying88 (by kernel_rfl) Tryz.underlying3 (by kernel_rfl) [s.a0, s.a1, s.a2, s.a3] [0, 0, 0, 0] rfl rfl w
theorem zero2 (s : Surf) (w : World) : (Op.equalIn 10000 89 (.agg #[.int .i64 s.p0, .int .i64 s.p1]) (.agg #[.int .i64 0, .int .i64 0])).run Tryz.prog w = .ok (decide ([s.p0, s.p1] = [0, 0])) w :=
  eq_ints 9998 (n := 2) (k' := .i64) Tryz.underlying89 (by kernel_rfl) Tryz.underlying3 (by kernel_rfl) [s.p0, s.p1] [0, 0] rfl rfl w

set_option maxRecDepth 100000 in
set_option maxHeartbeats 3200000 in
theorem right_any (s : Surf) (zs : List Int) (a : Option Addr) (n c : Nat) (w : World) (hz : IR w.heap.size w 3 a n c zs) (hn : n ≤ 1000000) (hg : s.glass.size ≤ 9223372036854775807) :
    Calls Tryz.prog 113 #[.agg #[.int .i64 s.kind, .int .i64 s.curv, .int .i64 s.conic, .int .i64 s.curvX, .int .i64 s.conicX, .int .i64 s.a0, .int .i64 s.a1, .int .i64 s.a2, .int .i64 s.a3, .int .i64 s.p0, .int .i64 s.p1, .int .i64 s.order, .int .i64 s.thick, .string s.glass, .int .i64 s.semi, .int .i64 s.hole, .int .i64 s.dx, .int .i64 s.dy, .int .i64 s.ax, .int .i64 s.ay, .int .i64 s.az, .slice a n c]] w (RetB w (.bool (rightB s zs n))) := by
  have h1 := SurfB.new w s a n c
  have hb1 := (Below.refl w.heap.size w).alloc (Nat.le_refl _) (.cells #[.int .i64 s.kind, .int .i64 s.curv, .int .i64 s.conic, .int .i64 s.curvX, .int .i64 s.conicX, .int .i64 s.a0, .int .i64 s.a1, .int .i64 s.a2, .int .i64 s.a3, .int .i64 s.p0, .int .i64 s.p1, .int .i64 s.order, .int .i64 s.thick, .string s.glass, .int .i64 s.semi, .int .i64 s.hole, .int .i64 s.dx, .int .i64 s.dy, .int .i64 s.ax, .int .i64 s.ay, .int .i64 s.az, .slice a n c] 92)
  have H1 := Lib.hid h1; have Hz := Lib.hid hz; have Hb1 := Lib.hid hb1
  clear h1 hz hb1
  cases hs : smallB' s zs n with
  | false =>
    have Hs := Lib.hid hs; clear hs
    go_enter Tryz.func113, Tryz.ntmps113
    go_wp2_with (first
      | (refine wpL_load_surf H1.out rfl (.tmp 1) rfl rfl ?_)
      | ((with_reducible refine (small_any' s zs a n c _ (Hz.out.go Hb1.out) hn hg).mono ?_); rintro e w2 ⟨he, hb⟩; rw [Hs.out] at he; subst he))
    go_ret
    exact ⟨by unfold rightB; rw [Hs.out]; rfl, below_chain Hb1.out hb⟩
  | true =>
    have Hs := Lib.hid hs; clear hs
    go_enter Tryz.func113, Tryz.ntmps113
    go_upto_region 3 with (first
      | (refine wpL_load_surf H1.out rfl (.tmp 1) rfl rfl ?_)
      | ((with_reducible refine (small_any' s zs a n c _ (Hz.out.go Hb1.out) hn hg).mono ?_); rintro e w2 ⟨he, hb⟩; rw [Hs.out] at he; subst he))
    refine step_world (fun wx => SurfB wx w.heap.size s a n c ∧ Below w.heap.size w wx) ⟨SurfB.go H1.out hb (by simp), below_chain Hb1.out hb⟩ ?_
    clear hb H1 Hz Hb1
    rintro w3 ⟨h1, hb⟩
    have Hb := Lib.hid hb; have H1 := Lib.hid h1
    clear hb h1
    obtain ⟨k0, k1, k2, k3, k4, k5, k6, k7, k8, k9, k10, k11, k12, k13, k14, k15, k16, k17, k18, k19, k20, k21⟩ := H1.out.cells
    go_cut [3] (fun v wx => v = .bool (plainX s) ∧ wx = w3)
    case first =>
      cases q1 : (s.curvX == 0) <;> cases q2 : (s.conicX == 0)
      all_goals
        go_wp2
        go_meet
        exact ⟨by unfold plainX; rw [q1, q2]; rfl, rfl⟩
    case rest =>
      obtain ⟨rfl, rfl⟩ := hcut
      go_upto_region 4 with fail
      go_cut [4] (fun v wx => v = .bool (plainP s) ∧ wx = wc)
      case first =>
        have e4 := zero4 s wc
        have e2 := zero2 s wc
        cases q1 : decide ([s.a0, s.a1, s.a2, s.a3] = [0, 0, 0, 0]) <;> cases q2 : decide ([s.p0, s.p1] = [0, 0]) <;> cases q3 : (s.order == 0)
        all_goals
          rw [q1] at e4
          rw [q2] at e2
          have Q1 := Lib.hid q1; have Q2 := Lib.hid q2; clear q1 q2
          go_wp2
          go_meet
          exact ⟨by unfold plainP; rw [Q1.out, Q2.out, q3]; rfl, rfl⟩
      case rest =>
        obtain ⟨rfl, rfl⟩ := hcut
        go_upto_region 5 with fail
        go_cut [5] (fun v wx => v = .bool (straightB s) ∧ wx = wc)
        case first =>
          cases q1 : (s.dx == 0) <;> cases q2 : (s.dy == 0) <;> cases q3 : (s.ax == 0) <;> cases q4 : (s.ay == 0) <;> cases q5 : (s.az == 0)
          all_goals
            go_wp2
            go_meet
            exact ⟨by unfold straightB; rw [q1, q2, q3, q4, q5]; rfl, rfl⟩
        case rest =>
          obtain ⟨rfl, rfl⟩ := hcut
          go_upto_region 6 with fail
          go_cut [6] (fun v wx => v = .bool (bareB s n) ∧ wx = wc)
          case first =>
            cases q1 : s.glass.toList.isEmpty <;> cases q2 : ((n : Int) == 0)
            all_goals
              have q3 : decide (n = 0) = ((n : Int) == 0) := by rw [Bool.eq_iff_iff]; simp
              have Q3 := Lib.hid q3; clear q3
              go_wp2
              go_meet
              exact ⟨by unfold bareB; rw [q1, Q3.out, q2]; rfl, rfl⟩
          case rest =>
            obtain ⟨rfl, rfl⟩ := hcut
            have e2 := zero2 s wc
            have hx : ∀ b, plainX s = b → b = plainX s := fun b h => h.symm
            generalize hx1 : plainX s = x1 at *
            generalize hx2 : plainP s = x2 at *
            generalize hx3 : straightB s = x3 at *
            generalize hx4 : bareB s n = x4 at *
            generalize hx5 : decide ([s.p0, s.p1] = [0, 0]) = x5 at *
            have X1 := Lib.hid hx1; have X2 := Lib.hid hx2; have X3 := Lib.hid hx3; have X4 := Lib.hid hx4; have X5 := Lib.hid hx5
            have hr : rightB s zs n = (if s.kind = 1 then (if s.order = 0 ∨ isMirror s.glass = true then x1 && x3 && decide (s.order = 0) && x5 else x1 && x3)
                else if s.kind = 2 then x2 && x3
                else if s.kind = 3 then x1 && x2 && x4 && decide (s.curv = 0) && decide (s.conic = 0) && decide (s.semi = 0) && decide (s.hole = 0)
                else if s.kind = 4 then x1 && x2 && x3 && x4 && decide (s.conic = 0)
                else false) := by
              unfold rightB kindB; rw [Hs.out, hx1, hx2, hx3, hx4, hx5]; rfl
            have Hr := Lib.hid hr
            clear hx1 hx2 hx3 hx4 hx5 hx hr
            go_wp2
            all_goals
              go_ret
              refine ⟨?_, Hb.out⟩
              rw [Hr.out]
              clear Hr X1 X2 X3 X4 X5 Hb k0 k1 k2 k3 k4 k5 k6 k7 k8 k9 k10 k11 k12 k13 k14 k15 k16 k17 k18 k19 k20 k21 e2 Hs
              go_light
              simp_all [isMirror]
              all_goals rw [Bool.eq_iff_iff]; simp

end Go.Proofs.YthommhfppeonpaaGreatDoor
