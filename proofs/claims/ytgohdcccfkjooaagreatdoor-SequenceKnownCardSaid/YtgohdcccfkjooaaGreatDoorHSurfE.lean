/-
  DERIVED. The walks of package surface, fourth part: the test of the glass; kept.
-/
import Derived.Test.YtgohdcccfkjooaaGreatDoorGab
import Derived.Test.YtgohdcccfkjooaaGreatDoorHName
namespace Go.Proofs.YtgohdcccfkjooaaGreatDoor
open Go.RowKit

def emptyS : ByteArray := ⟨#[]⟩
def test6 (s : Surf) : Bool := s.glass.toList.isEmpty || nameB s.glass

set_option maxRecDepth 100000 in
theorem lit_test6 (s : Surf) (a : Option Addr) (n c g : Nat) (w : World) (h : SurfB w g s a n c) (hs : s.glass.size ≤ 9223372036854775807) : Calls Tryz.prog 208 #[.pointer (some ⟨g, 0, none⟩)] w (RetB w (.bool (test6 s))) := by
  obtain ⟨k0, k1, k2, k3, k4, k5, k6, k7, k8, k9, k10, k11, k12, k13, k14, k15, k16, k17, k18, k19, k20, k21⟩ := h.cells
  clear h
  go_enter Tryz.func208, Tryz.ntmps208
  go_wp2_with ((with_reducible refine (name_any _ _ hs).mono ?_); rintro e w2 ⟨rfl, hb⟩)
  all_goals
    go_ret
    refine ⟨?_, by (repeat (first | exact Below.refl _ _ | apply below_al | apply below_dr | exact below_chain1 (by assumption) | (refine below_chain ?_ (by assumption)) | (refine below_st ?_ ?_)))⟩
    simp [test6, *]

def isMirror (g : ByteArray) : Bool := g.toList == [77, 73, 82, 82, 79, 82]
/-- a surface with just the fields that its kind has -/
def keptS (s : Surf) : Surf :=
  if s.kind = 1 then { s with curvX := 0, conicX := 0, p0 := if s.order ≠ 0 ∧ isMirror s.glass = false then s.p0 else 0, p1 := if s.order ≠ 0 ∧ isMirror s.glass = false then s.p1 else 0, order := if s.order ≠ 0 ∧ isMirror s.glass = false then s.order else 0, dx := 0, dy := 0, ax := 0, ay := 0, az := 0 }
  else if s.kind = 2 then { s with a0 := 0, a1 := 0, a2 := 0, a3 := 0, p0 := 0, p1 := 0, order := 0, dx := 0, dy := 0, ax := 0, ay := 0, az := 0 }
  else if s.kind = 3 then { kind := s.kind, curv := 0, conic := 0, curvX := 0, conicX := 0, a0 := 0, a1 := 0, a2 := 0, a3 := 0, p0 := 0, p1 := 0, order := 0, thick := s.thick, glass := emptyS, semi := 0, hole := 0, dx := s.dx, dy := s.dy, ax := s.ax, ay := s.ay, az := s.az }
  else { kind := s.kind, curv := s.curv, conic := 0, curvX := 0, conicX := 0, a0 := 0, a1 := 0, a2 := 0, a3 := 0, p0 := 0, p1 := 0, order := 0, thick := s.thick, glass := emptyS, semi := s.semi, hole := s.hole, dx := 0, dy := 0, ax := 0, ay := 0, az := 0 }

/-- a call that gives back a surface -/
def RetSurf (w : World) (s : Surf) (a : Option Addr) (n c : Nat) (e : Ending) (w' : World) : Prop := e = .returned (.agg #[.int .i64 s.kind, .int .i64 s.curv, .int .i64 s.conic, .int .i64 s.curvX, .int .i64 s.conicX, .int .i64 s.a0, .int .i64 s.a1, .int .i64 s.a2, .int .i64 s.a3, .int .i64 s.p0, .int .i64 s.p1, .int .i64 s.order, .int .i64 s.thick, .string s.glass, .int .i64 s.semi, .int .i64 s.hole, .int .i64 s.dx, .int .i64 s.dy, .int .i64 s.ax, .int .i64 s.ay, .int .i64 s.az, .slice a n c]) ∧ Below w.heap.size w w'

theorem below_drdr {B : Nat} {w w' : World} (h : Below B w w') : Below B w.drew w'.drew := ⟨h.os, h.tape, h.output, h.size, h.block⟩
theorem below_s1 {B g k : Nat} {w : World} {v : Value} (h : B ≤ g) : Below B w.drew (w.setCell ⟨g, k, none⟩ v).drew := below_drdr ((Below.refl _ _).setCell (p := ⟨g, k, none⟩) h _)
theorem below_s2 {B g k k2 : Nat} {w : World} {v u : Value} (h : B ≤ g) : Below B w.drew ((w.setCell ⟨g, k, none⟩ v).setCell ⟨g, k2, none⟩ u).drew := below_drdr (((Below.refl _ _).setCell (p := ⟨g, k, none⟩) h _).setCell (p := ⟨g, k2, none⟩) h _)
theorem below_s1' {w A : World} {g k : Nat} {v : Value} (h : Below w.heap.size w A) (hg : w.heap.size ≤ g) : Below w.heap.size w (A.setCell ⟨g, k, none⟩ v) := h.setCell (p := ⟨g, k, none⟩) hg _
theorem heap_dr {w : World} {b : Nat} {o : Obj} (h : w.heap[b]? = some o) : w.drew.heap[b]? = some o := h
theorem SurfB.of_dr {w : World} {g : Nat} {s : Surf} {a : Option Addr} {n c : Nat} (h : w.heap[g]? = some (.cells #[.int .i64 s.kind, .int .i64 s.curv, .int .i64 s.conic, .int .i64 s.curvX, .int .i64 s.conicX, .int .i64 s.a0, .int .i64 s.a1, .int .i64 s.a2, .int .i64 s.a3, .int .i64 s.p0, .int .i64 s.p1, .int .i64 s.order, .int .i64 s.thick, .string s.glass, .int .i64 s.semi, .int .i64 s.hole, .int .i64 s.dx, .int .i64 s.dy, .int .i64 s.ax, .int .i64 s.ay, .int .i64 s.az, .slice a n c] 70 (0, 0))) : SurfB w.drew g s a n c := h

theorem surf_set {w : World} {g : Nat} {l : List Value} {k : Nat} {v : Value} (h : w.heap[g]? = some (.cells l.toArray 70 (0, 0))) : (w.setCell ⟨g, k, none⟩ v).heap[g]? = some (.cells (l.set k v).toArray 70 (0, 0)) := by
  have := obj_setCell h k v
  rwa [List.setIfInBounds_toArray] at this

end Go.Proofs.YtgohdcccfkjooaaGreatDoor
