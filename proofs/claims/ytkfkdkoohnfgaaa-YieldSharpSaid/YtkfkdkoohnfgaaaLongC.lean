/-
  DERIVED. The walks of package long, third part: all, signed, Cmp, both, Mul, Add.
-/
import Derived.Test.YtkfkdkoohnfgaaaLongB
import Derived.Deep.DeepFit
namespace Go.Proofs.Ytkfkdkoohnfgaaa
open Go.RowKit

set_option maxRecDepth 100000 in
set_option maxHeartbeats 800000 in
/-- two valid long integers, as a list -/
theorem all_two (b : Nat) (s1 s2 : Bool) (z1 z2 : Int) (a1 a2 : Option Addr) (n1 n2 c1 c2 : Nat) (w : World) (h1 : LG w.heap.size w s1 a1 n1 c1 z1) (h2 : LG w.heap.size w s2 a2 n2 c2 z2)
    (hb : b < w.heap.size) (k0 : w.cell? ⟨b, 0, none⟩ = some (.bool s1)) (k1 : w.cell? ⟨b, 1, none⟩ = some (.slice a1 n1 c1)) (k2 : w.cell? ⟨b, 2, none⟩ = some (.bool s2)) (k3 : w.cell? ⟨b, 3, none⟩ = some (.slice a2 n2 c2)) :
    Calls Try.prog 51 #[.slice (some ⟨b, 0, none⟩) 2 2] w (RetB w (.int .i64 0)) := by
  have H1 := Lib.hid h1; have H2 := Lib.hid h2; clear h1 h2
  go_enter Try.func51, Try.ntmps51
  go_wp2_with fail
  refine wp_loop_rounds 3 ?_
  rw [rounds_succ]
  go_wp2_with fail
  refine (check_ok s1 z1 a1 n1 c1 _ (H1.out.go ((Below.refl _ _).alloc (Nat.le_refl _) _))).mono ?_
  rintro e w1 ⟨rfl, hb1⟩
  have hb1' := below_alloc hb1
  have k2' := (hb1'.cell (p := ⟨b, 2, none⟩) hb).trans k2
  have k3' := (hb1'.cell (p := ⟨b, 3, none⟩) hb).trans k3
  have hsz := hb1'.size
  clear k0 k1 k2 k3
  go_wp2_with fail
  rw [rounds_succ]
  go_wp2_with fail
  refine (check_ok s2 z2 a2 n2 c2 _ ((H2.out.go hb1').go ((Below.refl _ _).alloc (Nat.le_refl _) _))).mono ?_
  rintro e w2 ⟨rfl, hb2⟩
  have hb2' := below_alloc hb2
  go_wp2_with fail
  rw [rounds_succ]
  go_wp2_with fail
  go_ret
  exact ⟨rfl, hb1'.trans (hb2'.mono hsz)⟩
theorem below3 (w : World) (o p q : Obj) : Below w.heap.size w (((w.alloc o).alloc p).alloc q) := (((Below.refl _ _).alloc (Nat.le_refl _) _).alloc (by simp) _).alloc (by simp; omega) _
theorem below4 (w : World) (o p q r : Obj) : Below w.heap.size w ((((w.alloc o).alloc p).alloc q).alloc r) := (below3 w o p q).alloc (by simp; omega) _
theorem cells3 (w : World) (o p q : Array Value) (t u v : TypeId) :
    (∀ i, (((w.alloc (.cells o t)).alloc (.cells p u)).alloc (.cells q v)).cell? ⟨w.heap.size, i, none⟩ = o[i]?) ∧
    (∀ i, (((w.alloc (.cells o t)).alloc (.cells p u)).alloc (.cells q v)).cell? ⟨w.heap.size + 1, i, none⟩ = p[i]?) ∧
    (∀ i, (((w.alloc (.cells o t)).alloc (.cells p u)).alloc (.cells q v)).cell? ⟨w.heap.size + 1 + 1, i, none⟩ = q[i]?) := by
  refine ⟨fun i => ?_, fun i => ?_, fun i => ?_⟩
  · rw [World.cell?_alloc_past _ _ _ (by simp; omega), World.cell?_alloc_past _ _ _ (by simp), World.cell?_alloc_at _ _ _ _ rfl]
  · rw [World.cell?_alloc_past _ _ _ (by simp), World.cell?_alloc_at _ _ _ _ (by simp)]
  · rw [World.cell?_alloc_at _ _ _ _ (by simp)]

/-- a call that gives back a number of the sign of the order, and changes nothing that was there -/
def RetSign (w : World) (x y : Int) (e : Ending) (w' : World) : Prop :=
  ∃ r, e = .returned (.int .i64 r) ∧ (0 < r ↔ y < x) ∧ (r < 0 ↔ x < y) ∧ Below w.heap.size w w'

theorem below_two {w : World} (o p : Obj) : Below w.heap.size w ((w.alloc o).alloc p) := ((Below.refl _ _).alloc (Nat.le_refl _) _).alloc (by simp) _

set_option maxHeartbeats 800000 in
theorem signed_any (s1 s2 : Bool) (z1 z2 : Int) (a1 a2 : Option Addr) (n1 n2 c1 c2 : Nat) (w : World) (h1 : LG w.heap.size w s1 a1 n1 c1 z1) (h2 : LG w.heap.size w s2 a2 n2 c2 z2) :
    Calls Try.prog 58 #[.agg #[.bool s1, .slice a1 n1 c1], .agg #[.bool s2, .slice a2 n2 c2]] w (RetSign w z1 z2) := by
  obtain ⟨hs1, hl1, hn1⟩ := h1
  obtain ⟨hs2, hl2, hn2⟩ := h2
  have Hs1 := Lib.hid hs1; have Hs2 := Lib.hid hs2; have H1 := Lib.hid hl1; have H2 := Lib.hid hl2; clear hs1 hs2 hl1 hl2
  cases s1
  all_goals cases s2
  · go_enter Try.func58, Try.ntmps58
    go_wp2_with fail
    refine (cmp_any _ _ a1 a2 n1 n2 c1 c2 _ (H1.out.go (below_two _ _)) (H2.out.go (below_two _ _)) (by omega) (by omega) (dig_digs _) (dig_digs _)).mono ?_
    rintro e w1 ⟨rfl, k, rfl⟩
    go_wp2
    go_ret
    have e1 := Hs1.out; have e2 := Hs2.out
    simp at e1 e2
    exact ⟨_, rfl, by rw [(cmpS_sign).1]; omega, by rw [(cmpS_sign).2]; omega, below_drewN (below_two _ _) _⟩
  · go_enter Try.func58, Try.ntmps58
    go_wp2
    go_ret
    have e1 := Hs1.out; have e2 := Hs2.out
    simp at e1 e2
    exact ⟨_, rfl, by omega, by omega, (below_two _ _)⟩
  · go_enter Try.func58, Try.ntmps58
    go_wp2
    go_ret
    have e1 := Hs1.out; have e2 := Hs2.out
    simp at e1 e2
    exact ⟨_, rfl, by omega, by omega, (below_two _ _)⟩
  · go_enter Try.func58, Try.ntmps58
    go_wp2_with fail
    refine (cmp_any _ _ a2 a1 n2 n1 c2 c1 _ (H2.out.go (below_two _ _)) (H1.out.go (below_two _ _)) (by omega) (by omega) (dig_digs _) (dig_digs _)).mono ?_
    rintro e w1 ⟨rfl, k, rfl⟩
    go_wp2
    go_ret
    have e1 := Hs1.out; have e2 := Hs2.out
    simp at e1 e2
    exact ⟨_, rfl, by rw [(cmpS_sign).1]; omega, by rw [(cmpS_sign).2]; omega, below_drewN (below_two _ _) _⟩

/-- the order of two numbers as -1, 0, 1 -/
def cmpZ (x y : Int) : Int := if x < y then -1 else if y < x then 1 else 0

/-- a call that gives back the order and OK -/
def RetCmp (w : World) (x y : Int) (e : Ending) (w' : World) : Prop := e = .returned (.tuple #[.int .i64 (cmpZ x y), .int .i64 0]) ∧ Below w.heap.size w w'

set_option maxHeartbeats 800000 in
theorem lcmp_any (s1 s2 : Bool) (z1 z2 : Int) (a1 a2 : Option Addr) (n1 n2 c1 c2 : Nat) (w : World) (h1 : LG w.heap.size w s1 a1 n1 c1 z1) (h2 : LG w.heap.size w s2 a2 n2 c2 z2) :
    Calls Try.prog 35 #[.agg #[.bool s1, .slice a1 n1 c1], .agg #[.bool s2, .slice a2 n2 c2]] w (RetCmp w z1 z2) := by
  have H1 := Lib.hid h1; have H2 := Lib.hid h2; clear h1 h2
  go_enter Try.func35, Try.ntmps35
  go_wp2_with fail
  have hq := below3 w (.cells #[.bool s1, .slice a1 n1 c1] 51) (.cells #[.bool s2, .slice a2 n2 c2] 51) (.cells #[.bool s1, .slice a1 n1 c1, .bool s2, .slice a2 n2 c2] 51)
  have hc := cells3 w #[.bool s1, .slice a1 n1 c1] #[.bool s2, .slice a2 n2 c2] #[.bool s1, .slice a1 n1 c1, .bool s2, .slice a2 n2 c2] 51 51 51
  have Hq := Lib.hid hq; have Hc := Lib.hid hc; clear hq hc
  refine (all_two (w.heap.size + 1 + 1) s1 s2 z1 z2 a1 a2 n1 n2 c1 c2 _ (H1.out.go Hq.out) (H2.out.go Hq.out) (by simp) (Hc.out.2.2 0) (Hc.out.2.2 1) (Hc.out.2.2 2) (Hc.out.2.2 3)).mono ?_
  rintro e w1 ⟨rfl, hb1⟩
  have j0 := (hb1.cell (p := ⟨w.heap.size, 0, none⟩) (by simp; omega)).trans (Hc.out.1 0)
  have j1 := (hb1.cell (p := ⟨w.heap.size, 1, none⟩) (by simp; omega)).trans (Hc.out.1 1)
  have j2 := (hb1.cell (p := ⟨w.heap.size + 1, 0, none⟩) (by simp)).trans (Hc.out.2.1 0)
  have j3 := (hb1.cell (p := ⟨w.heap.size + 1, 1, none⟩) (by simp)).trans (Hc.out.2.1 1)
  simp at j0 j1 j2 j3
  have hb1' := Hq.out.trans (hb1.mono (by simp; omega))
  go_wp2_with fail
  refine (signed_any s1 s2 z1 z2 a1 a2 n1 n2 c1 c2 _ (H1.out.go hb1') (H2.out.go hb1')).mono ?_
  rintro e w2 ⟨r, rfl, hr1, hr2, hb2⟩
  have hbb := hb1'.trans (hb2.mono hb1'.size)
  have hz : cmpZ z1 z2 = if 0 < r then 1 else if r < 0 then -1 else 0 := by
    unfold cmpZ
    by_cases a : 0 < r
    · rw [if_pos a, if_neg (by omega), if_pos (by omega)]
    · by_cases b : r < 0
      · rw [if_neg a, if_pos b, if_pos (by omega)]
      · rw [if_neg a, if_neg b, if_neg (by omega), if_neg (by omega)]
  have Hz := Lib.hid hz; clear hz hr1 hr2
  by_cases q1 : r = 1
  · subst q1
    go_wp2
    go_ret2
    exact ⟨by rw [Hz.out]; rfl, hbb⟩
  by_cases q2 : r = 0
  · subst q2
    go_wp2
    go_ret2
    exact ⟨by rw [Hz.out]; rfl, hbb⟩
  by_cases q3 : r = -1
  · subst q3
    go_wp2
    go_ret2
    exact ⟨by rw [Hz.out]; rfl, hbb⟩
  by_cases q4 : 1 < r
  · clear q1 q2 q3
    go_wp2
    go_ret2
    exact ⟨by rw [Hz.out, if_pos (by omega)]; rfl, hbb⟩
  · have q5 : r < -1 := by omega
    clear q1 q2 q3 q4
    go_wp2
    go_ret2
    exact ⟨by rw [Hz.out, if_neg (by omega), if_pos (by omega)]; rfl, hbb⟩

end Go.Proofs.Ytkfkdkoohnfgaaa
