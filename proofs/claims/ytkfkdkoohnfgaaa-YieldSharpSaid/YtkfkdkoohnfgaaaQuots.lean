/-
  DERIVED. Several texts in one: QuotA, QuotB, QuotC, QuotD, QuotE, QuotF, QuotG, QuotH, QuotI, QuotJ, QuotK.
-/
import Derived.Test.YtkfkdkoohnfgaaaQNum
import Derived.Test.YtkfkdkoohnfgaaaLongC
import Derived.Test.YtkfkdkoohnfgaaaLongB
namespace Go.Proofs.Ytkfkdkoohnfgaaa
open Go.RowKit

theorem cells_of3 {w : World} {b : Nat} {x y z : Value} {t : TypeId} (h : w.heap[b]? = some (.cells #[x, y, z] t (0, 0))) :
    w.cell? ⟨b, 0, none⟩ = some x ∧ w.cell? ⟨b, 1, none⟩ = some y ∧ w.cell? ⟨b, 2, none⟩ = some z ∧ w.frozen? ⟨b, 0, none⟩ = false ∧ w.frozen? ⟨b, 1, none⟩ = false ∧ w.frozen? ⟨b, 2, none⟩ = false := by
  refine ⟨?_, ?_, ?_, ?_, ?_, ?_⟩ <;> simp [World.cell?, World.frozen?, h]
theorem cells_of4 {w : World} {b : Nat} {x y z u : Value} {t : TypeId} (h : w.heap[b]? = some (.cells #[x, y, z, u] t (0, 0))) :
    w.cell? ⟨b, 0, none⟩ = some x ∧ w.cell? ⟨b, 1, none⟩ = some y ∧ w.cell? ⟨b, 2, none⟩ = some z ∧ w.cell? ⟨b, 3, none⟩ = some u ∧ w.frozen? ⟨b, 0, none⟩ = false ∧ w.frozen? ⟨b, 1, none⟩ = false ∧ w.frozen? ⟨b, 2, none⟩ = false ∧ w.frozen? ⟨b, 3, none⟩ = false := by
  refine ⟨?_, ?_, ?_, ?_, ?_, ?_, ?_, ?_⟩ <;> simp [World.cell?, World.frozen?, h]

set_option maxHeartbeats 800000 in
theorem qread_any (s t : Bool) (a b : Option Addr) (n m c d : Nat) (w : World) :
    Calls Try.prog 47 #[.agg #[.bool s, .slice a n c, .bool t, .slice b m d]] w (RetB w (.agg #[.bool s, .slice a n c, .slice b m d])) := by
  obtain ⟨e1, e2⟩ := heap_two w (.cells #[.bool s, .slice a n c, .bool t, .slice b m d] 62) (.cells #[.bool false, .slice none 0 0, .slice none 0 0] 88)
  obtain ⟨c0, c1, c2, c3, _, _, _, _⟩ := cells_of4 e1
  obtain ⟨d0, d1, d2, f0, f1, f2⟩ := cells_of3 e2
  have hb := below_two (w := w) (.cells #[.bool s, .slice a n c, .bool t, .slice b m d] 62) (.cells #[.bool false, .slice none 0 0, .slice none 0 0] 88)
  have Hb := Lib.hid hb
  clear hb e1 e2
  go_enter Try.func47, Try.ntmps47
  go_wp2
  refine bodyPost_ret (v := .agg #[.bool s, .slice a n c, .slice b m d]) ?_ rfl ?_
  · simp [results, Try.results47, go_sem]
  · exact ⟨rfl, below_two _ _⟩

/-- without: a quotient -/
theorem without_any (x y : Nat) (a b : Option Addr) (n m c d : Nat) (w : World) (ha : SL w.heap.size w a n c (digs x)) (hb : SL w.heap.size w b m d (digs y)) (hn : n ≤ 100000) (hm : m ≤ 100000) (hy : 0 < y) :
    Calls Try.prog 69 #[.slice a n c, .slice b m d] w (RetS w (digs (x / y))) := by
  have Ha := Lib.hid ha; have Hb := Lib.hid hb; clear ha hb
  go_enter Try.func69, Try.ntmps69
  go_wp2_with fail
  refine (over_any x y a b n m c d _ Ha.out Hb.out hn hm hy).mono ?_
  rintro e w2 ⟨a2, n2, c2, a3, n3, c3, rfl, hs2, _, hb2, hf2⟩
  have Hs2 := Lib.hid hs2; have Hb2 := Lib.hid hb2; have Hf2 := Lib.hid hf2; clear hs2 hb2 hf2
  go_wp2
  go_ret
  exact ⟨_, _, _, rfl, Hs2.out, Hb2.out, Hf2.out⟩

/-- a call that gives back an integer: a sign, and a size in memory of its own -/
def RetW (w : World) (s : Bool) (k : Nat) (e : Ending) (w' : World) : Prop :=
  ∃ a n c, e = .returned (.agg #[.bool s, .slice a n c]) ∧ SL w'.heap.size w' a n c (digs k) ∧ Below w.heap.size w w' ∧ Fresh w.heap.size a n

theorem sl_kept {N : Nat} {w : World} {a : Option Addr} {n c blk M : Nat} {zs : List Int} (h : SL N w a n c zs) (hf : Fresh M a n) (hb : blk < M) (i : Nat) (v : Value) : SL N (w.setCell ⟨blk, i, none⟩ v) a n c zs :=
  h.setCell ⟨blk, i, none⟩ v (fun b off e h0 => by have := hf b off e h0; show b ≠ blk; omega)

set_option maxRecDepth 100000 in
set_option maxHeartbeats 800000 in
theorem qtimes_any (s : Bool) (x y : Nat) (a b : Option Addr) (n m c d : Nat) (w : World) (ha : SL w.heap.size w a n c (digs x)) (hb : SL w.heap.size w b m d (digs y)) (hn : n ≤ 100000) (hm : m ≤ 100000) :
    Calls Try.prog 48 #[.agg #[.bool s, .slice a n c], .slice b m d] w (RetW w s (x * y)) := by
  have Ha := Lib.hid ha; have Hb := Lib.hid hb; clear ha hb
  obtain ⟨e1, e2⟩ := heap_two w (.cells #[.bool s, .slice a n c] 86) (.cells #[.bool false, .slice none 0 0] 86)
  have hbb := below_two (w := w) (.cells #[.bool s, .slice a n c] 86) (.cells #[.bool false, .slice none 0 0] 86)
  have Hbb := Lib.hid hbb; have E1 := Lib.hid e1; have E2 := Lib.hid e2
  clear hbb e1 e2
  go_enter Try.func48, Try.ntmps48
  go_wp2_with fail
  generalize hw0 : ((w.alloc (.cells #[.bool s, .slice a n c] 86)).alloc (.cells #[.bool false, .slice none 0 0] 86)) = w0 at *
  have hs0 : w.heap.size + 1 < w0.heap.size := by rw [← hw0]; simp
  obtain ⟨q1, q2, _, _⟩ := cells_at E1.out
  clear hw0
  refine wp_region_floats 7 [] [] [(0, true), (1, true), (2, true), (3, true), (4, true), (5, false), (6, true)] (by kernel_rfl) (by kernel_rfl) ⟨by simp, by simp, fun _ h => by cases h⟩ (fun _ _ _ _ _ h => h) (fun _ _ o _ _ h => by cases o <;> exact h) ?_
  iterate 5
    refine wpG_yield (v := ?_) rfl rfl (by rfl) ?_ ?_
    rotate_left
    · intro x hx
      have z1 := (hx.cell (p := ⟨w.heap.size, 0, none⟩) (by show w.heap.size < w0.heap.size; omega)).trans q1
      have z2 := (hx.cell (p := ⟨w.heap.size, 1, none⟩) (by show w.heap.size < w0.heap.size; omega)).trans q2
      go_simp
      with_reducible rfl
    try simp only [Act.put, List.setIfInBounds_toArray, List.set_cons_zero, List.set_cons_succ]
  refine wpG_step rfl rfl (fun x1 hx1 K hK => ?_)
  go_simp
  have hx1' : Below w0.heap.size w0 x1 := below_undrew (k := 1) hx1
  have hw1 := Hbb.out.trans (hx1'.mono Hbb.out.size)
  refine (times_any x y a b n m c d _ (Ha.out.go hw1) (Hb.out.go hw1) (by omega) (by omega)).mono ?_
  rintro e w2 ⟨a2, n2, c2, rfl, hs2, hb2, hf2⟩
  refine hK _ _ hb2 ?_
  clear hK K
  refine wpG_pure (v := ?_) rfl (by rfl) ?_ ?_
  rotate_left
  · intro x
    go_simp
    with_reducible rfl
  try simp only [Act.put, List.setIfInBounds_toArray, List.set_cons_zero, List.set_cons_succ]
  refine wpG_nil0 rfl (fun w3 hb3 => ?_)
  have hx0 : w.heap.size + 1 < x1.heap.size := by have := hx1'.size; omega
  have hb23 : Below x1.heap.size x1 w3 := hb2.trans (hb3.mono hb2.size)
  have e2 := (((hx1'.trans (hb23.mono hx1'.size)).block (w.heap.size + 1) hs0).trans E2.out)
  obtain ⟨k1, k2, f1, f2⟩ := cells_at e2
  have hw3 := hw1.trans (hb23.mono hw1.size)
  have Hs2 := Lib.hid (hs2.go hb3); have Hf2 := Lib.hid hf2; have Hw3 := Lib.hid hw3
  clear hs2 hf2 hw3 hb2 hb3 hb23 hx1 hx1' hw1 e2 q1 q2
  go_wp2_with fail
  refine bodyPost_end (v := .agg #[.bool s, .slice a2 n2 c2]) ?_ rfl ?_
  · simp [results, Try.results48, go_sem, k1, k2]
  · exact ⟨a2, n2, c2, rfl, by simpa using sl_kept (sl_kept Hs2.out Hf2.out hx0 0 (.bool s)) Hf2.out hx0 1 (.slice a2 n2 c2), (Hw3.out.setCell (by show w.heap.size ≤ w.heap.size + 1; omega) _).setCell (by show w.heap.size ≤ w.heap.size + 1; omega) _, Hf2.out.mono (by omega)⟩

/-- a call that gives back a fraction of any length: a sign and two sizes in memory of their own -/
def RetRt (w : World) (s : Bool) (k d : Nat) (e : Ending) (w' : World) : Prop :=
  ∃ a n c a' n' c', e = .returned (.agg #[.bool s, .slice a n c, .slice a' n' c']) ∧ SL w'.heap.size w' a n c (digs k) ∧ SL w'.heap.size w' a' n' c' (digs d) ∧ Below w.heap.size w w' ∧ Fresh w.heap.size a n ∧ Fresh w.heap.size a' n'

/-- less: without the divisor -/
theorem qless_any (x y g : Nat) (a b : Option Addr) (n m c d : Nat) (w : World) (ha : SL w.heap.size w a n c (digs x)) (hb : SL w.heap.size w b m d (digs y)) (hg : w.cell? ⟨g, 0, none⟩ = some (.slice b m d)) (hn : n ≤ 100000) (hm : m ≤ 100000) (hy : 0 < y) :
    Calls Try.prog 79 #[.slice a n c, .pointer (some ⟨g, 0, none⟩)] w (RetS w (digs (x / y))) := by
  have Ha := Lib.hid ha; have Hb := Lib.hid hb; clear ha hb
  go_enter Try.func79, Try.ntmps79
  go_wp2_with fail
  refine (without_any x y a b n m c d _ Ha.out Hb.out hn hm hy).mono ?_
  rintro e w2 ⟨a2, n2, c2, rfl, hs2, hb2, hf2⟩
  have Hs2 := Lib.hid hs2; have Hb2 := Lib.hid hb2; have Hf2 := Lib.hid hf2; clear hs2 hb2 hf2
  go_wp2
  go_ret
  exact ⟨_, _, _, rfl, Hs2.out, Hb2.out, Hf2.out⟩

set_option maxRecDepth 100000 in
set_option maxHeartbeats 1600000 in
theorem reduced_any (s : Bool) (x y : Nat) (a b : Option Addr) (n m c d : Nat) (w : World) (ha : SL w.heap.size w a n c (digs x)) (hb : SL w.heap.size w b m d (digs y)) (hn : n ≤ 100000) (hm : m ≤ 100000) (hy : 0 < y) :
    Calls Try.prog 66 #[.agg #[.bool s, .slice a n c, .slice b m d]] w (RetRt w s (x / Nat.gcd x y) (y / Nat.gcd x y)) := by
  have hg0 : 0 < Nat.gcd x y := Nat.gcd_pos_of_pos_right _ hy
  have hgl : (digs (Nat.gcd x y)).length ≤ 100000 := Nat.le_trans (length_digs_mono (Nat.le_of_dvd hy (Nat.gcd_dvd_right x y))) (by rw [← hb.len]; exact hm)
  have Ha := Lib.hid ha; have Hb := Lib.hid hb; clear ha hb
  obtain ⟨e1, e2⟩ := heap_two w (.cells #[.bool s, .slice a n c, .slice b m d] 88) (.cells #[.bool false, .slice none 0 0, .slice none 0 0] 88)
  have hbb := below_two (w := w) (.cells #[.bool s, .slice a n c, .slice b m d] 88) (.cells #[.bool false, .slice none 0 0, .slice none 0 0] 88)
  have Hbb := Lib.hid hbb; have E1 := Lib.hid e1; have E2 := Lib.hid e2; have Hgl := Lib.hid hgl
  clear hbb e1 e2 hgl
  go_enter Try.func66, Try.ntmps66
  go_wp2_with fail
  refine (common_any x y a b n m c d _ (Ha.out.go Hbb.out) (Hb.out.go Hbb.out) hn hm).mono ?_
  rintro e w1 ⟨a1, n1, c1, rfl, hs1, hb1⟩
  have h1 : n1 ≤ 100000 := by rw [hs1.len]; exact Hgl.out
  have hsz := hb1.size
  simp at hsz
  have e1 := (hb1.block w.heap.size (by simp <;> omega)).trans E1.out
  have e2 := (hb1.block (w.heap.size + 1) (by simp)).trans E2.out
  have hw1 := Hbb.out.trans (hb1.mono (by simp; omega))
  have hza := (Below.refl w1.heap.size w1).alloc (Nat.le_refl _) (.cells #[.slice a1 n1 c1] 84)
  have en := heap_alloc_new w1 (.cells #[.slice a1 n1 c1] 84)
  have hs1' := hs1.go hza
  have hw1' := hw1.trans (hza.mono hw1.size)
  have e1' := (hza.block w.heap.size (by omega)).trans e1
  have e2' := (hza.block (w.heap.size + 1) (by omega)).trans e2
  have E1' := Lib.hid e1'; have E2' := Lib.hid e2'; have En := Lib.hid en; have Hw1' := Lib.hid hw1'; have Hs1' := Lib.hid hs1'; have Hsz := Lib.hid hsz
  clear hs1 hb1 e1 e2 hw1 hza en hs1' hw1' e1' e2' hsz
  go_wp2_with fail
  have hsW : w1.heap.size < (w1.alloc (.cells #[.slice a1 n1 c1] 84)).heap.size := by simp
  generalize w1.alloc (.cells #[.slice a1 n1 c1] 84) = w2 at *
  obtain ⟨q1, q2, q3, _, _, _⟩ := cells_of3 E1'.out
  have qn := (obj_cell En.out 0).trans rfl
  refine wp_region_floats 14 [] [] [(0, true), (1, true), (2, true), (3, true), (4, true), (5, true), (6, true), (9, true), (10, true), (11, true), (7, false), (8, true), (12, false), (13, true)] (by kernel_rfl) (by kernel_rfl) ⟨by simp, by simp, fun _ h => by cases h⟩ (fun _ _ _ _ _ h => h) (fun _ _ o _ _ h => by cases o <;> exact h) ?_
  iterate 10
    refine wpG_yield (v := ?_) rfl rfl (by rfl) ?_ ?_
    rotate_left
    · intro x hx
      have z1 := (hx.cell (p := ⟨w.heap.size, 0, none⟩) (by show w.heap.size < w2.heap.size; have := Hsz.out; omega)).trans q1
      have z2 := (hx.cell (p := ⟨w.heap.size, 1, none⟩) (by show w.heap.size < w2.heap.size; have := Hsz.out; omega)).trans q2
      have z3 := (hx.cell (p := ⟨w.heap.size, 2, none⟩) (by show w.heap.size < w2.heap.size; have := Hsz.out; omega)).trans q3
      go_simp
      with_reducible rfl
    try simp only [Act.put, List.setIfInBounds_toArray, List.set_cons_zero, List.set_cons_succ]
  refine wpG_step rfl rfl (fun x1 hx1 K hK => ?_)
  go_simp
  have hx1' : Below w2.heap.size w2 x1 := below_undrew (k := 1) hx1
  have hw2 := Hw1'.out.trans (hx1'.mono Hw1'.out.size)
  refine (qless_any x (Nat.gcd x y) w1.heap.size a a1 n n1 c c1 _ (Ha.out.go hw2) (Hs1'.out.go hx1') ((hx1'.cell (p := ⟨w1.heap.size, 0, none⟩) hsW).trans qn) hn h1 hg0).mono ?_
  rintro e w3 ⟨a3, n3, c3, rfl, hs3, hb3, hf3⟩
  refine hK _ _ hb3 ?_
  clear hK K
  refine wpG_pure (v := ?_) rfl (by rfl) ?_ ?_
  rotate_left
  · intro x
    go_simp
    with_reducible rfl
  try simp only [Act.put, List.setIfInBounds_toArray, List.set_cons_zero, List.set_cons_succ]
  refine wpG_step rfl rfl (fun x2 hx2 K hK => ?_)
  go_simp
  have h12 : Below w2.heap.size w2 x2 := hx1'.trans ((hb3.trans (hx2.mono hb3.size)).mono hx1'.size)
  have hw3 := Hw1'.out.trans (h12.mono Hw1'.out.size)
  refine (qless_any y (Nat.gcd x y) w1.heap.size b a1 m n1 d c1 _ (Hb.out.go hw3) (Hs1'.out.go h12) ((h12.cell (p := ⟨w1.heap.size, 0, none⟩) hsW).trans qn) hm h1 hg0).mono ?_
  rintro e w4 ⟨a4, n4, c4, rfl, hs4, hb4, hf4⟩
  refine hK _ _ hb4 ?_
  clear hK K
  refine wpG_pure (v := ?_) rfl (by rfl) ?_ ?_
  rotate_left
  · intro x
    go_simp
    with_reducible rfl
  try simp only [Act.put, List.setIfInBounds_toArray, List.set_cons_zero, List.set_cons_succ]
  refine wpG_nil0 rfl (fun w5 hb5 => ?_)
  have hb45 : Below x2.heap.size x2 w5 := hb4.trans (hb5.mono hb4.size)
  have h25 := h12.trans (hb45.mono h12.size)
  have e2 := (h25.block (w.heap.size + 1) (by have := Hsz.out; omega)).trans E2'.out
  obtain ⟨k1, k2, k3, f1, f2, f3⟩ := cells_of3 e2
  have hw5 := Hw1'.out.trans (h25.mono Hw1'.out.size)
  have s1 : w.heap.size + 1 < x1.heap.size := by have := hx1'.size; have := Hsz.out; omega
  have s2 : w.heap.size + 1 < x2.heap.size := by have := h12.size; have := Hsz.out; omega
  have Hs3 := Lib.hid ((hs3.go hx2).go hb45); have Hs4 := Lib.hid (hs4.go hb5); have Hw5 := Lib.hid hw5; have Hf3 := Lib.hid hf3; have Hf4 := Lib.hid hf4
  clear hs3 hs4 hw5 hf3 hf4 hb3 hb4 hb5 hb45 h25 h12 hx1 hx1' hx2 hw2 hw3 e2 q1 q2 q3 qn
  go_wp2_with fail
  refine bodyPost_end (v := .agg #[.bool s, .slice a3 n3 c3, .slice a4 n4 c4]) ?_ rfl ?_
  · simp [results, Try.results66, go_sem, k1, k2, k3]
  · have g3 := sl_kept (sl_kept (sl_kept Hs3.out Hf3.out s1 0 (.bool s)) Hf3.out s1 1 (.slice a3 n3 c3)) Hf3.out s1 2 (.slice a4 n4 c4)
    have g4 := sl_kept (sl_kept (sl_kept Hs4.out Hf4.out s2 0 (.bool s)) Hf4.out s2 1 (.slice a3 n3 c3)) Hf4.out s2 2 (.slice a4 n4 c4)
    refine ⟨a3, n3, c3, a4, n4, c4, rfl, by simpa using g3, by simpa using g4, ((Hw5.out.setCell ?_ _).setCell ?_ _).setCell ?_ _, Hf3.out.mono (by omega), Hf4.out.mono (by omega)⟩
    · show w.heap.size ≤ w.heap.size + 1; omega
    · show w.heap.size ≤ w.heap.size + 1; omega
    · show w.heap.size ≤ w.heap.size + 1; omega

end Go.Proofs.Ytkfkdkoohnfgaaa

namespace Go.Proofs.Ytkfkdkoohnfgaaa
open Go.RowKit

def plusS (s t : Bool) (x y : Nat) : Bool := if s = t then s else if x < y then t else s
def plusK (s t : Bool) (x y : Nat) : Nat := if s = t then x + y else if x < y then y - x else x - y

theorem plus_sgn (s t : Bool) (x y : Nat) : sgn (plusS s t x y) (plusK s t x y) = sgn s x + sgn t y := by
  unfold plusS plusK sgn
  by_cases h : s = t
  · subst h; cases s <;> simp <;> omega
  · rw [if_neg h, if_neg h]
    by_cases h2 : x < y
    · rw [if_pos h2, if_pos h2]; cases s <;> cases t <;> simp at h ⊢ <;> omega
    · rw [if_neg h2, if_neg h2]; cases s <;> cases t <;> simp at h ⊢ <;> omega

set_option maxRecDepth 100000 in
set_option maxHeartbeats 1600000 in
theorem qplus_any (s t : Bool) (x y : Nat) (a b : Option Addr) (n m c d : Nat) (w : World) (ha : SL w.heap.size w a n c (digs x)) (hb : SL w.heap.size w b m d (digs y)) (hn : n ≤ 100000) (hm : m ≤ 100000) :
    Calls Try.prog 49 #[.agg #[.bool s, .slice a n c], .agg #[.bool t, .slice b m d]] w (RetW w (plusS s t x y) (plusK s t x y)) := by
  have Ha := Lib.hid ha; have Hb := Lib.hid hb; clear ha hb
  obtain ⟨e1, e2, e3⟩ := heap_three w (.cells #[.bool s, .slice a n c] 86) (.cells #[.bool t, .slice b m d] 86) (.cells #[.bool false, .slice none 0 0] 86)
  have hw0 := below_three w (.cells #[.bool s, .slice a n c] 86) (.cells #[.bool t, .slice b m d] 86) (.cells #[.bool false, .slice none 0 0] 86)
  have Hw0 := Lib.hid hw0; have E1 := Lib.hid e1; have E2 := Lib.hid e2; have E3 := Lib.hid e3
  clear hw0 e1 e2 e3
  by_cases hst : s = t
  · have he : plusS s t x y = s ∧ plusK s t x y = x + y := by unfold plusS plusK; rw [if_pos hst, if_pos hst]; exact ⟨rfl, rfl⟩
    rw [he.1, he.2]
    have hq : (s == t) = true := by simpa using hst
    clear he hst
    go_enter Try.func49, Try.ntmps49
    go_wp2_with fail
    generalize hw0e : ((w.alloc (.cells #[.bool s, .slice a n c] 86)).alloc (.cells #[.bool t, .slice b m d] 86)).alloc (.cells #[.bool false, .slice none 0 0] 86) = w0 at *
    have hs0 : w.heap.size + 2 < w0.heap.size := by rw [← hw0e]; simp
    obtain ⟨q1, q2, _, _⟩ := cells_at E1.out
    obtain ⟨q3, q4, _, _⟩ := cells_at E2.out
    clear hw0e
    refine wp_region_floats 8 [] [] [(0, true), (1, true), (2, true), (3, true), (4, true), (5, true), (6, false), (7, true)] (by kernel_rfl) (by kernel_rfl) ⟨by simp, by simp, fun _ h => by cases h⟩ (fun _ _ _ _ _ h => h) (fun _ _ o _ _ h => by cases o <;> exact h) ?_
    iterate 6
      refine wpG_yield (v := ?_) rfl rfl (by rfl) ?_ ?_
      rotate_left
      · intro z hz
        have z1 := (hz.cell (p := ⟨w.heap.size, 0, none⟩) (by show w.heap.size < w0.heap.size; omega)).trans q1
        have z2 := (hz.cell (p := ⟨w.heap.size, 1, none⟩) (by show w.heap.size < w0.heap.size; omega)).trans q2
        have z3 := (hz.cell (p := ⟨w.heap.size + 1, 0, none⟩) (by show w.heap.size + 1 < w0.heap.size; omega)).trans q3
        have z4 := (hz.cell (p := ⟨w.heap.size + 1, 1, none⟩) (by show w.heap.size + 1 < w0.heap.size; omega)).trans q4
        go_simp
        with_reducible rfl
      try simp only [Act.put, List.setIfInBounds_toArray, List.set_cons_zero, List.set_cons_succ]
    refine wpG_step rfl rfl (fun x1 hx1 K hK => ?_)
    go_simp
    have hx1' : Below w0.heap.size w0 x1 := below_undrew (k := 1) hx1
    have hw1 := Hw0.out.trans (hx1'.mono Hw0.out.size)
    refine (plus_any x y a b n m c d _ (Ha.out.go hw1) (Hb.out.go hw1) (by omega) (by omega)).mono ?_
    rintro e w2 ⟨a2, n2, c2, rfl, hs2, hb2, hf2⟩
    refine hK _ _ hb2 ?_
    clear hK K
    refine wpG_pure (v := ?_) rfl (by rfl) ?_ ?_
    rotate_left
    · intro z
      go_simp
      with_reducible rfl
    try simp only [Act.put, List.setIfInBounds_toArray, List.set_cons_zero, List.set_cons_succ]
    refine wpG_nil0 rfl (fun w3 hb3 => ?_)
    have hx0 : w.heap.size + 2 < x1.heap.size := by have := hx1'.size; omega
    have hb23 : Below x1.heap.size x1 w3 := hb2.trans (hb3.mono hb2.size)
    have e3 := (((hx1'.trans (hb23.mono hx1'.size)).block (w.heap.size + 2) hs0).trans E3.out)
    obtain ⟨k1, k2, f1, f2⟩ := cells_at e3
    have hw3 := hw1.trans (hb23.mono hw1.size)
    have Hs2 := Lib.hid (hs2.go hb3); have Hf2 := Lib.hid hf2; have Hw3 := Lib.hid hw3
    clear hs2 hf2 hw3 hb2 hb3 hb23 hx1 hx1' hw1 e3 q1 q2 q3 q4
    go_wp2_with fail
    refine bodyPost_ret (v := .agg #[.bool s, .slice a2 n2 c2]) ?_ rfl ?_
    · simp [results, Try.results49, go_sem, k1, k2]
    · exact ⟨a2, n2, c2, rfl, by simpa using sl_kept (sl_kept Hs2.out Hf2.out hx0 0 (.bool s)) Hf2.out hx0 1 (.slice a2 n2 c2), (Hw3.out.setCell (by show w.heap.size ≤ w.heap.size + 2; omega) _).setCell (by show w.heap.size ≤ w.heap.size + 2; omega) _, Hf2.out.mono (by omega)⟩
  · have hq : (s == t) = false := by simpa using hst
    have hsg := (cmpS_sign (m := x) (n := y)).2
    by_cases hxy : x < y
    · have he : plusS s t x y = t ∧ plusK s t x y = y - x := by unfold plusS plusK; rw [if_neg hst, if_pos hxy, if_neg hst, if_pos hxy]; exact ⟨rfl, rfl⟩
      rw [he.1, he.2]
      have hr : cmpS (digs x) (digs y) < 0 := hsg.2 hxy
      have Hr := Lib.hid hr
      clear he hst hsg hr
      go_enter Try.func49, Try.ntmps49
      go_wp2_with fail
      refine (cmp_any (digs x) (digs y) a b n m c d _ (Ha.out.go Hw0.out) (Hb.out.go Hw0.out) (by omega) (by omega) (dig_digs x) (dig_digs y)).mono ?_
      rintro e w1 ⟨rfl, kk, rfl⟩
      have hr := Hr.out
      generalize cmpS (digs x) (digs y) = r at *
      go_wp2_with fail
      have hs0 : w.heap.size + 2 < (World.drewN (((w.alloc (.cells #[.bool s, .slice a n c] 86)).alloc (.cells #[.bool t, .slice b m d] 86)).alloc (.cells #[.bool false, .slice none 0 0] 86)) kk).heap.size := by show _ < (((w.alloc (.cells #[.bool s, .slice a n c] 86)).alloc (.cells #[.bool t, .slice b m d] 86)).alloc (.cells #[.bool false, .slice none 0 0] 86)).heap.size; simp
      have e1 := E1.out; have e2 := E2.out; have e3 := E3.out; have hww := below_drewN Hw0.out kk
      generalize hw0e : World.drewN (((w.alloc (.cells #[.bool s, .slice a n c] 86)).alloc (.cells #[.bool t, .slice b m d] 86)).alloc (.cells #[.bool false, .slice none 0 0] 86)) kk = w0 at *
      have E1 : Hid (w0.heap[w.heap.size]? = some (.cells #[.bool s, .slice a n c] 86 (0, 0))) := Lib.hid (by rw [← hw0e]; exact e1)
      have E2 : Hid (w0.heap[w.heap.size + 1]? = some (.cells #[.bool t, .slice b m d] 86 (0, 0))) := Lib.hid (by rw [← hw0e]; exact e2)
      have E3 : Hid (w0.heap[w.heap.size + 2]? = some (.cells #[.bool false, .slice none 0 0] 86 (0, 0))) := Lib.hid (by rw [← hw0e]; exact e3)
      have Hw0 := Lib.hid hww
      clear hww hw0e e1 e2 e3
      obtain ⟨q1, q2, _, _⟩ := cells_at E1.out
      obtain ⟨q3, q4, _, _⟩ := cells_at E2.out
      refine wp_region_floats 8 [] [] [(0, true), (1, true), (2, true), (3, true), (4, true), (5, true), (6, false), (7, true)] (by kernel_rfl) (by kernel_rfl) ⟨by simp, by simp, fun _ h => by cases h⟩ (fun _ _ _ _ _ h => h) (fun _ _ o _ _ h => by cases o <;> exact h) ?_
      iterate 6
        refine wpG_yield (v := ?_) rfl rfl (by rfl) ?_ ?_
        rotate_left
        · intro z hz
          have z1 := (hz.cell (p := ⟨w.heap.size, 0, none⟩) (by show w.heap.size < w0.heap.size; omega)).trans q1
          have z2 := (hz.cell (p := ⟨w.heap.size, 1, none⟩) (by show w.heap.size < w0.heap.size; omega)).trans q2
          have z3 := (hz.cell (p := ⟨w.heap.size + 1, 0, none⟩) (by show w.heap.size + 1 < w0.heap.size; omega)).trans q3
          have z4 := (hz.cell (p := ⟨w.heap.size + 1, 1, none⟩) (by show w.heap.size + 1 < w0.heap.size; omega)).trans q4
          go_simp
          with_reducible rfl
        try simp only [Act.put, List.setIfInBounds_toArray, List.set_cons_zero, List.set_cons_succ]
      refine wpG_step rfl rfl (fun x1 hx1 K hK => ?_)
      go_simp
      have hx1' : Below w0.heap.size w0 x1 := below_undrew (k := 1) hx1
      have hw1 := Hw0.out.trans (hx1'.mono Hw0.out.size)
      refine (minus_any y x b a m n d c _ (Hb.out.go hw1) (Ha.out.go hw1) (by omega) (by omega)).mono ?_
      rintro e w2 ⟨a2, n2, c2, rfl, hs2, hb2, hf2⟩
      refine hK _ _ hb2 ?_
      clear hK K
      refine wpG_pure (v := ?_) rfl (by rfl) ?_ ?_
      rotate_left
      · intro z
        go_simp
        with_reducible rfl
      try simp only [Act.put, List.setIfInBounds_toArray, List.set_cons_zero, List.set_cons_succ]
      refine wpG_nil0 rfl (fun w3 hb3 => ?_)
      have hx0 : w.heap.size + 2 < x1.heap.size := by have := hx1'.size; omega
      have hb23 : Below x1.heap.size x1 w3 := hb2.trans (hb3.mono hb2.size)
      have e3 := (((hx1'.trans (hb23.mono hx1'.size)).block (w.heap.size + 2) hs0).trans E3.out)
      obtain ⟨k1, k2, f1, f2⟩ := cells_at e3
      have hw3 := hw1.trans (hb23.mono hw1.size)
      have Hs2 := Lib.hid (hs2.go hb3); have Hf2 := Lib.hid hf2; have Hw3 := Lib.hid hw3
      clear hs2 hf2 hw3 hb2 hb3 hb23 hx1 hx1' hw1 e3 q1 q2 q3 q4
      go_wp2_with fail
      refine bodyPost_ret (v := .agg #[.bool t, .slice a2 n2 c2]) ?_ rfl ?_
      · simp [results, Try.results49, go_sem, k1, k2]
      · exact ⟨a2, n2, c2, rfl, by simpa using sl_kept (sl_kept Hs2.out Hf2.out hx0 0 (.bool t)) Hf2.out hx0 1 (.slice a2 n2 c2), (Hw3.out.setCell (by show w.heap.size ≤ w.heap.size + 2; omega) _).setCell (by show w.heap.size ≤ w.heap.size + 2; omega) _, Hf2.out.mono (by omega)⟩
    · have he : plusS s t x y = s ∧ plusK s t x y = x - y := by unfold plusS plusK; rw [if_neg hst, if_neg hxy, if_neg hst, if_neg hxy]; exact ⟨rfl, rfl⟩
      rw [he.1, he.2]
      have hr : ¬ cmpS (digs x) (digs y) < 0 := fun h => hxy (hsg.1 h)
      have Hr := Lib.hid hr
      clear he hst hsg hr
      go_enter Try.func49, Try.ntmps49
      go_wp2_with fail
      refine (cmp_any (digs x) (digs y) a b n m c d _ (Ha.out.go Hw0.out) (Hb.out.go Hw0.out) (by omega) (by omega) (dig_digs x) (dig_digs y)).mono ?_
      rintro e w1 ⟨rfl, kk, rfl⟩
      have hr := Hr.out
      generalize cmpS (digs x) (digs y) = r at *
      go_wp2_with fail
      have hs0 : w.heap.size + 2 < (World.drewN (((w.alloc (.cells #[.bool s, .slice a n c] 86)).alloc (.cells #[.bool t, .slice b m d] 86)).alloc (.cells #[.bool false, .slice none 0 0] 86)) kk).heap.size := by show _ < (((w.alloc (.cells #[.bool s, .slice a n c] 86)).alloc (.cells #[.bool t, .slice b m d] 86)).alloc (.cells #[.bool false, .slice none 0 0] 86)).heap.size; simp
      have e1 := E1.out; have e2 := E2.out; have e3 := E3.out; have hww := below_drewN Hw0.out kk
      generalize hw0e : World.drewN (((w.alloc (.cells #[.bool s, .slice a n c] 86)).alloc (.cells #[.bool t, .slice b m d] 86)).alloc (.cells #[.bool false, .slice none 0 0] 86)) kk = w0 at *
      have E1 : Hid (w0.heap[w.heap.size]? = some (.cells #[.bool s, .slice a n c] 86 (0, 0))) := Lib.hid (by rw [← hw0e]; exact e1)
      have E2 : Hid (w0.heap[w.heap.size + 1]? = some (.cells #[.bool t, .slice b m d] 86 (0, 0))) := Lib.hid (by rw [← hw0e]; exact e2)
      have E3 : Hid (w0.heap[w.heap.size + 2]? = some (.cells #[.bool false, .slice none 0 0] 86 (0, 0))) := Lib.hid (by rw [← hw0e]; exact e3)
      have Hw0 := Lib.hid hww
      clear hww hw0e e1 e2 e3
      obtain ⟨q1, q2, _, _⟩ := cells_at E1.out
      obtain ⟨q3, q4, _, _⟩ := cells_at E2.out
      refine wp_region_floats 8 [] [] [(0, true), (1, true), (2, true), (3, true), (4, true), (5, true), (6, false), (7, true)] (by kernel_rfl) (by kernel_rfl) ⟨by simp, by simp, fun _ h => by cases h⟩ (fun _ _ _ _ _ h => h) (fun _ _ o _ _ h => by cases o <;> exact h) ?_
      iterate 6
        refine wpG_yield (v := ?_) rfl rfl (by rfl) ?_ ?_
        rotate_left
        · intro z hz
          have z1 := (hz.cell (p := ⟨w.heap.size, 0, none⟩) (by show w.heap.size < w0.heap.size; omega)).trans q1
          have z2 := (hz.cell (p := ⟨w.heap.size, 1, none⟩) (by show w.heap.size < w0.heap.size; omega)).trans q2
          have z3 := (hz.cell (p := ⟨w.heap.size + 1, 0, none⟩) (by show w.heap.size + 1 < w0.heap.size; omega)).trans q3
          have z4 := (hz.cell (p := ⟨w.heap.size + 1, 1, none⟩) (by show w.heap.size + 1 < w0.heap.size; omega)).trans q4
          go_simp
          with_reducible rfl
        try simp only [Act.put, List.setIfInBounds_toArray, List.set_cons_zero, List.set_cons_succ]
      refine wpG_step rfl rfl (fun x1 hx1 K hK => ?_)
      go_simp
      have hx1' : Below w0.heap.size w0 x1 := below_undrew (k := 1) hx1
      have hw1 := Hw0.out.trans (hx1'.mono Hw0.out.size)
      refine (minus_any x y a b n m c d _ (Ha.out.go hw1) (Hb.out.go hw1) (by omega) (by omega)).mono ?_
      rintro e w2 ⟨a2, n2, c2, rfl, hs2, hb2, hf2⟩
      refine hK _ _ hb2 ?_
      clear hK K
      refine wpG_pure (v := ?_) rfl (by rfl) ?_ ?_
      rotate_left
      · intro z
        go_simp
        with_reducible rfl
      try simp only [Act.put, List.setIfInBounds_toArray, List.set_cons_zero, List.set_cons_succ]
      refine wpG_nil0 rfl (fun w3 hb3 => ?_)
      have hx0 : w.heap.size + 2 < x1.heap.size := by have := hx1'.size; omega
      have hb23 : Below x1.heap.size x1 w3 := hb2.trans (hb3.mono hb2.size)
      have e3 := (((hx1'.trans (hb23.mono hx1'.size)).block (w.heap.size + 2) hs0).trans E3.out)
      obtain ⟨k1, k2, f1, f2⟩ := cells_at e3
      have hw3 := hw1.trans (hb23.mono hw1.size)
      have Hs2 := Lib.hid (hs2.go hb3); have Hf2 := Lib.hid hf2; have Hw3 := Lib.hid hw3
      clear hs2 hf2 hw3 hb2 hb3 hb23 hx1 hx1' hw1 e3 q1 q2 q3 q4
      go_wp2_with fail
      refine bodyPost_end (v := .agg #[.bool s, .slice a2 n2 c2]) ?_ rfl ?_
      · simp [results, Try.results49, go_sem, k1, k2]
      · exact ⟨a2, n2, c2, rfl, by simpa using sl_kept (sl_kept Hs2.out Hf2.out hx0 0 (.bool s)) Hf2.out hx0 1 (.slice a2 n2 c2), (Hw3.out.setCell (by show w.heap.size ≤ w.heap.size + 2; omega) _).setCell (by show w.heap.size ≤ w.heap.size + 2; omega) _, Hf2.out.mono (by omega)⟩

end Go.Proofs.Ytkfkdkoohnfgaaa

namespace Go.Proofs.Ytkfkdkoohnfgaaa
open Go.RowKit

set_option maxRecDepth 100000 in
set_option maxHeartbeats 1600000 in
theorem qprod_any (s t : Bool) (x y dx dy : Nat) (a b a' b' : Option Addr) (n m n' m' c d c' d' : Nat) (w : World) (ha : SL w.heap.size w a n c (digs x)) (ha' : SL w.heap.size w a' n' c' (digs dx)) (hb : SL w.heap.size w b m d (digs y)) (hb' : SL w.heap.size w b' m' d' (digs dy))
    (hn : n ≤ 50000) (hn' : n' ≤ 50000) (hm : m ≤ 50000) (hm' : m' ≤ 50000) (hx : 0 < dx) (hy : 0 < dy) :
    Calls Try.prog 44 #[.agg #[.bool s, .slice a n c, .slice a' n' c'], .agg #[.bool t, .slice b m d, .slice b' m' d']] w
      (RetRt w (s != t) (x / Nat.gcd x dy * (y / Nat.gcd y dx)) (dy / Nat.gcd x dy * (dx / Nat.gcd y dx))) := by
  have hxl : (digs (x / Nat.gcd x dy)).length ≤ 50000 := Nat.le_trans (length_digs_mono (Nat.div_le_self _ _)) (by rw [← ha.len]; exact hn)
  have hyl : (digs (y / Nat.gcd y dx)).length ≤ 50000 := Nat.le_trans (length_digs_mono (Nat.div_le_self _ _)) (by rw [← hb.len]; exact hm)
  have hdxl : (digs (dx / Nat.gcd y dx)).length ≤ 50000 := Nat.le_trans (length_digs_mono (Nat.div_le_self _ _)) (by rw [← ha'.len]; exact hn')
  have hdyl : (digs (dy / Nat.gcd x dy)).length ≤ 50000 := Nat.le_trans (length_digs_mono (Nat.div_le_self _ _)) (by rw [← hb'.len]; exact hm')
  have Ha := Lib.hid ha; have Ha' := Lib.hid ha'; have Hb := Lib.hid hb; have Hb' := Lib.hid hb'
  have Hxl := Lib.hid hxl; have Hyl := Lib.hid hyl; have Hdxl := Lib.hid hdxl; have Hdyl := Lib.hid hdyl
  clear ha ha' hb hb' hxl hyl hdxl hdyl
  obtain ⟨e1, e2, e3⟩ := heap_three w (.cells #[.bool s, .slice a n c, .slice a' n' c'] 88) (.cells #[.bool t, .slice b m d, .slice b' m' d'] 88) (.cells #[.bool false, .slice none 0 0, .slice none 0 0] 88)
  have hw0 := below_three w (.cells #[.bool s, .slice a n c, .slice a' n' c'] 88) (.cells #[.bool t, .slice b m d, .slice b' m' d'] 88) (.cells #[.bool false, .slice none 0 0, .slice none 0 0] 88)
  have Hw0 := Lib.hid hw0; have E1 := Lib.hid e1; have E2 := Lib.hid e2; have E3 := Lib.hid e3
  clear hw0 e1 e2 e3
  go_enter Try.func44, Try.ntmps44
  go_wp2_with fail
  refine (reduced_any s x dy a b' n m' c d' _ (Ha.out.go Hw0.out) (Hb'.out.go Hw0.out) (by omega) (by omega) hy).mono ?_
  rintro e w1 ⟨a1, n1, c1, a2, n2, c2, rfl, hs1, hs2, hb1, hf1, hf2⟩
  have hz1 := hb1.size
  simp at hz1
  have e1 := (hb1.block w.heap.size (by simp <;> omega)).trans E1.out
  have e2 := (hb1.block (w.heap.size + 1) (by simp <;> omega)).trans E2.out
  have e3 := (hb1.block (w.heap.size + 2) (by simp)).trans E3.out
  have hw1 := Hw0.out.trans (hb1.mono (by simp; omega))
  have hza := (Below.refl w1.heap.size w1).alloc (Nat.le_refl _) (.cells #[.bool s, .slice a1 n1 c1, .slice a2 n2 c2] 88)
  have en := heap_alloc_new w1 (.cells #[.bool s, .slice a1 n1 c1, .slice a2 n2 c2] 88)
  have F1 := Lib.hid hs1.len; have F2 := Lib.hid hs2.len
  have X1 := Lib.hid (hs1.go hza); have X2 := Lib.hid (hs2.go hza); have Hw1 := Lib.hid (hw1.trans (hza.mono hw1.size))
  have G1 := Lib.hid ((hza.block w.heap.size (by omega)).trans e1); have G2 := Lib.hid ((hza.block (w.heap.size + 1) (by omega)).trans e2); have G3 := Lib.hid ((hza.block (w.heap.size + 2) (by omega)).trans e3)
  have En := Lib.hid en; have Hz1 := Lib.hid hz1
  clear hs1 hs2 hb1 hf1 hf2 e1 e2 e3 hw1 hza en hz1
  obtain ⟨q1, q2, q3, _, _, _⟩ := cells_of3 G1.out
  obtain ⟨q4, q5, q6, _, _, _⟩ := cells_of3 G2.out
  go_wp2_with fail
  refine (reduced_any t y dx b a' m n' d c' _ (Hb.out.go Hw1.out) (Ha'.out.go Hw1.out) (by omega) (by omega) hx).mono ?_
  rintro e w2 ⟨a3, n3, c3, a4, n4, c4, rfl, hs3, hs4, hb2, hf3, hf4⟩
  have hz2 := hb2.size
  simp at hz2
  have e1 := (hb2.block w.heap.size (by have := Hz1.out; simp; omega)).trans G1.out
  have e2 := (hb2.block (w.heap.size + 1) (by have := Hz1.out; simp; omega)).trans G2.out
  have e3 := (hb2.block (w.heap.size + 2) (by have := Hz1.out; simp; omega)).trans G3.out
  have e5 := (hb2.block w1.heap.size (by simp)).trans En.out
  have hw2 := Hw1.out.trans (hb2.mono Hw1.out.size)
  have hza := (Below.refl w2.heap.size w2).alloc (Nat.le_refl _) (.cells #[.bool t, .slice a3 n3 c3, .slice a4 n4 c4] 88)
  have en := heap_alloc_new w2 (.cells #[.bool t, .slice a3 n3 c3, .slice a4 n4 c4] 88)
  have F3 := Lib.hid hs3.len; have F4 := Lib.hid hs4.len
  have Y1 := Lib.hid ((X1.out.go hb2).go hza); have Y2 := Lib.hid ((X2.out.go hb2).go hza)
  have Y3 := Lib.hid (hs3.go hza); have Y4 := Lib.hid (hs4.go hza); have Hw2 := Lib.hid (hw2.trans (hza.mono hw2.size))
  have hz1 := Hz1.out
  have I1 := Lib.hid ((hza.block w.heap.size (by omega)).trans e1); have I2 := Lib.hid ((hza.block (w.heap.size + 1) (by omega)).trans e2); have I3 := Lib.hid ((hza.block (w.heap.size + 2) (by omega)).trans e3)
  have I5 := Lib.hid ((hza.block w1.heap.size (by omega)).trans e5); have I6 := Lib.hid en; have Hz2 := Lib.hid hz2
  clear hs3 hs4 hb2 hf3 hf4 e1 e2 e3 e5 hw2 hza en hz2 q1 q2 q3 q4 q5 q6 hz1 G1 G2 G3 En
  go_wp2_with fail
  have hsW : w2.heap.size < (w2.alloc (.cells #[.bool t, .slice a3 n3 c3, .slice a4 n4 c4] 88)).heap.size := by simp
  generalize w2.alloc (.cells #[.bool t, .slice a3 n3 c3, .slice a4 n4 c4] 88) = w3 at *
  obtain ⟨q1, _, _, _, _, _⟩ := cells_of3 I1.out
  obtain ⟨q4, _, _, _, _, _⟩ := cells_of3 I2.out
  obtain ⟨_, p2, p3, _, _, _⟩ := cells_of3 I5.out
  obtain ⟨_, p5, p6, _, _, _⟩ := cells_of3 I6.out
  have hz1 := Hz1.out; have hz2 := Hz2.out
  refine wp_region_floats 21 [] [] [(0, true), (1, true), (2, true), (3, true), (4, true), (5, true), (6, true), (7, true), (8, true), (9, true), (10, true), (11, true), (12, true), (15, true), (16, true), (17, true), (18, true), (13, false), (14, true), (19, false), (20, true)] (by kernel_rfl) (by kernel_rfl) ⟨by simp, by simp, fun _ h => by cases h⟩ (fun _ _ _ _ _ h => h) (fun _ _ o _ _ h => by cases o <;> exact h) ?_
  iterate 17
    refine wpG_yield (v := ?_) rfl rfl (by rfl) ?_ ?_
    rotate_left
    · intro z hz
      have z1 := (hz.cell (p := ⟨w.heap.size, 0, none⟩) (by show w.heap.size < w3.heap.size; omega)).trans q1
      have z2 := (hz.cell (p := ⟨w.heap.size + 1, 0, none⟩) (by show w.heap.size + 1 < w3.heap.size; omega)).trans q4
      have z3 := (hz.cell (p := ⟨w1.heap.size, 1, none⟩) (by show w1.heap.size < w3.heap.size; omega)).trans p2
      have z4 := (hz.cell (p := ⟨w1.heap.size, 2, none⟩) (by show w1.heap.size < w3.heap.size; omega)).trans p3
      have z5 := (hz.cell (p := ⟨w2.heap.size, 1, none⟩) hsW).trans p5
      have z6 := (hz.cell (p := ⟨w2.heap.size, 2, none⟩) hsW).trans p6
      go_simp
      with_reducible rfl
    try simp only [Act.put, List.setIfInBounds_toArray, List.set_cons_zero, List.set_cons_succ]
  refine wpG_step rfl rfl (fun x1 hx1 K hK => ?_)
  go_simp
  have hx1' : Below w3.heap.size w3 x1 := below_undrew (k := 1) hx1
  refine (times_any (x / Nat.gcd x dy) (y / Nat.gcd y dx) a1 a3 n1 n3 c1 c3 _ (Y1.out.go hx1') (Y3.out.go hx1') (by have := F1.out; have := Hxl.out; omega) (by have := F3.out; have := Hyl.out; omega)).mono ?_
  rintro e w4 ⟨a5, n5, c5, rfl, hs5, hb4, hf5⟩
  refine hK _ _ hb4 ?_
  clear hK K
  refine wpG_pure (v := ?_) rfl (by rfl) ?_ ?_
  rotate_left
  · intro z
    go_simp
    with_reducible rfl
  try simp only [Act.put, List.setIfInBounds_toArray, List.set_cons_zero, List.set_cons_succ]
  refine wpG_step rfl rfl (fun x2 hx2 K hK => ?_)
  go_simp
  have h32 : Below w3.heap.size w3 x2 := hx1'.trans ((hb4.trans (hx2.mono hb4.size)).mono hx1'.size)
  refine (times_any (dy / Nat.gcd x dy) (dx / Nat.gcd y dx) a2 a4 n2 n4 c2 c4 _ (Y2.out.go h32) (Y4.out.go h32) (by have := F2.out; have := Hdyl.out; omega) (by have := F4.out; have := Hdxl.out; omega)).mono ?_
  rintro e w5 ⟨a6, n6, c6, rfl, hs6, hb5, hf6⟩
  refine hK _ _ hb5 ?_
  clear hK K
  refine wpG_pure (v := ?_) rfl (by rfl) ?_ ?_
  rotate_left
  · intro z
    go_simp
    with_reducible rfl
  try simp only [Act.put, List.setIfInBounds_toArray, List.set_cons_zero, List.set_cons_succ]
  refine wpG_nil0 rfl (fun w6 hb6 => ?_)
  have hb56 : Below x2.heap.size x2 w6 := hb5.trans (hb6.mono hb5.size)
  have h36 := h32.trans (hb56.mono h32.size)
  have e3 := (h36.block (w.heap.size + 2) (by omega)).trans I3.out
  obtain ⟨k1, k2, k3, f1, f2, f3⟩ := cells_of3 e3
  have hw6 := Hw2.out.trans (h36.mono Hw2.out.size)
  have s1 : w.heap.size + 2 < x1.heap.size := by have := hx1'.size; omega
  have s2 : w.heap.size + 2 < x2.heap.size := by have := h32.size; omega
  have Hs5 := Lib.hid ((hs5.go hx2).go hb56); have Hs6 := Lib.hid (hs6.go hb6); have Hw6 := Lib.hid hw6; have Hf5 := Lib.hid hf5; have Hf6 := Lib.hid hf6
  clear hs5 hs6 hw6 hf5 hf6 hb4 hb5 hb6 hb56 h36 h32 hx1 hx1' hx2 e3 q1 q4 p2 p3 p5 p6
  go_wp2_with fail
  refine bodyPost_end (v := .agg #[.bool (!(s == t)), .slice a5 n5 c5, .slice a6 n6 c6]) ?_ rfl ?_
  · simp [results, Try.results44, go_sem, k1, k2, k3]
  · have g5 := sl_kept (sl_kept (sl_kept Hs5.out Hf5.out s1 0 (.bool (!(s == t)))) Hf5.out s1 1 (.slice a5 n5 c5)) Hf5.out s1 2 (.slice a6 n6 c6)
    have g6 := sl_kept (sl_kept (sl_kept Hs6.out Hf6.out s2 0 (.bool (!(s == t)))) Hf6.out s2 1 (.slice a5 n5 c5)) Hf6.out s2 2 (.slice a6 n6 c6)
    refine ⟨a5, n5, c5, a6, n6, c6, rfl, by simpa using g5, by simpa using g6, ((Hw6.out.setCell ?_ _).setCell ?_ _).setCell ?_ _, Hf5.out.mono (by omega), Hf6.out.mono (by omega)⟩
    · show w.heap.size ≤ w.heap.size + 2; omega
    · show w.heap.size ≤ w.heap.size + 2; omega
    · show w.heap.size ≤ w.heap.size + 2; omega

end Go.Proofs.Ytkfkdkoohnfgaaa

namespace Go.Proofs.Ytkfkdkoohnfgaaa
open Go.RowKit

theorem len_mul {a b p q : Nat} (ha : (digs a).length ≤ p) (hb : (digs b).length ≤ q) : (digs (a * b)).length ≤ p + q := by
  refine length_digs_le ?_
  have h1 := Nat.lt_of_lt_of_le (digs_lt a) (Nat.pow_le_pow_right (n := 1000000000) (by decide) ha)
  have h2 := Nat.lt_of_lt_of_le (digs_lt b) (Nat.pow_le_pow_right (n := 1000000000) (by decide) hb)
  rw [Nat.pow_add]
  exact Nat.mul_lt_mul'' h1 h2
theorem len_add {a b p : Nat} (ha : (digs a).length ≤ p) (hb : (digs b).length ≤ p) : (digs (a + b)).length ≤ p + 1 := by
  refine length_digs_le ?_
  have h1 := Nat.lt_of_lt_of_le (digs_lt a) (Nat.pow_le_pow_right (n := 1000000000) (by decide) ha)
  have h2 := Nat.lt_of_lt_of_le (digs_lt b) (Nat.pow_le_pow_right (n := 1000000000) (by decide) hb)
  rw [Nat.pow_succ]
  omega
theorem plusK_le (s t : Bool) (x y : Nat) : plusK s t x y ≤ x + y := by
  unfold plusK
  split
  · exact Nat.le_refl _
  · split <;> omega

set_option maxRecDepth 100000 in
set_option maxHeartbeats 3200000 in
theorem qsum_any (s t : Bool) (x y dx dy g X Y k h : Nat) (a b a' b' : Option Addr) (n m n' m' c d c' d' : Nat) (w : World) (ha : SL w.heap.size w a n c (digs x)) (ha' : SL w.heap.size w a' n' c' (digs dx)) (hb : SL w.heap.size w b m d (digs y)) (hb' : SL w.heap.size w b' m' d' (digs dy))
    (hn : n ≤ 10000) (hn' : n' ≤ 10000) (hm : m ≤ 10000) (hm' : m' ≤ 10000) (_ : 0 < dx) (hy : 0 < dy)
    (hg : Nat.gcd dx dy = g) (hX : dx / g = X) (hY : dy / g = Y) (hk : plusK s t (x * Y) (y * X) = k) (hh : Nat.gcd k g = h) :
    Calls Try.prog 45 #[.agg #[.bool s, .slice a n c, .slice a' n' c'], .agg #[.bool t, .slice b m d, .slice b' m' d']] w
      (RetRt w (plusS s t (x * Y) (y * X)) (k / h) (X * (dy / h))) := by
  have hg0 : 0 < g := by rw [← hg]; exact Nat.gcd_pos_of_pos_right _ hy
  have hh0 : 0 < h := by rw [← hh]; exact Nat.gcd_pos_of_pos_right _ hg0
  have hgl : (digs g).length ≤ 10000 := Nat.le_trans (length_digs_mono (Nat.le_of_dvd hy (by rw [← hg]; exact Nat.gcd_dvd_right _ _))) (by rw [← hb'.len]; exact hm')
  have hhl : (digs h).length ≤ 10000 := Nat.le_trans (length_digs_mono (Nat.le_of_dvd hg0 (by rw [← hh]; exact Nat.gcd_dvd_right _ _))) hgl
  have hXl : (digs X).length ≤ 10000 := Nat.le_trans (length_digs_mono (by rw [← hX]; exact Nat.div_le_self _ _)) (by rw [← ha'.len]; exact hn')
  have hYl : (digs Y).length ≤ 10000 := Nat.le_trans (length_digs_mono (by rw [← hY]; exact Nat.div_le_self _ _)) (by rw [← hb'.len]; exact hm')
  have hxY : (digs (x * Y)).length ≤ 20000 := len_mul (by rw [← ha.len]; exact hn) hYl
  have hyX : (digs (y * X)).length ≤ 20000 := len_mul (by rw [← hb.len]; exact hm) hXl
  have hkl : (digs k).length ≤ 20001 := Nat.le_trans (length_digs_mono (by rw [← hk]; exact plusK_le _ _ _ _)) (len_add hxY hyX)
  have hdl : (digs (dy / h)).length ≤ 10000 := Nat.le_trans (length_digs_mono (Nat.div_le_self _ _)) (by rw [← hb'.len]; exact hm')
  have Ha := Lib.hid ha; have Ha' := Lib.hid ha'; have Hb := Lib.hid hb; have Hb' := Lib.hid hb'
  have Hg := Lib.hid hg; have HX := Lib.hid hX; have HY := Lib.hid hY; have Hk := Lib.hid hk; have Hh := Lib.hid hh
  have Hgl := Lib.hid hgl; have Hhl := Lib.hid hhl; have HXl := Lib.hid hXl; have HYl := Lib.hid hYl; have HxY := Lib.hid hxY; have HyX := Lib.hid hyX; have Hkl := Lib.hid hkl; have Hdl := Lib.hid hdl
  clear ha ha' hb hb' hg hX hY hk hh hgl hhl hXl hYl hxY hyX hkl hdl
  obtain ⟨e1, e2, e3⟩ := heap_three w (.cells #[.bool s, .slice a n c, .slice a' n' c'] 88) (.cells #[.bool t, .slice b m d, .slice b' m' d'] 88) (.cells #[.bool false, .slice none 0 0, .slice none 0 0] 88)
  have hw0 := below_three w (.cells #[.bool s, .slice a n c, .slice a' n' c'] 88) (.cells #[.bool t, .slice b m d, .slice b' m' d'] 88) (.cells #[.bool false, .slice none 0 0, .slice none 0 0] 88)
  have Hw0 := Lib.hid hw0; have E1 := Lib.hid e1; have E2 := Lib.hid e2; have E3 := Lib.hid e3
  clear hw0 e1 e2 e3
  go_enter Try.func45, Try.ntmps45
  go_wp2_with fail
  refine (common_any dx dy a' b' n' m' c' d' _ (Ha'.out.go Hw0.out) (Hb'.out.go Hw0.out) (by omega) (by omega)).mono ?_
  rintro e w1 ⟨a1, n1, c1, rfl, hs1, hb1⟩
  have hl1 := hs1.len
  rw [Hg.out] at hs1 hl1
  have hz1 := hb1.size
  simp at hz1
  have G1 := Lib.hid ((hb1.block w.heap.size (by simp <;> omega)).trans E1.out)
  have G2 := Lib.hid ((hb1.block (w.heap.size + 1) (by simp <;> omega)).trans E2.out)
  have G3 := Lib.hid ((hb1.block (w.heap.size + 2) (by simp)).trans E3.out)
  have Hw1 := Lib.hid (Hw0.out.trans (hb1.mono (by simp; omega)))
  have S1 := Lib.hid hs1; have L1 := Lib.hid hl1
  clear hs1 hl1 hb1
  obtain ⟨q1, q2, q3, _, _, _⟩ := cells_of3 G1.out
  obtain ⟨q4, q5, q6, _, _, _⟩ := cells_of3 G2.out
  go_wp2_with fail
  refine wp_region_floats 9 [] [] [(0, true), (1, true), (2, true), (4, true), (5, true), (6, true), (3, false), (7, false), (8, true)] (by kernel_rfl) (by kernel_rfl) ⟨by simp, by simp, fun _ h => by cases h⟩ (fun _ _ _ _ _ h => h) (fun _ _ o _ _ h => by cases o <;> exact h) ?_
  iterate 6
    refine wpG_yield (v := ?_) rfl rfl (by rfl) ?_ ?_
    rotate_left
    · intro z hz
      have z1 := (hz.cell (p := ⟨w.heap.size, 2, none⟩) (by show w.heap.size < w1.heap.size; omega)).trans q3
      have z2 := (hz.cell (p := ⟨w.heap.size + 1, 2, none⟩) (by show w.heap.size + 1 < w1.heap.size; omega)).trans q6
      go_simp
      with_reducible rfl
    try simp only [Act.put, List.setIfInBounds_toArray, List.set_cons_zero, List.set_cons_succ]
  refine wpG_step rfl rfl (fun x1 hx1 K hK => ?_)
  go_simp
  have hx1' : Below w1.heap.size w1 x1 := below_undrew (k := 1) hx1
  have hw := Hw1.out.trans (hx1'.mono Hw1.out.size)
  refine (without_any dx g a' a1 n' n1 c' c1 _ (Ha'.out.go hw) (S1.out.go hx1') (by omega) (by have := L1.out; have := Hgl.out; omega) hg0).mono ?_
  rintro e w2 ⟨a2, n2, c2, rfl, hs2, hb2, hf2⟩
  refine hK _ _ hb2 ?_
  clear hK K hw
  refine wpG_step rfl rfl (fun x2 hx2 K hK => ?_)
  go_simp
  have h12 : Below w1.heap.size w1 x2 := hx1'.trans ((hb2.trans (hx2.mono hb2.size)).mono hx1'.size)
  have hw := Hw1.out.trans (h12.mono Hw1.out.size)
  refine (without_any dy g b' a1 m' n1 d' c1 _ (Hb'.out.go hw) (S1.out.go h12) (by omega) (by have := L1.out; have := Hgl.out; omega) hg0).mono ?_
  rintro e w3 ⟨a3, n3, c3, rfl, hs3, hb3, hf3⟩
  refine hK _ _ hb3 ?_
  clear hK K hw
  refine wpG_pure (v := ?_) rfl (by rfl) ?_ ?_
  rotate_left
  · intro z
    go_simp
    with_reducible rfl
  try simp only [Act.put, List.setIfInBounds_toArray, List.set_cons_zero, List.set_cons_succ]
  refine wpG_nil0 rfl (fun w4 hb4 => ?_)
  rw [HX.out] at hs2
  rw [HY.out] at hs3
  have h24 : Below x2.heap.size x2 w4 := hb3.trans (hb4.mono hb3.size)
  have h14 := h12.trans (h24.mono h12.size)
  have hz4 := h14.size
  have S2 := Lib.hid ((hs2.go hx2).go h24); have S3 := Lib.hid (hs3.go hb4); have S14 := Lib.hid (S1.out.go h14)
  have I1 := Lib.hid ((h14.block w.heap.size (by omega)).trans G1.out); have I2 := Lib.hid ((h14.block (w.heap.size + 1) (by omega)).trans G2.out); have I3 := Lib.hid ((h14.block (w.heap.size + 2) (by omega)).trans G3.out)
  have Hw4 := Lib.hid (Hw1.out.trans (h14.mono Hw1.out.size))
  have L2 := Lib.hid hs2.len; have L3 := Lib.hid hs3.len
  clear hs2 hs3 hb2 hb3 hb4 hf2 hf3 hx1 hx1' hx2 h12 h24 h14 q1 q2 q3 q4 q5 q6
  obtain ⟨q1, q2, q3, _, _, _⟩ := cells_of3 I1.out
  obtain ⟨q4, q5, q6, _, _, _⟩ := cells_of3 I2.out
  go_wp2_with fail
  refine wp_region_floats 10 [] [(9, 8, .cells #[.bool false, .slice none 0 0] 86)] [(0, true), (1, true), (2, true), (4, true), (5, true), (6, true), (3, false), (7, false), (8, false)] (by kernel_rfl) (by kernel_rfl) ?_ (fun _ _ _ _ _ h => h) (fun _ _ o _ _ h => by cases o <;> exact h) ?_
  · refine ⟨by simp, by simp, ?_⟩
    simp only [List.forall_mem_cons]
    exact ⟨⟨by omega, _, rfl, rfl, rfl, fun _ _ => rfl⟩, fun _ h => by cases h⟩
  iterate 6
    refine wpG_yield (v := ?_) rfl rfl (by rfl) ?_ ?_
    rotate_left
    · intro z hz
      have z1 := (hz.cell (p := ⟨w.heap.size, 0, none⟩) (by show w.heap.size < w4.heap.size; omega)).trans q1
      have z2 := (hz.cell (p := ⟨w.heap.size, 1, none⟩) (by show w.heap.size < w4.heap.size; omega)).trans q2
      have z3 := (hz.cell (p := ⟨w.heap.size + 1, 0, none⟩) (by show w.heap.size + 1 < w4.heap.size; omega)).trans q4
      have z4 := (hz.cell (p := ⟨w.heap.size + 1, 1, none⟩) (by show w.heap.size + 1 < w4.heap.size; omega)).trans q5
      go_simp
      with_reducible rfl
    try simp only [Act.put, List.setIfInBounds_toArray, List.set_cons_zero, List.set_cons_succ]
  refine wpG_step rfl rfl (fun y1 hy1 K hK => ?_)
  go_simp
  have hy1' : Below w4.heap.size w4 y1 := below_undrew (k := 1) hy1
  refine (qtimes_any s x Y a a3 n n3 c c3 _ (Ha.out.go (Hw4.out.trans (hy1'.mono Hw4.out.size))) (S3.out.go hy1') (by omega) (by have := L3.out; have := HYl.out; omega)).mono ?_
  rintro e w5 ⟨a5, n5, c5, rfl, hs5, hb5, hf5⟩
  refine hK _ _ hb5 ?_
  clear hK K
  refine wpG_step rfl rfl (fun y2 hy2 K hK => ?_)
  go_simp
  have h42 : Below w4.heap.size w4 y2 := hy1'.trans ((hb5.trans (hy2.mono hb5.size)).mono hy1'.size)
  refine (qtimes_any t y X b a2 m n2 d c2 _ (Hb.out.go (Hw4.out.trans (h42.mono Hw4.out.size))) (S2.out.go h42) (by omega) (by have := L2.out; have := HXl.out; omega)).mono ?_
  rintro e w6 ⟨a6, n6, c6, rfl, hs6, hb6, hf6⟩
  refine hK _ _ hb6 ?_
  clear hK K
  refine wpG_step rfl rfl (fun y3 hy3 K hK => ?_)
  go_simp
  have h53 : Below w5.heap.size w5 y3 := hy2.trans ((hb6.trans (hy3.mono hb6.size)).mono hy2.size)
  have h43 : Below w4.heap.size w4 y3 := h42.trans ((hb6.trans (hy3.mono hb6.size)).mono h42.size)
  refine (qplus_any s t (x * Y) (y * X) a5 a6 n5 n6 c5 c6 _ (hs5.go h53) (hs6.go hy3) (by have := hs5.len; have := HxY.out; omega) (by have := hs6.len; have := HyX.out; omega)).mono ?_
  rintro e w7 ⟨a7, n7, c7, rfl, hs7, hb7, hf7⟩
  refine hK _ _ hb7 ?_
  clear hK K
  rw [Hk.out] at hs7
  generalize plusS s t (x * Y) (y * X) = u at *
  refine wpG_nil1 rfl (fun b1 w8 hC hb8 hbl => ?_)
  try simp only [Act.put, List.setIfInBounds_toArray, List.set_cons_zero, List.set_cons_succ]
  obtain ⟨⟨⟨c10, c11⟩, c12⟩, c13⟩ := hC
  have h38 : Below y3.heap.size y3 w8 := hb7.trans (hb8.mono hb7.size)
  have h48 := h43.trans (h38.mono h43.size)
  have hb1lt := lt_of_block hbl
  have hne7 : ∀ b' off, a7 = some ⟨b', off, none⟩ → 0 < n7 → b' ≠ b1 := fun b' off e h0 => by
    have p1 := hf7 b' off e h0
    obtain ⟨b2, o2, e2, hlt, _⟩ := hs7.at h0
    rw [e] at e2; cases e2
    omega
  obtain ⟨d1, d2, f1, f2⟩ := cells_at hbl
  have hs9 := ((hs7.go hb8).setCell ⟨b1, 0, none⟩ (.bool u) hne7).setCell ⟨b1, 1, none⟩ (.slice a7 n7 c7) hne7
  have hw9 : Below w4.heap.size w4 ((w8.setCell ⟨b1, 0, none⟩ (.bool u)).setCell ⟨b1, 1, none⟩ (.slice a7 n7 c7)) := (h48.setCell c10 _).setCell c10 _
  have e9 : ((w8.setCell ⟨b1, 0, none⟩ (.bool u)).setCell ⟨b1, 1, none⟩ (.slice a7 n7 c7)).heap[b1]? = some (.cells #[.bool u, .slice a7 n7 c7] 86 (0, 0)) := by
    rw [obj_setCell (w := w8.setCell ⟨b1, 0, none⟩ (.bool u)) (by exact obj_setCell hbl 0 (.bool u)) 1 (.slice a7 n7 c7)]; rfl
  have hsz9 : ((w8.setCell ⟨b1, 0, none⟩ (.bool u)).setCell ⟨b1, 1, none⟩ (.slice a7 n7 c7)).heap.size = w8.heap.size := by simp
  have L7 := Lib.hid hs7.len
  have S9 := Lib.hid hs9; have W9 := Lib.hid hw9; have E9 := Lib.hid e9; have Z9 := Lib.hid hsz9
  clear hs9 hw9 e9 hs5 hs6 hs7 hb5 hb6 hb7 hb8 hf5 hf6 hf7 hy1 hy1' hy2 hy3 h42 h43 h53 h38 h48 hbl hne7 c11 c12 c13 hsz9 q1 q2 q3 q4 q5 q6
  go_wp2_with fail
  have hb19 : w.heap.size ≤ b1 := by have := Hw4.out.size; omega
  generalize (w8.setCell ⟨b1, 0, none⟩ (.bool u)).setCell ⟨b1, 1, none⟩ (.slice a7 n7 c7) = v9 at *
  have s9 := S9.out
  rw [← Z9.out] at s9
  have Hw9 := Lib.hid (Hw4.out.trans (W9.out.mono Hw4.out.size))
  refine (common_any k g a7 a1 n7 n1 c7 c1 _ s9 (S14.out.go W9.out) (by have := L7.out; have := Hkl.out; omega) (by have := L1.out; have := Hgl.out; omega)).mono ?_
  rintro e va ⟨a8, n8, c8, rfl, hs8, hba⟩
  have hl8 := hs8.len
  rw [Hh.out] at hs8 hl8
  have h4a := W9.out.trans (hba.mono W9.out.size)
  have hza := h4a.size
  have hsza := hba.size
  have hb1a : b1 < va.heap.size := by have := Z9.out; omega
  have J2 := Lib.hid ((h4a.block (w.heap.size + 1) (by omega)).trans I2.out); have J3 := Lib.hid ((h4a.block (w.heap.size + 2) (by omega)).trans I3.out)
  have Jb := Lib.hid ((hba.block b1 (by have := Z9.out; omega)).trans E9.out)
  have T2 := Lib.hid (S2.out.go h4a); have T7 := Lib.hid (s9.go hba); have T8 := Lib.hid hs8; have L8 := Lib.hid hl8
  have Hwa := Lib.hid (Hw4.out.trans (h4a.mono Hw4.out.size))
  clear s9 hs8 hl8 h4a hba hsza d1 d2 f1 f2
  go_wp2_with fail
  obtain ⟨_, _, q6, _, _, _⟩ := cells_of3 J2.out
  obtain ⟨p1, p2, _, _⟩ := cells_at Jb.out
  refine wp_region_floats 14 [] [] [(0, true), (1, true), (2, true), (3, true), (4, true), (7, true), (8, true), (9, true), (10, true), (5, false), (6, true), (11, false), (12, false), (13, true)] (by kernel_rfl) (by kernel_rfl) ⟨by simp, by simp, fun _ h => by cases h⟩ (fun _ _ _ _ _ h => h) (fun _ _ o _ _ h => by cases o <;> exact h) ?_
  iterate 9
    refine wpG_yield (v := ?_) rfl rfl (by rfl) ?_ ?_
    rotate_left
    · intro z hz
      have z1 := (hz.cell (p := ⟨b1, 0, none⟩) hb1a).trans p1
      have z2 := (hz.cell (p := ⟨b1, 1, none⟩) hb1a).trans p2
      have z3 := (hz.cell (p := ⟨w.heap.size + 1, 2, none⟩) (by show w.heap.size + 1 < va.heap.size; omega)).trans q6
      go_simp
      with_reducible rfl
    try simp only [Act.put, List.setIfInBounds_toArray, List.set_cons_zero, List.set_cons_succ]
  refine wpG_step rfl rfl (fun y1 hy1 K hK => ?_)
  go_simp
  have hy1' : Below va.heap.size va y1 := below_undrew (k := 1) hy1
  refine (without_any k h a7 a8 n7 n8 c7 c8 _ (T7.out.go hy1') (T8.out.go hy1') (by have := L7.out; have := Hkl.out; omega) (by have := L8.out; have := Hhl.out; omega) hh0).mono ?_
  rintro e wb ⟨a10, n10, c10', rfl, hs10, hbb, hf10⟩
  refine hK _ _ hbb ?_
  clear hK K
  refine wpG_pure (v := ?_) rfl (by rfl) ?_ ?_
  rotate_left
  · intro z
    go_simp
    with_reducible rfl
  try simp only [Act.put, List.setIfInBounds_toArray, List.set_cons_zero, List.set_cons_succ]
  refine wpG_step rfl rfl (fun y2 hy2 K hK => ?_)
  go_simp
  have ha2 : Below va.heap.size va y2 := hy1'.trans ((hbb.trans (hy2.mono hbb.size)).mono hy1'.size)
  refine (without_any dy h b' a8 m' n8 d' c8 _ (Hb'.out.go (Hwa.out.trans (ha2.mono Hwa.out.size))) (T8.out.go ha2) (by omega) (by have := L8.out; have := Hhl.out; omega) hh0).mono ?_
  rintro e wc ⟨a11, n11, c11', rfl, hs11, hbc, hf11⟩
  refine hK _ _ hbc ?_
  clear hK K
  refine wpG_step rfl rfl (fun y3 hy3 K hK => ?_)
  go_simp
  have ha3 : Below va.heap.size va y3 := ha2.trans ((hbc.trans (hy3.mono hbc.size)).mono ha2.size)
  refine (times_any X (dy / h) a2 a11 n2 n11 c2 c11' _ (T2.out.go ha3) (hs11.go hy3) (by have := L2.out; have := HXl.out; have := HX.out; omega) (by have := hs11.len; have := Hdl.out; omega)).mono ?_
  rintro e wd ⟨a12, n12, c12', rfl, hs12, hbd, hf12⟩
  refine hK _ _ hbd ?_
  clear hK K
  refine wpG_pure (v := ?_) rfl (by rfl) ?_ ?_
  rotate_left
  · intro z
    go_simp
    with_reducible rfl
  try simp only [Act.put, List.setIfInBounds_toArray, List.set_cons_zero, List.set_cons_succ]
  refine wpG_nil0 rfl (fun we hbe => ?_)
  have h3e : Below y3.heap.size y3 we := hbd.trans (hbe.mono hbd.size)
  have h1e : Below wb.heap.size wb we := hy2.trans (((hbc.trans (hy3.mono hbc.size)).trans (h3e.mono (by have := hbc.size; have := hy3.size; omega))).mono hy2.size)
  have hae := ha3.trans (h3e.mono ha3.size)
  have e3 := (hae.block (w.heap.size + 2) (by omega)).trans J3.out
  obtain ⟨k1, k2, k3, f1, f2, f3⟩ := cells_of3 e3
  have hwe := Hwa.out.trans (hae.mono Hwa.out.size)
  have r1 : w.heap.size + 2 < y1.heap.size := by have := hy1'.size; omega
  have r3 : w.heap.size + 2 < y3.heap.size := by have := ha3.size; omega
  have V10 := Lib.hid (hs10.go h1e); have V12 := Lib.hid (hs12.go hbe); have Hwe := Lib.hid hwe; have F10 := Lib.hid hf10; have F12 := Lib.hid hf12
  clear hs10 hs11 hs12 hwe hf10 hf11 hf12 hbb hbc hbd hbe h3e h1e hae ha2 ha3 hy1 hy1' hy2 hy3 e3 q6 p1 p2
  go_wp2_with fail
  refine bodyPost_end (v := .agg #[.bool u, .slice a10 n10 c10', .slice a12 n12 c12']) ?_ rfl ?_
  · simp [results, Try.results45, go_sem, k1, k2, k3]
  · have g5 := sl_kept (sl_kept (sl_kept V10.out F10.out r1 0 (.bool u)) F10.out r1 1 (.slice a10 n10 c10')) F10.out r1 2 (.slice a12 n12 c12')
    have g6 := sl_kept (sl_kept (sl_kept V12.out F12.out r3 0 (.bool u)) F12.out r3 1 (.slice a10 n10 c10')) F12.out r3 2 (.slice a12 n12 c12')
    refine ⟨a10, n10, c10', a12, n12, c12', rfl, by simpa using g5, by simpa using g6, ((Hwe.out.setCell ?_ _).setCell ?_ _).setCell ?_ _, F10.out.mono (by omega), F12.out.mono (by omega)⟩
    · show w.heap.size ≤ w.heap.size + 2; omega
    · show w.heap.size ≤ w.heap.size + 2; omega
    · show w.heap.size ≤ w.heap.size + 2; omega

end Go.Proofs.Ytkfkdkoohnfgaaa

namespace Go.Proofs.Ytkfkdkoohnfgaaa
open Go.RowKit

/-- a value that is a fraction in lowest terms -/
def QG (N : Nat) (w : World) (v : Value) (q : Rat) : Prop :=
  ∃ s a n c b m d, v = .agg #[.bool s, .slice a n c, .bool false, .slice b m d] ∧ LG N w s a n c q.num ∧ LG N w false b m d (q.den : Int)

theorem QG.go {w w' : World} {v : Value} {q : Rat} (h : QG w.heap.size w v q) (hb : Below w.heap.size w w') : QG w'.heap.size w' v q := by
  obtain ⟨s, a, n, c, b, m, d, e, h1, h2⟩ := h
  exact ⟨s, a, n, c, b, m, d, e, h1.go hb, h2.go hb⟩

set_option maxHeartbeats 400000 in
theorem qmade_ok (s t : Bool) (a b : Option Addr) (n m c d : Nat) (w : World) :
    Calls Try.prog 80 #[.agg #[.bool s, .slice a n c, .bool t, .slice b m d], .int .i64 0] w (RetB w (.tuple #[.agg #[.bool s, .slice a n c, .bool t, .slice b m d], .int .i64 0])) := by
  obtain ⟨e1, e2⟩ := heap_two w (.cells #[.bool s, .slice a n c, .bool t, .slice b m d] 62) (.cells #[.bool false, .slice none 0 0, .bool false, .slice none 0 0] 62)
  obtain ⟨c0, c1, c2, c3, _, _, _, _⟩ := cells_of4 e1
  obtain ⟨d0, d1, d2, d3, f0, f1, f2, f3⟩ := cells_of4 e2
  clear e1 e2
  go_enter Try.func80, Try.ntmps80
  go_wp2
  refine bodyPost_ret (v := .tuple #[.agg #[.bool s, .slice a n c, .bool t, .slice b m d], .int .i64 0]) ?_ rfl ?_
  · simp [results, Try.results80, go_sem]
  · exact ⟨rfl, below_two _ _⟩

theorem clone_s (zs : List Int) (a : Option Addr) (n c : Nat) (w : World) (h : SL w.heap.size w a n c zs) (hn : n ≤ 1000000) :
    Calls Try.prog 71 #[.slice a n c] w (RetS w zs) := by
  refine (clone_any zs a n c w h hn).mono ?_
  rintro e w' ⟨v, rfl, hv, hb⟩
  rcases hv with ⟨rfl, rfl⟩ | ⟨g, c', rfl, hc, hg, hblk⟩
  · exact ⟨none, 0, 0, rfl, SL.nil _ _ _ _, hb, Fresh.ofNone _ _⟩
  · exact ⟨some ⟨g, 0, none⟩, zs.length, c', rfl, hblk.sl hc, hb, Fresh.mk hg _⟩

/-- a call that gives back a fraction in memory of its own, and no error -/
def RetQuot (w : World) (q : Rat) (e : Ending) (w' : World) : Prop :=
  ∃ v, e = .returned (.tuple #[v, .int .i64 0]) ∧ QG w'.heap.size w' v q ∧ Below w.heap.size w w'

set_option maxRecDepth 100000 in
set_option maxHeartbeats 3200000 in
theorem qtold_t (k d0 : Nat) (a b : Option Addr) (n m c d : Nat) (w : World) (ha : SL w.heap.size w a n c (digs k)) (hb : SL w.heap.size w b m d (digs d0)) (hn : n ≤ 600) (hm : m ≤ 600) :
    Calls Try.prog 67 #[.agg #[.bool true, .slice a n c, .slice b m d]] w
      (fun e w' => ∃ a' n' c' b' m' d', e = .returned (.tuple #[.agg #[.bool (decide (0 < n)), .slice a' n' c', .bool false, .slice b' m' d'], .int .i64 0]) ∧ SL w'.heap.size w' a' n' c' (digs k) ∧ SL w'.heap.size w' b' m' d' (digs d0) ∧ Below w.heap.size w w') := by
  have Ha := Lib.hid ha; have Hb := Lib.hid hb
  clear ha hb
  obtain ⟨e1, e2⟩ := heap_two w (.cells #[.bool true, .slice a n c, .slice b m d] 88) (.cells #[.bool false, .slice none 0 0, .bool false, .slice none 0 0] 62)
  have hw0 := below_two (w := w) (.cells #[.bool true, .slice a n c, .slice b m d] 88) (.cells #[.bool false, .slice none 0 0, .bool false, .slice none 0 0] 62)
  have Hw0 := Lib.hid hw0; have E1 := Lib.hid e1; have E2 := Lib.hid e2
  clear hw0 e1 e2
  have hmx1 : ¬ 600 < max (n : Int) (m : Int) := by omega
  go_enter Try.func67, Try.ntmps67
  go_wp2_with fail
  all_goals
    generalize hw0e : ((w.alloc (.cells #[.bool true, .slice a n c, .slice b m d] 88)).alloc (.cells #[.bool false, .slice none 0 0, .bool false, .slice none 0 0] 62)) = w0 at *
    have hs0 : w.heap.size + 1 < w0.heap.size := by rw [← hw0e]; simp
    clear hw0e hmx1
    obtain ⟨q1, q2, q3, _, _, _⟩ := cells_of3 E1.out
    refine wp_region_floats 16 [] [(15, 5, .cells #[.bool false, .slice none 0 0] 51)] [(0, true), (1, true), (2, true), (3, true), (4, true), (5, true), (6, true), (7, true), (8, true), (9, true), (10, true), (11, true), (12, true), (13, false), (14, true)] (by kernel_rfl) (by kernel_rfl) ?_ (fun _ _ _ _ _ h => h) (fun _ _ o _ _ h => by cases o <;> exact h) ?_
  any_goals
    refine ⟨by simp, by simp, ?_⟩
    simp only [List.forall_mem_cons]
    exact ⟨⟨by omega, _, rfl, rfl, rfl, fun _ _ => rfl⟩, fun _ h => by cases h⟩
  all_goals
    iterate 13
      refine wpG_yield (v := ?_) rfl rfl (by rfl) ?_ ?_
      rotate_left
      · intro z hz
        have z1 := (hz.cell (p := ⟨w.heap.size, 0, none⟩) (by show w.heap.size < w0.heap.size; omega)).trans q1
        have z2 := (hz.cell (p := ⟨w.heap.size, 1, none⟩) (by show w.heap.size < w0.heap.size; omega)).trans q2
        go_simp
        with_reducible rfl
      try simp only [Act.put, List.setIfInBounds_toArray, List.set_cons_zero, List.set_cons_succ]
  all_goals
    refine wpG_step rfl rfl (fun x1 hx1 K hK => ?_)
    go_simp
    have hx1' : Below w0.heap.size w0 x1 := below_undrew (k := 1) hx1
    refine (clone_s (digs k) a n c _ (Ha.out.go (Hw0.out.trans (hx1'.mono Hw0.out.size))) (by omega)).mono ?_
    rintro e w2 ⟨a2, n2, c2, rfl, hs2, hb2, hf2⟩
    refine hK _ _ hb2 ?_
    clear hK K
    refine wpG_pure (v := ?_) rfl (by rfl) ?_ ?_
    rotate_left
    · intro z
      go_simp
      with_reducible rfl
    try simp only [Act.put, List.setIfInBounds_toArray, List.set_cons_zero, List.set_cons_succ]
    refine wpG_nil1 rfl (fun b1 w3 hC hb3 hbl => ?_)
    try simp only [Act.put, List.setIfInBounds_toArray, List.set_cons_zero, List.set_cons_succ]
    obtain ⟨c10, c11⟩ := hC
    have h03 : Below w0.heap.size w0 w3 := hx1'.trans ((hb2.trans (hb3.mono hb2.size)).mono hx1'.size)
    have hne2 : ∀ b' off, a2 = some ⟨b', off, none⟩ → 0 < n2 → b' ≠ b1 := fun b' off e h0 => by
      have p1 := hf2 b' off e h0
      obtain ⟨b2, o2, e2, hlt, _⟩ := hs2.at h0
      rw [e] at e2; cases e2
      omega
    have hb1lt := lt_of_block hbl
    have F2 := Lib.hid (hf2.mono hx1'.size)
    obtain ⟨d1, d2, f1, f2⟩ := cells_at hbl
    have hs9 := ((hs2.go hb3).setCell ⟨b1, 0, none⟩ (.bool (decide (0 < n))) hne2).setCell ⟨b1, 1, none⟩ (.slice a2 n2 c2) hne2
    have hw9 : Below w0.heap.size w0 ((w3.setCell ⟨b1, 0, none⟩ (.bool (decide (0 < n)))).setCell ⟨b1, 1, none⟩ (.slice a2 n2 c2)) := (h03.setCell c10 _).setCell c10 _
    have e9 : ((w3.setCell ⟨b1, 0, none⟩ (.bool (decide (0 < n)))).setCell ⟨b1, 1, none⟩ (.slice a2 n2 c2)).heap[b1]? = some (.cells #[.bool (decide (0 < n)), .slice a2 n2 c2] 51 (0, 0)) := by
      rw [obj_setCell (w := w3.setCell ⟨b1, 0, none⟩ (.bool (decide (0 < n)))) (by exact obj_setCell hbl 0 (.bool (decide (0 < n)))) 1 (.slice a2 n2 c2)]; rfl
    have hz9 : ((w3.setCell ⟨b1, 0, none⟩ (.bool (decide (0 < n)))).setCell ⟨b1, 1, none⟩ (.slice a2 n2 c2)).heap.size = w3.heap.size := by simp
    have S9 := Lib.hid hs9; have W9 := Lib.hid hw9; have E9 := Lib.hid e9; have Z9 := Lib.hid hz9
    clear hs9 hw9 e9 hz9 hs2 hb2 hf2 hb3 hbl hx1 hx1' h03 hne2 c11 q1 q2 q3
    go_wp2_with fail
    generalize (w3.setCell ⟨b1, 0, none⟩ (.bool (decide (0 < n)))).setCell ⟨b1, 1, none⟩ (.slice a2 n2 c2) = w9 at *
    clear d1 d2 f1 f2
    have s9 := S9.out
    rw [← Z9.out] at s9
    have Hs9 := Lib.hid s9
    have hb9 : b1 < w9.heap.size := by rw [Z9.out]; exact hb1lt
    have h09 := W9.out.size
    obtain ⟨_, _, q3, _, _, _⟩ := cells_of3 ((W9.out.block w.heap.size (by omega)).trans E1.out)
    obtain ⟨p1, p2, _, _⟩ := cells_at E9.out
    clear s9
    refine wp_region_floats 10 [] [] [(0, true), (1, true), (2, true), (6, true), (3, false), (4, true), (5, true), (7, false), (8, true), (9, true)] (by kernel_rfl) (by kernel_rfl) ⟨by simp, by simp, fun _ h => by cases h⟩ (fun _ _ _ _ _ h => h) (fun _ _ o _ _ h => by cases o <;> exact h) ?_
    iterate 4
      refine wpG_yield (v := ?_) rfl rfl (by rfl) ?_ ?_
      rotate_left
      · intro z hz
        have z1 := (hz.cell (p := ⟨b1, 0, none⟩) hb9).trans p1
        have z2 := (hz.cell (p := ⟨b1, 1, none⟩) hb9).trans p2
        have z3 := (hz.cell (p := ⟨w.heap.size, 2, none⟩) (by show w.heap.size < w9.heap.size; omega)).trans q3
        go_simp
        with_reducible rfl
      try simp only [Act.put, List.setIfInBounds_toArray, List.set_cons_zero, List.set_cons_succ]
    refine wpG_step rfl rfl (fun x1 hx1 K hK => ?_)
    go_simp
    have hx1' : Below w9.heap.size w9 x1 := below_undrew (k := 1) hx1
    have h01 := W9.out.trans (hx1'.mono h09)
    refine (clone_s (digs d0) b m d _ (Hb.out.go (Hw0.out.trans (h01.mono Hw0.out.size))) (by omega)).mono ?_
    rintro e w10 ⟨a10, n10, c10', rfl, hs10, hb10, hf10⟩
    refine hK _ _ hb10 ?_
    clear hK K
    iterate 2
      refine wpG_pure (v := ?_) rfl (by rfl) ?_ ?_
      rotate_left
      · intro z
        go_simp
        with_reducible rfl
      try simp only [Act.put, List.setIfInBounds_toArray, List.set_cons_zero, List.set_cons_succ]
    refine wpG_step rfl rfl (fun x2 hx2 K hK => ?_)
    go_simp
    refine (qmade_ok (decide (0 < n)) false a2 a10 n2 n10 c2 c10' _).mono ?_
    rintro e w11 ⟨rfl, hb11⟩
    refine hK _ _ hb11 ?_
    clear hK K
    iterate 2
      refine wpG_pure (v := ?_) rfl (by rfl) ?_ ?_
      rotate_left
      · intro z
        go_simp
        with_reducible rfl
      try simp only [Act.put, List.setIfInBounds_toArray, List.set_cons_zero, List.set_cons_succ]
    refine wpG_nil0 rfl (fun w12 hb12 => ?_)
    have h2e : Below w10.heap.size w10 w12 := hx2.trans ((hb11.trans (hb12.mono hb11.size)).mono hx2.size)
    have h9e : Below w9.heap.size w9 w12 := hx1'.trans ((hb10.trans (h2e.mono hb10.size)).mono hx1'.size)
    have h0e := W9.out.trans (h9e.mono h09)
    have e2 := (h0e.block (w.heap.size + 1) hs0).trans E2.out
    obtain ⟨k1, k2, k3, k4, f1, f2, f3, f4⟩ := cells_of4 e2
    have r1 : w.heap.size + 1 < x1.heap.size := by have := hx1'.size; omega
    have V2 := Lib.hid (Hs9.out.go h9e); have V10 := Lib.hid (hs10.go h2e); have F10 := Lib.hid hf10
    have Hwe := Lib.hid (Hw0.out.trans (h0e.mono Hw0.out.size)); have E2e := Lib.hid e2
    clear hs10 hf10 hb10 hb11 hb12 h2e h9e h0e e2 hx1 hx1' h01 hx2 q3 p1 p2
    go_wp2_with fail
    refine bodyPost_ret (v := .tuple #[.agg #[.bool (decide (0 < n)), .slice a2 n2 c2, .bool false, .slice a10 n10 c10'], .int .i64 0]) ?_ rfl ?_
    · simp [results, Try.results67, go_sem, k1, k2, k3, k4]
    · have t2 := sl_kept (sl_kept (sl_kept (sl_kept V2.out F2.out hs0 0 (.bool (decide (0 < n)))) F2.out hs0 1 (.slice a2 n2 c2)) F2.out hs0 2 (.bool false)) F2.out hs0 3 (.slice a10 n10 c10')
      have t10 := sl_kept (sl_kept (sl_kept (sl_kept V10.out F10.out r1 0 (.bool (decide (0 < n)))) F10.out r1 1 (.slice a2 n2 c2)) F10.out r1 2 (.bool false)) F10.out r1 3 (.slice a10 n10 c10')
      have hwz : w.heap.size ≤ w.heap.size + 1 := by omega
      exact ⟨a2, n2, c2, a10, n10, c10', rfl, by simpa using t2, by simpa using t10, (((Hwe.out.setCell hwz _).setCell hwz _).setCell hwz _).setCell hwz _⟩

set_option maxRecDepth 100000 in
set_option maxHeartbeats 3200000 in
theorem qtold_f (k d0 : Nat) (a b : Option Addr) (n m c d : Nat) (w : World) (ha : SL w.heap.size w a n c (digs k)) (hb : SL w.heap.size w b m d (digs d0)) (hn : n ≤ 600) (hm : m ≤ 600) :
    Calls Try.prog 67 #[.agg #[.bool false, .slice a n c, .slice b m d]] w
      (fun e w' => ∃ a' n' c' b' m' d', e = .returned (.tuple #[.agg #[.bool false, .slice a' n' c', .bool false, .slice b' m' d'], .int .i64 0]) ∧ SL w'.heap.size w' a' n' c' (digs k) ∧ SL w'.heap.size w' b' m' d' (digs d0) ∧ Below w.heap.size w w') := by
  have Ha := Lib.hid ha; have Hb := Lib.hid hb
  clear ha hb
  obtain ⟨e1, e2⟩ := heap_two w (.cells #[.bool false, .slice a n c, .slice b m d] 88) (.cells #[.bool false, .slice none 0 0, .bool false, .slice none 0 0] 62)
  have hw0 := below_two (w := w) (.cells #[.bool false, .slice a n c, .slice b m d] 88) (.cells #[.bool false, .slice none 0 0, .bool false, .slice none 0 0] 62)
  have Hw0 := Lib.hid hw0; have E1 := Lib.hid e1; have E2 := Lib.hid e2
  clear hw0 e1 e2
  have hmx1 : ¬ 600 < max (n : Int) (m : Int) := by omega
  go_enter Try.func67, Try.ntmps67
  go_wp2_with fail
  all_goals
    generalize hw0e : ((w.alloc (.cells #[.bool false, .slice a n c, .slice b m d] 88)).alloc (.cells #[.bool false, .slice none 0 0, .bool false, .slice none 0 0] 62)) = w0 at *
    have hs0 : w.heap.size + 1 < w0.heap.size := by rw [← hw0e]; simp
    clear hw0e hmx1
    obtain ⟨q1, q2, q3, _, _, _⟩ := cells_of3 E1.out
    refine wp_region_floats 16 [] [(15, 5, .cells #[.bool false, .slice none 0 0] 51)] [(0, true), (1, true), (2, true), (3, true), (4, true), (5, true), (6, true), (7, true), (8, true), (9, true), (10, true), (11, true), (12, true), (13, false), (14, true)] (by kernel_rfl) (by kernel_rfl) ?_ (fun _ _ _ _ _ h => h) (fun _ _ o _ _ h => by cases o <;> exact h) ?_
  any_goals
    refine ⟨by simp, by simp, ?_⟩
    simp only [List.forall_mem_cons]
    exact ⟨⟨by omega, _, rfl, rfl, rfl, fun _ _ => rfl⟩, fun _ h => by cases h⟩
  all_goals
    iterate 4
      refine wpG_yield (v := ?_) rfl rfl (by rfl) ?_ ?_
      rotate_left
      · intro z hz
        have z1 := (hz.cell (p := ⟨w.heap.size, 0, none⟩) (by show w.heap.size < w0.heap.size; omega)).trans q1
        have z2 := (hz.cell (p := ⟨w.heap.size, 1, none⟩) (by show w.heap.size < w0.heap.size; omega)).trans q2
        go_simp
        with_reducible rfl
      try simp only [Act.put, List.setIfInBounds_toArray, List.set_cons_zero, List.set_cons_succ]
  all_goals
    iterate 5
      refine wpG_skip rfl (by rfl) ?_
      try simp only [Act.put, List.setIfInBounds_toArray, List.set_cons_zero, List.set_cons_succ]
  all_goals
    iterate 4
      refine wpG_yield (v := ?_) rfl rfl (by rfl) ?_ ?_
      rotate_left
      · intro z hz
        have z1 := (hz.cell (p := ⟨w.heap.size, 0, none⟩) (by show w.heap.size < w0.heap.size; omega)).trans q1
        have z2 := (hz.cell (p := ⟨w.heap.size, 1, none⟩) (by show w.heap.size < w0.heap.size; omega)).trans q2
        go_simp
        with_reducible rfl
      try simp only [Act.put, List.setIfInBounds_toArray, List.set_cons_zero, List.set_cons_succ]
  all_goals
    refine wpG_step rfl rfl (fun x1 hx1 K hK => ?_)
    go_simp
    have hx1' : Below w0.heap.size w0 x1 := below_undrew (k := 1) hx1
    refine (clone_s (digs k) a n c _ (Ha.out.go (Hw0.out.trans (hx1'.mono Hw0.out.size))) (by omega)).mono ?_
    rintro e w2 ⟨a2, n2, c2, rfl, hs2, hb2, hf2⟩
    refine hK _ _ hb2 ?_
    clear hK K
    refine wpG_pure (v := ?_) rfl (by rfl) ?_ ?_
    rotate_left
    · intro z
      go_simp
      with_reducible rfl
    try simp only [Act.put, List.setIfInBounds_toArray, List.set_cons_zero, List.set_cons_succ]
    refine wpG_nil1 rfl (fun b1 w3 hC hb3 hbl => ?_)
    try simp only [Act.put, List.setIfInBounds_toArray, List.set_cons_zero, List.set_cons_succ]
    obtain ⟨c10, c11⟩ := hC
    have h03 : Below w0.heap.size w0 w3 := hx1'.trans ((hb2.trans (hb3.mono hb2.size)).mono hx1'.size)
    have hne2 : ∀ b' off, a2 = some ⟨b', off, none⟩ → 0 < n2 → b' ≠ b1 := fun b' off e h0 => by
      have p1 := hf2 b' off e h0
      obtain ⟨b2, o2, e2, hlt, _⟩ := hs2.at h0
      rw [e] at e2; cases e2
      omega
    have hb1lt := lt_of_block hbl
    have F2 := Lib.hid (hf2.mono hx1'.size)
    obtain ⟨d1, d2, f1, f2⟩ := cells_at hbl
    have hs9 := ((hs2.go hb3).setCell ⟨b1, 0, none⟩ (.bool false) hne2).setCell ⟨b1, 1, none⟩ (.slice a2 n2 c2) hne2
    have hw9 : Below w0.heap.size w0 ((w3.setCell ⟨b1, 0, none⟩ (.bool false)).setCell ⟨b1, 1, none⟩ (.slice a2 n2 c2)) := (h03.setCell c10 _).setCell c10 _
    have e9 : ((w3.setCell ⟨b1, 0, none⟩ (.bool false)).setCell ⟨b1, 1, none⟩ (.slice a2 n2 c2)).heap[b1]? = some (.cells #[.bool false, .slice a2 n2 c2] 51 (0, 0)) := by
      rw [obj_setCell (w := w3.setCell ⟨b1, 0, none⟩ (.bool false)) (by exact obj_setCell hbl 0 (.bool false)) 1 (.slice a2 n2 c2)]; rfl
    have hz9 : ((w3.setCell ⟨b1, 0, none⟩ (.bool false)).setCell ⟨b1, 1, none⟩ (.slice a2 n2 c2)).heap.size = w3.heap.size := by simp
    have S9 := Lib.hid hs9; have W9 := Lib.hid hw9; have E9 := Lib.hid e9; have Z9 := Lib.hid hz9
    clear hs9 hw9 e9 hz9 hs2 hb2 hf2 hb3 hbl hx1 hx1' h03 hne2 c11 q1 q2 q3
    go_wp2_with fail
    generalize (w3.setCell ⟨b1, 0, none⟩ (.bool false)).setCell ⟨b1, 1, none⟩ (.slice a2 n2 c2) = w9 at *
    clear d1 d2 f1 f2
    have s9 := S9.out
    rw [← Z9.out] at s9
    have Hs9 := Lib.hid s9
    have hb9 : b1 < w9.heap.size := by rw [Z9.out]; exact hb1lt
    have h09 := W9.out.size
    obtain ⟨_, _, q3, _, _, _⟩ := cells_of3 ((W9.out.block w.heap.size (by omega)).trans E1.out)
    obtain ⟨p1, p2, _, _⟩ := cells_at E9.out
    clear s9
    refine wp_region_floats 10 [] [] [(0, true), (1, true), (2, true), (6, true), (3, false), (4, true), (5, true), (7, false), (8, true), (9, true)] (by kernel_rfl) (by kernel_rfl) ⟨by simp, by simp, fun _ h => by cases h⟩ (fun _ _ _ _ _ h => h) (fun _ _ o _ _ h => by cases o <;> exact h) ?_
    iterate 4
      refine wpG_yield (v := ?_) rfl rfl (by rfl) ?_ ?_
      rotate_left
      · intro z hz
        have z1 := (hz.cell (p := ⟨b1, 0, none⟩) hb9).trans p1
        have z2 := (hz.cell (p := ⟨b1, 1, none⟩) hb9).trans p2
        have z3 := (hz.cell (p := ⟨w.heap.size, 2, none⟩) (by show w.heap.size < w9.heap.size; omega)).trans q3
        go_simp
        with_reducible rfl
      try simp only [Act.put, List.setIfInBounds_toArray, List.set_cons_zero, List.set_cons_succ]
    refine wpG_step rfl rfl (fun x1 hx1 K hK => ?_)
    go_simp
    have hx1' : Below w9.heap.size w9 x1 := below_undrew (k := 1) hx1
    have h01 := W9.out.trans (hx1'.mono h09)
    refine (clone_s (digs d0) b m d _ (Hb.out.go (Hw0.out.trans (h01.mono Hw0.out.size))) (by omega)).mono ?_
    rintro e w10 ⟨a10, n10, c10', rfl, hs10, hb10, hf10⟩
    refine hK _ _ hb10 ?_
    clear hK K
    iterate 2
      refine wpG_pure (v := ?_) rfl (by rfl) ?_ ?_
      rotate_left
      · intro z
        go_simp
        with_reducible rfl
      try simp only [Act.put, List.setIfInBounds_toArray, List.set_cons_zero, List.set_cons_succ]
    refine wpG_step rfl rfl (fun x2 hx2 K hK => ?_)
    go_simp
    refine (qmade_ok false false a2 a10 n2 n10 c2 c10' _).mono ?_
    rintro e w11 ⟨rfl, hb11⟩
    refine hK _ _ hb11 ?_
    clear hK K
    iterate 2
      refine wpG_pure (v := ?_) rfl (by rfl) ?_ ?_
      rotate_left
      · intro z
        go_simp
        with_reducible rfl
      try simp only [Act.put, List.setIfInBounds_toArray, List.set_cons_zero, List.set_cons_succ]
    refine wpG_nil0 rfl (fun w12 hb12 => ?_)
    have h2e : Below w10.heap.size w10 w12 := hx2.trans ((hb11.trans (hb12.mono hb11.size)).mono hx2.size)
    have h9e : Below w9.heap.size w9 w12 := hx1'.trans ((hb10.trans (h2e.mono hb10.size)).mono hx1'.size)
    have h0e := W9.out.trans (h9e.mono h09)
    have e2 := (h0e.block (w.heap.size + 1) hs0).trans E2.out
    obtain ⟨k1, k2, k3, k4, f1, f2, f3, f4⟩ := cells_of4 e2
    have r1 : w.heap.size + 1 < x1.heap.size := by have := hx1'.size; omega
    have V2 := Lib.hid (Hs9.out.go h9e); have V10 := Lib.hid (hs10.go h2e); have F10 := Lib.hid hf10
    have Hwe := Lib.hid (Hw0.out.trans (h0e.mono Hw0.out.size)); have E2e := Lib.hid e2
    clear hs10 hf10 hb10 hb11 hb12 h2e h9e h0e e2 hx1 hx1' h01 hx2 q3 p1 p2
    go_wp2_with fail
    refine bodyPost_ret (v := .tuple #[.agg #[.bool false, .slice a2 n2 c2, .bool false, .slice a10 n10 c10'], .int .i64 0]) ?_ rfl ?_
    · simp [results, Try.results67, go_sem, k1, k2, k3, k4]
    · have t2 := sl_kept (sl_kept (sl_kept (sl_kept V2.out F2.out hs0 0 (.bool false)) F2.out hs0 1 (.slice a2 n2 c2)) F2.out hs0 2 (.bool false)) F2.out hs0 3 (.slice a10 n10 c10')
      have t10 := sl_kept (sl_kept (sl_kept (sl_kept V10.out F10.out r1 0 (.bool false)) F10.out r1 1 (.slice a2 n2 c2)) F10.out r1 2 (.bool false)) F10.out r1 3 (.slice a10 n10 c10')
      have hwz : w.heap.size ≤ w.heap.size + 1 := by omega
      exact ⟨a2, n2, c2, a10, n10, c10', rfl, by simpa using t2, by simpa using t10, (((Hwe.out.setCell hwz _).setCell hwz _).setCell hwz _).setCell hwz _⟩

theorem qtold_any (s : Bool) (k d0 : Nat) (q : Rat) (a b : Option Addr) (n m c d : Nat) (w : World) (ha : SL w.heap.size w a n c (digs k)) (hb : SL w.heap.size w b m d (digs d0)) (hn : n ≤ 600) (hm : m ≤ 600) (hk : sgn s k = q.num) (hd : d0 = q.den) :
    Calls Try.prog 67 #[.agg #[.bool s, .slice a n c, .slice b m d]] w (RetQuot w q) := by
  have hka : k = q.num.natAbs := by rw [← hk, sgn_abs]
  have hng : decide (q.num < 0) = (s && decide (0 < n)) := by
    rw [← hk, sgn_neg]
    congr 1
    have h1 := ha.len
    rw [decide_eq_decide, h1]
    constructor
    · intro h; rcases Nat.eq_zero_or_pos (digs k).length with h2 | h2
      · have := digs_len_zero.1 h2; omega
      · exact h2
    · intro h; rcases Nat.eq_zero_or_pos k with h2 | h2
      · rw [h2, digs_zero] at h; simp at h
      · exact h2
  have key : ∀ (e : Ending) (w' : World) (u : Bool), u = decide (q.num < 0) → (∃ a' n' c' b' m' d', e = .returned (.tuple #[.agg #[.bool u, .slice a' n' c', .bool false, .slice b' m' d'], .int .i64 0]) ∧ SL w'.heap.size w' a' n' c' (digs k) ∧ SL w'.heap.size w' b' m' d' (digs d0) ∧ Below w.heap.size w w') → RetQuot w q e w' := by
    rintro e w' u hu ⟨a', n', c', b', m', d', rfl, h1, h2, h3⟩
    refine ⟨_, rfl, ⟨u, a', n', c', b', m', d', rfl, ⟨hu, by rw [← hka]; exact h1, by rw [h1.len, ← ha.len]; exact hn⟩, ⟨by simp, by rw [Int.natAbs_natCast, ← hd]; exact h2, by rw [h2.len, ← hb.len]; exact hm⟩⟩, h3⟩
  cases s with
  | true => exact (qtold_t k d0 a b n m c d w ha hb hn hm).mono fun e w' h => key e w' _ (by rw [hng]; rfl) h
  | false => exact (qtold_f k d0 a b n m c d w ha hb hn hm).mono fun e w' h => key e w' _ (by rw [hng]; rfl) h

end Go.Proofs.Ytkfkdkoohnfgaaa

namespace Go.Proofs.Ytkfkdkoohnfgaaa
open Go.RowKit

theorem qone_ok (w : World) : Calls Try.prog 82 #[] w (RetS w (digs 1)) := by
  go_enter Try.func82, Try.ntmps82
  go_wp2
  go_ret
  refine ⟨_, _, _, rfl, ?_, (Below.refl _ _).alloc (Nat.le_refl _) _, Fresh.mk (Nat.le_refl _) _⟩
  have h := SL.one w 1 3
  rw [show digs 1 = [1] by rw [digs_pos (by omega)]; simp [digs_zero]]
  exact h

theorem qfield0 (s : Bool) (a b : Option Addr) (n c m d : Nat) (x : World) :
    ((Sem.run Try.prog (Instr.field 88 (Value.agg #[.bool s, .slice a n c, .slice b m d]) 0) x).andThen fun a w' => Result.ok (Next.value a) w') = Result.ok (Next.value (.agg #[.bool s, .slice a n c])) x := by
  kernel_rfl
theorem qfield1 (s : Bool) (a : Option Addr) (n c : Nat) (x : World) :
    ((Sem.run Try.prog (Instr.field 86 (Value.agg #[.bool s, .slice a n c]) 1) x).andThen fun a w' => Result.ok (Next.value a) w') = Result.ok (Next.value (.slice a n c)) x := by
  kernel_rfl

set_option maxRecDepth 100000 in
set_option maxHeartbeats 1600000 in
theorem qcheck_ok (q : Rat) (s : Bool) (a b : Option Addr) (n m c d : Nat) (w : World) (ha : LG w.heap.size w s a n c q.num) (hb : LG w.heap.size w false b m d (q.den : Int)) :
    Calls Try.prog 70 #[.agg #[.bool s, .slice a n c, .bool false, .slice b m d]] w (RetB w (.int .i64 0)) := by
  have hm0 : 0 < m := by
    have h1 := hb.2.1.len
    rw [Int.natAbs_natCast] at h1
    rcases Nat.eq_zero_or_pos m with h | h
    · rw [h] at h1; have := digs_len_zero.1 h1.symm; exact absurd this q.den_nz
    · exact h
  have hn6 := ha.2.2
  have hm6 := hb.2.2
  have hmz : ((m : Int) == 0) = false := by rw [beq_eq_false_iff_ne]; omega
  have hgcd : Nat.gcd q.num.natAbs q.den = 1 := q.reduced
  have Ha := Lib.hid ha; have Hb := Lib.hid hb; have Hgcd := Lib.hid hgcd
  clear ha hb hgcd
  have e1 := heap_alloc_new w (.cells #[.bool s, .slice a n c, .bool false, .slice b m d] 62)
  have hw0 := (Below.refl w.heap.size w).alloc (Nat.le_refl _) (.cells #[.bool s, .slice a n c, .bool false, .slice b m d] 62)
  have E1 := Lib.hid e1; have Hw0 := Lib.hid hw0
  clear e1 hw0
  go_enter Try.func70, Try.ntmps70
  go_wp2_with fail
  generalize hw0e : w.alloc (.cells #[.bool s, .slice a n c, .bool false, .slice b m d] 62) = w0 at *
  have hs0 : w.heap.size < w0.heap.size := by rw [← hw0e]; simp
  obtain ⟨q1, q2, q3, q4, _, _, _, _⟩ := cells_of4 E1.out
  clear hw0e
  refine wp_region_floats 35 [] [] [(0, true), (1, true), (2, false), (3, true), (4, true), (5, true), (6, true), (7, false), (8, true), (9, true), (10, true), (11, true), (12, true), (13, true), (14, true), (15, true), (16, true), (17, true), (18, true), (19, true), (20, true), (21, true), (22, true), (23, true), (27, true), (28, true), (29, true), (24, false), (25, true), (26, true), (30, false), (31, false), (32, false), (33, true), (34, true)] (by kernel_rfl) (by kernel_rfl) ⟨by simp, by simp, fun _ h => by cases h⟩ (fun _ _ _ _ _ h => h) (fun _ _ o _ _ h => by cases o <;> exact h) ?_
  iterate 2
    refine wpG_yield (v := ?_) rfl rfl (by rfl) ?_ ?_
    rotate_left
    · intro z hz
      have z1 := (hz.cell (p := ⟨w.heap.size, 0, none⟩) hs0).trans q1
      have z2 := (hz.cell (p := ⟨w.heap.size, 1, none⟩) hs0).trans q2
      go_simp
      with_reducible rfl
    try simp only [Act.put, List.setIfInBounds_toArray, List.set_cons_zero, List.set_cons_succ]
  refine wpG_step rfl rfl (fun x1 hx1 K hK => ?_)
  go_simp
  have hx1' : Below w0.heap.size w0 x1 := below_undrew (k := 1) hx1
  refine (check_ok s q.num a n c _ (Ha.out.go (Hw0.out.trans (hx1'.mono Hw0.out.size)))).mono ?_
  rintro e w2 ⟨rfl, hb2⟩
  refine hK _ _ hb2 ?_
  clear hK K
  have h02 := hx1'.trans (hb2.mono hx1'.size)
  have hs2 : w.heap.size < w2.heap.size := by have := h02.size; omega
  iterate 4
    refine wpG_yield (v := ?_) rfl rfl (by rfl) ?_ ?_
    rotate_left
    · intro z hz
      have z3 := (hz.cell (p := ⟨w.heap.size, 2, none⟩) hs2).trans ((h02.cell (p := ⟨w.heap.size, 2, none⟩) hs0).trans q3)
      have z4 := (hz.cell (p := ⟨w.heap.size, 3, none⟩) hs2).trans ((h02.cell (p := ⟨w.heap.size, 3, none⟩) hs0).trans q4)
      go_simp
      with_reducible rfl
    try simp only [Act.put, List.setIfInBounds_toArray, List.set_cons_zero, List.set_cons_succ]
  refine wpG_stepw rfl (by rfl) (fun x2 hx2 K hK => ?_)
  go_simp
  have h03 := h02.trans (hx2.mono h02.size)
  refine (check_ok false (q.den : Int) b m d _ (Hb.out.go (Hw0.out.trans (h03.mono Hw0.out.size)))).mono ?_
  rintro e w3 ⟨rfl, hb3⟩
  refine hK _ _ hb3 ?_
  clear hK K
  have h04 := h03.trans (hb3.mono h03.size)
  have hs3 : w.heap.size < w3.heap.size := by have := h04.size; omega
  iterate 19
    refine wpG_yield (v := ?_) rfl rfl (by rfl) ?_ ?_
    rotate_left
    · intro z hz
      have z1 := (hz.cell (p := ⟨w.heap.size, 0, none⟩) hs3).trans ((h04.cell (p := ⟨w.heap.size, 0, none⟩) hs0).trans q1)
      have z2 := (hz.cell (p := ⟨w.heap.size, 1, none⟩) hs3).trans ((h04.cell (p := ⟨w.heap.size, 1, none⟩) hs0).trans q2)
      have z3 := (hz.cell (p := ⟨w.heap.size, 2, none⟩) hs3).trans ((h04.cell (p := ⟨w.heap.size, 2, none⟩) hs0).trans q3)
      have z4 := (hz.cell (p := ⟨w.heap.size, 3, none⟩) hs3).trans ((h04.cell (p := ⟨w.heap.size, 3, none⟩) hs0).trans q4)
      go_simp
      with_reducible rfl
    try simp only [Act.put, List.setIfInBounds_toArray, List.set_cons_zero, List.set_cons_succ]
  refine wpG_stepw rfl (by rfl) (fun x3 hx3 K hK => ?_)
  go_simp
  refine (qread_any s false a b n m c d _).mono ?_
  rintro e w4 ⟨rfl, hb4⟩
  refine hK _ _ hb4 ?_
  clear hK K
  have h05 := h04.trans ((hx3.trans (hb4.mono hx3.size)).mono h04.size)
  refine wpG_yield (v := .agg #[.bool s, .slice a n c]) rfl rfl (by rfl) (fun z _ => qfield0 s a b n c m d z) ?_
  try simp only [Act.put, List.setIfInBounds_toArray, List.set_cons_zero, List.set_cons_succ]
  refine wpG_yield (v := .slice a n c) rfl rfl (by rfl) (fun z _ => qfield1 s a n c z) ?_
  try simp only [Act.put, List.setIfInBounds_toArray, List.set_cons_zero, List.set_cons_succ]
  refine wpG_stepw rfl (by rfl) (fun x4 hx4 K hK => ?_)
  go_simp
  have h06 := h05.trans (hx4.mono h05.size)
  have hw6 := Hw0.out.trans (h06.mono Hw0.out.size)
  have hbl := (Hb.out.go hw6).2.1
  rw [Int.natAbs_natCast] at hbl
  refine (common_any q.num.natAbs q.den a b n m c d _ (Ha.out.go hw6).2.1 hbl (by omega) (by omega)).mono ?_
  rintro e w5 ⟨a5, n5, c5, rfl, hs5, hb5⟩
  refine hK _ _ hb5 ?_
  clear hK K
  rw [Hgcd.out] at hs5
  have h07 := h06.trans (hb5.mono h06.size)
  refine wpG_stepw rfl (by rfl) (fun x5 hx5 K hK => ?_)
  go_simp
  refine (qone_ok _).mono ?_
  rintro e w6 ⟨a6, n6, c6, rfl, hs6, hb6, _⟩
  refine hK _ _ hb6 ?_
  clear hK K
  have h56 := hx5.trans (hb6.mono hx5.size)
  have h08 := h07.trans (h56.mono h07.size)
  refine wpG_stepw rfl (by rfl) (fun x6 hx6 K hK => ?_)
  go_simp
  have hl1 : (digs 1).length ≤ 3 := length_digs_int 1 (by omega) (by omega)
  refine (cmp_any (digs 1) (digs 1) a5 a6 n5 n6 c5 c6 _ (hs5.go (h56.trans (hx6.mono h56.size))) (hs6.go hx6) (by have := hs5.len; omega) (by have := hs6.len; omega) (dig_digs _) (dig_digs _)).mono ?_
  rintro e w7 ⟨rfl, kk, rfl⟩
  refine hK _ _ (below_drewN (Below.refl _ _) _) ?_
  clear hK K
  have hz0 : cmpS (digs 1) (digs 1) = 0 := by
    have h1 := (cmpS_sign (m := 1) (n := 1)).1
    have h2 := (cmpS_sign (m := 1) (n := 1)).2
    omega
  rw [hz0]
  have Hw8 := Lib.hid (Hw0.out.trans ((h08.trans (hx6.mono h08.size)).mono Hw0.out.size))
  clear hx1 hx1' hb2 h02 hx2 h03 hb3 h04 hx3 hb4 h05 hx4 h06 hb5 h07 hx5 hb6 h56 h08 hs5 hs6 hw6 hbl q1 q2 q3 q4
  iterate 2
    refine wpG_yield (v := ?_) rfl rfl (by rfl) ?_ ?_
    rotate_left
    · intro z hz
      go_simp
      with_reducible rfl
    try simp only [Act.put, List.setIfInBounds_toArray, List.set_cons_zero, List.set_cons_succ]
  refine wpG_nil0 rfl (fun w8 hb8 => ?_)
  have Hw9 := Lib.hid (Hw8.out.trans ((below_undrew hb8).mono Hw8.out.size))
  clear hb8
  go_wp2
  go_ret
  exact ⟨rfl, Hw9.out⟩

end Go.Proofs.Ytkfkdkoohnfgaaa

namespace Go.Proofs.Ytkfkdkoohnfgaaa
open Go.RowKit

theorem cells_of8 {w : World} {b : Nat} {x0 x1 x2 x3 x4 x5 x6 x7 : Value} {t : TypeId} (h : w.heap[b]? = some (.cells #[x0, x1, x2, x3, x4, x5, x6, x7] t (0, 0))) :
    w.cell? ⟨b, 0, none⟩ = some x0 ∧ w.cell? ⟨b, 1, none⟩ = some x1 ∧ w.cell? ⟨b, 2, none⟩ = some x2 ∧ w.cell? ⟨b, 3, none⟩ = some x3 ∧ w.cell? ⟨b, 4, none⟩ = some x4 ∧ w.cell? ⟨b, 5, none⟩ = some x5 ∧ w.cell? ⟨b, 6, none⟩ = some x6 ∧ w.cell? ⟨b, 7, none⟩ = some x7 := by
  refine ⟨?_, ?_, ?_, ?_, ?_, ?_, ?_, ?_⟩ <;> simp [World.cell?, h]

set_option maxRecDepth 100000 in
set_option maxHeartbeats 1600000 in
theorem qall_ok (q r : Rat) (s t : Bool) (a b a' b' : Option Addr) (n m n' m' c d c' d' g : Nat) (w : World) (ha : LG w.heap.size w s a n c q.num) (hb : LG w.heap.size w false b m d (q.den : Int)) (ha' : LG w.heap.size w t a' n' c' r.num) (hb' : LG w.heap.size w false b' m' d' (r.den : Int))
    (hg : w.heap[g]? = some (.cells #[.bool s, .slice a n c, .bool false, .slice b m d, .bool t, .slice a' n' c', .bool false, .slice b' m' d'] 62 (0, 0))) :
    Calls Try.prog 46 #[.slice (some ⟨g, 0, none⟩) 2 2] w (RetB w (.int .i64 0)) := by
  have hlt := lt_of_block hg
  have Ha := Lib.hid ha; have Hb := Lib.hid hb; have Ha' := Lib.hid ha'; have Hb' := Lib.hid hb'; have Hg := Lib.hid hg
  clear ha hb ha' hb' hg
  go_enter Try.func46, Try.ntmps46
  go_wp2_with fail
  go_loopw [8] (fun iv wr => ∃ i : Nat, i ≤ 2 ∧ iv = .int .i64 (i : Int) ∧ Below w.heap.size w wr) (fun iv _ => 2 - (intOf iv).toNat)
  case atStart => exact ⟨0, by omega, rfl, Below.refl _ _⟩
  case round =>
    obtain ⟨i, hi, rfl, hwr⟩ := hrel
    obtain ⟨q0, q1, q2, q3, q4, q5, q6, q7⟩ := cells_of8 ((hwr.block g hlt).trans Hg.out)
    have hi3 : i = 0 ∨ i = 1 ∨ i = 2 := by omega
    rcases hi3 with rfl | rfl | rfl
    · have hba := hwr.alloc hwr.size (.cells #[.bool s, .slice a n c, .bool false, .slice b m d] 62)
      have Hba := Lib.hid hba; clear hba
      go_wp2_with fail
      refine (qcheck_ok q s a b n m c d _ (by simpa using Ha.out.go Hba.out) (by simpa using Hb.out.go Hba.out)).mono ?_
      rintro e w2 ⟨rfl, hb2⟩
      have hw2 := Hba.out.trans (hb2.mono Hba.out.size)
      clear hb2
      go_wp2
      go_roundw
      case rel => exact ⟨1, by omega, rfl, hw2⟩
      case measure => simp [intOf]
    · have hba := hwr.alloc hwr.size (.cells #[.bool t, .slice a' n' c', .bool false, .slice b' m' d'] 62)
      have Hba := Lib.hid hba; clear hba
      go_wp2_with fail
      refine (qcheck_ok r t a' b' n' m' c' d' _ (by simpa using Ha'.out.go Hba.out) (by simpa using Hb'.out.go Hba.out)).mono ?_
      rintro e w2 ⟨rfl, hb2⟩
      have hw2 := Hba.out.trans (hb2.mono Hba.out.size)
      clear hb2
      go_wp2
      go_roundw
      case rel => exact ⟨2, by omega, rfl, hw2⟩
      case measure => simp [intOf]
    · go_wp2
      go_ret
      exact ⟨rfl, hwr⟩

theorem heap_4 (w : World) (o p q r : Obj) : ((((w.alloc o).alloc p).alloc q).alloc r).heap[w.heap.size]? = some o ∧ ((((w.alloc o).alloc p).alloc q).alloc r).heap[w.heap.size + 1]? = some p ∧
    ((((w.alloc o).alloc p).alloc q).alloc r).heap[w.heap.size + 2]? = some q ∧ ((((w.alloc o).alloc p).alloc q).alloc r).heap[w.heap.size + 3]? = some r := by
  obtain ⟨e1, e2, e3⟩ := heap_three w o p q
  refine ⟨?_, ?_, ?_, ?_⟩
  · rw [Below.heap_alloc _ _ _ (by simp <;> omega)]; exact e1
  · rw [Below.heap_alloc _ _ _ (by simp <;> omega)]; exact e2
  · rw [Below.heap_alloc _ _ _ (by simp)]; exact e3
  · have := heap_alloc_new (((w.alloc o).alloc p).alloc q) r
    simpa using this

theorem below_4 (w : World) (o p q r : Obj) : Below w.heap.size w ((((w.alloc o).alloc p).alloc q).alloc r) :=
  ((((Below.refl _ _).alloc (Nat.le_refl _) _).alloc (by simp) _).alloc (by simp; omega) _).alloc (by simp; omega) _

theorem LG.ne4 {N : Nat} {w : World} {s u u' : Bool} {a v v' : Option Addr} {n c g p q p' q' : Nat} {z : Int} {t : TypeId} (h : LG N w s a n c z) (hg : w.heap[g]? = some (.cells #[.bool u, .slice v p q, .bool u', .slice v' p' q'] t (0, 0))) :
    ∀ b off, a = some ⟨b, off, none⟩ → 0 < n → b ≠ g := fun b off e h0 hb => by
  subst hb
  obtain ⟨b', off', e', _, hc⟩ := h.2.1.at h0
  rw [e] at e'; cases e'
  have := hc 0 h0
  simp only [World.cell?, hg] at this
  match off, this with
  | 0, this => simp at this
  | 1, this => simp at this
  | 2, this => simp at this
  | 3, this => simp at this
  | k + 4, this => simp at this

/-- a fraction is stored into a variable -/
theorem QG.store {w : World} {g : Nat} {q : Rat} {s u u' : Bool} {a b v v' : Option Addr} {n c m d p p2 p' p2' : Nat} {t : TypeId} (h0 : w.heap[g]? = some (.cells #[.bool u, .slice v p p2, .bool u', .slice v' p' p2'] t (0, 0)))
    (h1 : LG w.heap.size w s a n c q.num) (h2 : LG w.heap.size w false b m d (q.den : Int)) :
    QG ((((w.setCell ⟨g, 0, none⟩ (.bool s)).setCell ⟨g, 1, none⟩ (.slice a n c)).setCell ⟨g, 2, none⟩ (.bool false)).setCell ⟨g, 3, none⟩ (.slice b m d)).heap.size
      ((((w.setCell ⟨g, 0, none⟩ (.bool s)).setCell ⟨g, 1, none⟩ (.slice a n c)).setCell ⟨g, 2, none⟩ (.bool false)).setCell ⟨g, 3, none⟩ (.slice b m d)) (.agg #[.bool s, .slice a n c, .bool false, .slice b m d]) q := by
  have n1 := h1.ne4 h0
  have n2 := h2.ne4 h0
  refine ⟨s, a, n, c, b, m, d, rfl, ?_, ?_⟩
  · simpa using (((h1.setCell ⟨g, 0, none⟩ (.bool s) n1).setCell ⟨g, 1, none⟩ (.slice a n c) n1).setCell ⟨g, 2, none⟩ (.bool false) n1).setCell ⟨g, 3, none⟩ (.slice b m d) n1
  · simpa using (((h2.setCell ⟨g, 0, none⟩ (.bool s) n2).setCell ⟨g, 1, none⟩ (.slice a n c) n2).setCell ⟨g, 2, none⟩ (.bool false) n2).setCell ⟨g, 3, none⟩ (.slice b m d) n2

/-- what a function of two fractions of any length must do -/
def OpQ (F : FuncId) (q r z : Rat) : Prop :=
  ∀ (s t : Bool) (a b a' b' : Option Addr) (n m n' m' c d c' d' : Nat) (w : World), LG w.heap.size w s a n c q.num → LG w.heap.size w false b m d (q.den : Int) → LG w.heap.size w t a' n' c' r.num → LG w.heap.size w false b' m' d' (r.den : Int) →
    Calls Try.prog F #[.agg #[.bool s, .slice a n c, .slice b m d], .agg #[.bool t, .slice a' n' c', .slice b' m' d']] w (fun e w' => ∃ u k D, sgn u k = z.num ∧ D = z.den ∧ RetRt w u k D e w')

set_option maxRecDepth 100000 in
set_option maxHeartbeats 1600000 in
theorem qboth_any (F : FuncId) (q r z : Rat) (v v' : Value) (w : World) (hq : QG w.heap.size w v q) (hr : QG w.heap.size w v' r) (hF : OpQ F q r z) (hen : ∀ args x, Sem.run Try.prog (callFunc F args) x = .ok (.enter F args) x) (h1 : (digs z.num.natAbs).length ≤ 600) (h2 : (digs z.den).length ≤ 600) :
    Calls Try.prog 43 #[v, v', .func (.func F) #[] #[]] w (RetQuot w z) := by
  obtain ⟨s, a, n, c, b, m, d, rfl, ha, hb⟩ := hq
  obtain ⟨t, a', n', c', b', m', d', rfl, ha', hb'⟩ := hr
  have Ha := Lib.hid ha; have Hb := Lib.hid hb; have Ha' := Lib.hid ha'; have Hb' := Lib.hid hb'; have HF := Lib.hid hF; have H1 := Lib.hid h1; have H2 := Lib.hid h2
  clear ha hb ha' hb' hF h1 h2
  obtain ⟨e1, e2, e3, e4⟩ := heap_4 w (.cells #[.bool s, .slice a n c, .bool false, .slice b m d] 62) (.cells #[.bool t, .slice a' n' c', .bool false, .slice b' m' d'] 62) (.cells #[.bool false, .slice none 0 0, .bool false, .slice none 0 0] 62) (.cells #[.bool s, .slice a n c, .bool false, .slice b m d, .bool t, .slice a' n' c', .bool false, .slice b' m' d'] 62)
  have hw0 := below_4 w (.cells #[.bool s, .slice a n c, .bool false, .slice b m d] 62) (.cells #[.bool t, .slice a' n' c', .bool false, .slice b' m' d'] 62) (.cells #[.bool false, .slice none 0 0, .bool false, .slice none 0 0] 62) (.cells #[.bool s, .slice a n c, .bool false, .slice b m d, .bool t, .slice a' n' c', .bool false, .slice b' m' d'] 62)
  have E1 := Lib.hid e1; have E2 := Lib.hid e2; have E3 := Lib.hid e3; have E4 := Lib.hid e4; have Hw0 := Lib.hid hw0
  clear e1 e2 e3 e4 hw0
  go_enter Try.func43, Try.ntmps43
  go_wp2_with fail
  refine (qall_ok q r s t a b a' b' n m n' m' c d c' d' (w.heap.size + 3) _ (Ha.out.go Hw0.out) (Hb.out.go Hw0.out) (Ha'.out.go Hw0.out) (Hb'.out.go Hw0.out) E4.out).mono ?_
  rintro e w1 ⟨rfl, hb1⟩
  have hz1 := hb1.size
  simp at hz1
  have G1 := Lib.hid ((hb1.block w.heap.size (by simp <;> omega)).trans E1.out); have G2 := Lib.hid ((hb1.block (w.heap.size + 1) (by simp <;> omega)).trans E2.out); have G3 := Lib.hid ((hb1.block (w.heap.size + 2) (by simp <;> omega)).trans E3.out)
  have Hw1 := Lib.hid (Hw0.out.trans (hb1.mono Hw0.out.size))
  clear hb1
  go_wp2_with fail
  obtain ⟨q0, q1, q2, q3, _, _, _, _⟩ := cells_of4 G1.out
  obtain ⟨q4, q5, q6, q7, _, _, _, _⟩ := cells_of4 G2.out
  refine wp_region_floats 9 [] [] [(0, true), (1, true), (3, true), (2, false), (4, false), (5, false), (6, false), (7, true), (8, true)] (by kernel_rfl) (by kernel_rfl) ⟨by simp, by simp, fun _ h => by cases h⟩ (fun _ _ _ _ _ h => h) (fun _ _ o _ _ h => by cases o <;> exact h) ?_
  iterate 3
    refine wpG_yield (v := ?_) rfl rfl (by rfl) ?_ ?_
    rotate_left
    · intro x hx
      have z0 := (hx.cell (p := ⟨w.heap.size, 0, none⟩) (by show w.heap.size < w1.heap.size; omega)).trans q0
      have z1 := (hx.cell (p := ⟨w.heap.size, 1, none⟩) (by show w.heap.size < w1.heap.size; omega)).trans q1
      have z2 := (hx.cell (p := ⟨w.heap.size, 2, none⟩) (by show w.heap.size < w1.heap.size; omega)).trans q2
      have z3 := (hx.cell (p := ⟨w.heap.size, 3, none⟩) (by show w.heap.size < w1.heap.size; omega)).trans q3
      have z4 := (hx.cell (p := ⟨w.heap.size + 1, 0, none⟩) (by show w.heap.size + 1 < w1.heap.size; omega)).trans q4
      have z5 := (hx.cell (p := ⟨w.heap.size + 1, 1, none⟩) (by show w.heap.size + 1 < w1.heap.size; omega)).trans q5
      have z6 := (hx.cell (p := ⟨w.heap.size + 1, 2, none⟩) (by show w.heap.size + 1 < w1.heap.size; omega)).trans q6
      have z7 := (hx.cell (p := ⟨w.heap.size + 1, 3, none⟩) (by show w.heap.size + 1 < w1.heap.size; omega)).trans q7
      go_simp
      with_reducible rfl
    try simp only [Act.put, List.setIfInBounds_toArray, List.set_cons_zero, List.set_cons_succ]
  refine wpG_step rfl rfl (fun x1 hx1 K hK => ?_)
  go_simp
  have hx1' : Below w1.heap.size w1 x1 := below_undrew (k := 1) hx1
  refine (qread_any s false a b n m c d _).mono ?_
  rintro e w2 ⟨rfl, hb2⟩
  refine hK _ _ hb2 ?_
  clear hK K
  refine wpG_step rfl rfl (fun x2 hx2 K hK => ?_)
  go_simp
  refine (qread_any t false a' b' n' m' c' d' _).mono ?_
  rintro e w3 ⟨rfl, hb3⟩
  refine hK _ _ hb3 ?_
  clear hK K
  refine wpG_step rfl rfl (fun x3 hx3 K hK => ?_)
  go_simp
  have h13 : Below w1.heap.size w1 x3 := hx1'.trans (((hb2.trans (hx2.mono hb2.size)).trans ((hb3.trans (hx3.mono hb3.size)).mono (Nat.le_trans hb2.size hx2.size))).mono hx1'.size)
  have hw3 := Hw1.out.trans (h13.mono Hw1.out.size)
  refine (HF.out s t a b a' b' n m n' m' c d c' d' _ (Ha.out.go hw3) (Hb.out.go hw3) (Ha'.out.go hw3) (Hb'.out.go hw3)).mono ?_
  rintro e w4 ⟨u, k, D, hu, hD, a5, n5, c5, a6, n6, c6, rfl, hs5, hs6, hb4, _, _⟩
  refine hK _ _ hb4 ?_
  clear hK K
  have h14 := h13.trans (hb4.mono h13.size)
  have L5 : n5 ≤ 600 := by rw [hs5.len, ← sgn_abs u k, hu]; exact H1.out
  have L6 : n6 ≤ 600 := by rw [hs6.len, hD]; exact H2.out
  refine wpG_step rfl rfl (fun x4 hx4 K hK => ?_)
  go_simp
  refine (qtold_any u k D z a5 a6 n5 n6 c5 c6 _ (hs5.go hx4) (hs6.go hx4) L5 L6 hu hD).mono ?_
  rintro e w5 ⟨vv, rfl, hqg, hb5⟩
  refine hK _ _ hb5 ?_
  clear hK K
  obtain ⟨s8, a8, n8, c8, a9, n9, c9, rfl, hl8, hl9⟩ := hqg
  iterate 2
    refine wpG_pure (v := ?_) rfl (by rfl) ?_ ?_
    rotate_left
    · intro x
      go_simp
      with_reducible rfl
    try simp only [Act.put, List.setIfInBounds_toArray, List.set_cons_zero, List.set_cons_succ]
  refine wpG_nil0 rfl (fun w6 hb6 => ?_)
  have h16 := h14.trans ((hx4.trans ((hb5.trans (hb6.mono hb5.size)).mono hx4.size)).mono h14.size)
  have e3 := (h16.block (w.heap.size + 2) (by omega)).trans G3.out
  obtain ⟨k1, k2, k3, k4, f1, f2, f3, f4⟩ := cells_of4 e3
  have Hw6 := Lib.hid (Hw1.out.trans (h16.mono Hw1.out.size))
  have V8 := Lib.hid (hl8.go hb6); have V9 := Lib.hid (hl9.go hb6); have E3' := Lib.hid e3
  clear hl8 hl9 hb5 hb6 h16 h14 h13 hw3 hs5 hs6 hb4 hb2 hb3 hx1 hx1' hx2 hx3 hx4 e3 q0 q1 q2 q3 q4 q5 q6 q7
  go_wp2_with fail
  refine bodyPost_ret (v := .tuple #[.agg #[.bool s8, .slice a8 n8 c8, .bool false, .slice a9 n9 c9], .int .i64 0]) ?_ rfl ?_
  · simp [results, Try.results43, go_sem, k1, k2, k3, k4]
  · have hz : w.heap.size ≤ w.heap.size + 2 := by omega
    exact ⟨_, rfl, QG.store E3'.out V8.out V9.out, (((Hw6.out.setCell hz _).setCell hz _).setCell hz _).setCell hz _⟩

end Go.Proofs.Ytkfkdkoohnfgaaa

namespace Go.Proofs.Ytkfkdkoohnfgaaa
open Go.RowKit

theorem op_prod (q r : Rat) : OpQ 44 q r (q * r) := by
  intro s t a b a' b' n m n' m' c d c' d' w h1 h2 h3 h4
  have k2 := h2.2.1; have k4 := h4.2.1
  rw [Int.natAbs_natCast] at k2 k4
  obtain ⟨e1, e2⟩ := rat_mul q r
  refine (qprod_any s t q.num.natAbs r.num.natAbs q.den r.den a a' b b' n n' m m' c c' d d' w h1.2.1 k2 h3.2.1 k4 (by have := h1.2.2; omega) (by have := h2.2.2; omega) (by have := h3.2.2; omega) (by have := h4.2.2; omega) q.den_pos r.den_pos).mono fun e w' h => ⟨_, _, _, ?_, ?_, h⟩
  · rw [sgn_ne, sgn_div s (Nat.gcd_dvd_left _ _), sgn_div t (Nat.gcd_dvd_left _ _), h1.1, h3.1, sgn_of, sgn_of, e1]
  · rw [e2, Nat.mul_comm]

theorem op_sum (q r : Rat) : OpQ 45 q r (q + r) := by
  intro s t a b a' b' n m n' m' c d c' d' w h1 h2 h3 h4
  have k2 := h2.2.1; have k4 := h4.2.1
  rw [Int.natAbs_natCast] at k2 k4
  obtain ⟨e1, e2⟩ := rat_add q r
  have hs : sgn (plusS s t (q.num.natAbs * (r.den / q.den.gcd r.den)) (r.num.natAbs * (q.den / q.den.gcd r.den))) (plusK s t (q.num.natAbs * (r.den / q.den.gcd r.den)) (r.num.natAbs * (q.den / q.den.gcd r.den))) = q.num * (r.den / q.den.gcd r.den : Nat) + r.num * (q.den / q.den.gcd r.den : Nat) := by
    rw [plus_sgn, sgn_mul, sgn_mul, h1.1, h3.1, sgn_of, sgn_of]
  have ha := congrArg Int.natAbs hs
  rw [sgn_abs] at ha
  refine (qsum_any s t q.num.natAbs r.num.natAbs q.den r.den _ _ _ _ _ a a' b b' n n' m m' c c' d d' w h1.2.1 k2 h3.2.1 k4 (by have := h1.2.2; omega) (by have := h2.2.2; omega) (by have := h3.2.2; omega) (by have := h4.2.2; omega) q.den_pos r.den_pos rfl rfl rfl rfl rfl).mono fun e w' h => ⟨_, _, _, ?_, ?_, h⟩
  · rw [sgn_div _ (Nat.gcd_dvd_left _ _), hs, ha, e1]
  · rw [e2, ha]

set_option maxRecDepth 100000 in
set_option maxHeartbeats 1600000 in
theorem qmul_any (q r : Rat) (v v' : Value) (w : World) (hq : QG w.heap.size w v q) (hr : QG w.heap.size w v' r) (h1 : (digs (q * r).num.natAbs).length ≤ 600) (h2 : (digs (q * r).den).length ≤ 600) :
    Calls Try.prog 26 #[v, v'] w (RetQuot w (q * r)) := by
  have hq0 := hq
  have hr0 := hr
  obtain ⟨s, a, n, c, b, m, d, rfl, _, _⟩ := hq
  obtain ⟨t, a', n', c', b', m', d', rfl, _, _⟩ := hr
  have Hq := Lib.hid hq0; have Hr := Lib.hid hr0; have H1 := Lib.hid h1; have H2 := Lib.hid h2
  clear hq0 hr0 h1 h2
  obtain ⟨e1, e2, e3⟩ := heap_three w (.cells #[.bool s, .slice a n c, .bool false, .slice b m d] 62) (.cells #[.bool t, .slice a' n' c', .bool false, .slice b' m' d'] 62) (.cells #[.bool false, .slice none 0 0, .bool false, .slice none 0 0] 62)
  have hw0 := below_three w (.cells #[.bool s, .slice a n c, .bool false, .slice b m d] 62) (.cells #[.bool t, .slice a' n' c', .bool false, .slice b' m' d'] 62) (.cells #[.bool false, .slice none 0 0, .bool false, .slice none 0 0] 62)
  have E3 := Lib.hid e3; have Hw0 := Lib.hid hw0
  clear e1 e2 e3 hw0
  go_enter Try.func26, Try.ntmps26
  go_wp2_with fail
  refine (qboth_any 44 q r (q * r) _ _ _ (Hq.out.go Hw0.out) (Hr.out.go Hw0.out) (op_prod q r) (fun _ _ => by kernel_rfl) H1.out H2.out).mono ?_
  rintro e w1 ⟨vv, rfl, hqg, hb1⟩
  obtain ⟨s8, a8, n8, c8, a9, n9, c9, rfl, hl8, hl9⟩ := hqg
  have e3 := (hb1.block (w.heap.size + 2) (by simp)).trans E3.out
  obtain ⟨k1, k2, k3, k4, f1, f2, f3, f4⟩ := cells_of4 e3
  have Hw1 := Lib.hid (Hw0.out.trans (hb1.mono Hw0.out.size))
  have V8 := Lib.hid hl8; have V9 := Lib.hid hl9; have E3' := Lib.hid e3
  clear hl8 hl9 hb1 e3
  go_wp2_with fail
  refine bodyPost_ret (v := .tuple #[.agg #[.bool s8, .slice a8 n8 c8, .bool false, .slice a9 n9 c9], .int .i64 0]) ?_ rfl ?_
  · simp [results, Try.results26, go_sem, k1, k2, k3, k4]
  · have hz : w.heap.size ≤ w.heap.size + 2 := by omega
    exact ⟨_, rfl, QG.store E3'.out V8.out V9.out, (((Hw1.out.setCell hz _).setCell hz _).setCell hz _).setCell hz _⟩

set_option maxRecDepth 100000 in
set_option maxHeartbeats 1600000 in
theorem qadd_any (q r : Rat) (v v' : Value) (w : World) (hq : QG w.heap.size w v q) (hr : QG w.heap.size w v' r) (h1 : (digs (q + r).num.natAbs).length ≤ 600) (h2 : (digs (q + r).den).length ≤ 600) :
    Calls Try.prog 27 #[v, v'] w (RetQuot w (q + r)) := by
  have hq0 := hq
  have hr0 := hr
  obtain ⟨s, a, n, c, b, m, d, rfl, _, _⟩ := hq
  obtain ⟨t, a', n', c', b', m', d', rfl, _, _⟩ := hr
  have Hq := Lib.hid hq0; have Hr := Lib.hid hr0; have H1 := Lib.hid h1; have H2 := Lib.hid h2
  clear hq0 hr0 h1 h2
  obtain ⟨e1, e2, e3⟩ := heap_three w (.cells #[.bool s, .slice a n c, .bool false, .slice b m d] 62) (.cells #[.bool t, .slice a' n' c', .bool false, .slice b' m' d'] 62) (.cells #[.bool false, .slice none 0 0, .bool false, .slice none 0 0] 62)
  have hw0 := below_three w (.cells #[.bool s, .slice a n c, .bool false, .slice b m d] 62) (.cells #[.bool t, .slice a' n' c', .bool false, .slice b' m' d'] 62) (.cells #[.bool false, .slice none 0 0, .bool false, .slice none 0 0] 62)
  have E3 := Lib.hid e3; have Hw0 := Lib.hid hw0
  clear e1 e2 e3 hw0
  go_enter Try.func27, Try.ntmps27
  go_wp2_with fail
  refine (qboth_any 45 q r (q + r) _ _ _ (Hq.out.go Hw0.out) (Hr.out.go Hw0.out) (op_sum q r) (fun _ _ => by kernel_rfl) H1.out H2.out).mono ?_
  rintro e w1 ⟨vv, rfl, hqg, hb1⟩
  obtain ⟨s8, a8, n8, c8, a9, n9, c9, rfl, hl8, hl9⟩ := hqg
  have e3 := (hb1.block (w.heap.size + 2) (by simp)).trans E3.out
  obtain ⟨k1, k2, k3, k4, f1, f2, f3, f4⟩ := cells_of4 e3
  have Hw1 := Lib.hid (Hw0.out.trans (hb1.mono Hw0.out.size))
  have V8 := Lib.hid hl8; have V9 := Lib.hid hl9; have E3' := Lib.hid e3
  clear hl8 hl9 hb1 e3
  go_wp2_with fail
  refine bodyPost_ret (v := .tuple #[.agg #[.bool s8, .slice a8 n8 c8, .bool false, .slice a9 n9 c9], .int .i64 0]) ?_ rfl ?_
  · simp [results, Try.results27, go_sem, k1, k2, k3, k4]
  · have hz : w.heap.size ≤ w.heap.size + 2 := by omega
    exact ⟨_, rfl, QG.store E3'.out V8.out V9.out, (((Hw1.out.setCell hz _).setCell hz _).setCell hz _).setCell hz _⟩

end Go.Proofs.Ytkfkdkoohnfgaaa

namespace Go.Proofs.Ytkfkdkoohnfgaaa
open Go.RowKit

theorem upon_val {P : Program} {o : Oper} {a : Act} {K : Act → World → Prop} {Q : Exit → Act → World → Prop} {v : Value} {w : World} (h : K (a.put o.dst v) w) : Oper.upon P o a K Q (.ok (.value v) w) := h
theorem index_pair0 (x0 x1 x2 x3 : Value) (w : World) : ((Sem.run Try.prog (Instr.index 107 (Value.agg #[x0, x1, x2, x3]) (Value.int IntKind.i64 0)) w).andThen fun a w' => Result.ok (Next.value a) w') = Result.ok (Next.value (Value.agg #[x0, x1])) w := by kernel_rfl
theorem index_pair1 (x0 x1 x2 x3 : Value) (w : World) : ((Sem.run Try.prog (Instr.index 107 (Value.agg #[x0, x1, x2, x3]) (Value.int IntKind.i64 1)) w).andThen fun a w' => Result.ok (Next.value a) w') = Result.ok (Next.value (Value.agg #[x2, x3])) w := by kernel_rfl

set_option maxRecDepth 100000 in
set_option maxHeartbeats 1600000 in
theorem qmake_any (s : Bool) (z : Int) (y : Nat) (a b : Option Addr) (n m c d : Nat) (w : World) (ha : LG w.heap.size w s a n c z) (hb : LG w.heap.size w false b m d (y : Int)) (hy : 0 < y) :
    Calls Try.prog 42 #[.agg #[.bool s, .slice a n c], .agg #[.bool false, .slice b m d]] w (RetQuot w (mkRat z y)) := by
  have hml := hb.2.1.len
  rw [Int.natAbs_natCast] at hml
  have hm0 : 0 < m := by
    rcases Nat.eq_zero_or_pos m with h | h
    · rw [h] at hml; have := digs_len_zero.1 hml.symm; omega
    · exact h
  have hmz : ((m : Int) == 0) = false := by rw [beq_eq_false_iff_ne]; omega
  have Ha := Lib.hid ha; have Hb := Lib.hid hb; have Hml := Lib.hid hml
  clear ha hb hml
  obtain ⟨e1, e2, e3⟩ := heap_three w (.cells #[.bool s, .slice a n c] 51) (.cells #[.bool false, .slice b m d] 51) (.cells #[.bool false, .slice none 0 0, .bool false, .slice none 0 0] 62)
  have hw0 := below_three w (.cells #[.bool s, .slice a n c] 51) (.cells #[.bool false, .slice b m d] 51) (.cells #[.bool false, .slice none 0 0, .bool false, .slice none 0 0] 62)
  have hz0 : ((w.alloc (.cells #[.bool s, .slice a n c] 51)).alloc (.cells #[.bool false, .slice b m d] 51) |>.alloc (.cells #[.bool false, .slice none 0 0, .bool false, .slice none 0 0] 62)).heap.size = w.heap.size + 3 := by simp
  have E1 := Lib.hid e1; have E2 := Lib.hid e2; have E3 := Lib.hid e3; have Hw0 := Lib.hid hw0; have Hz0 := Lib.hid hz0
  clear e1 e2 e3 hw0 hz0
  go_enter Try.func42, Try.ntmps42
  go_wp2_with fail
  generalize ((w.alloc (.cells #[.bool s, .slice a n c] 51)).alloc (.cells #[.bool false, .slice b m d] 51)).alloc (.cells #[.bool false, .slice none 0 0, .bool false, .slice none 0 0] 62) = w0 at *
  go_loopw [12] (fun iv wr => ∃ i : Nat, i ≤ 2 ∧ iv = .int .i64 (i : Int) ∧ Below w0.heap.size w0 wr) (fun iv _ => 2 - (intOf iv).toNat)
  case atStart => exact ⟨0, by omega, rfl, Below.refl _ _⟩
  case round =>
    obtain ⟨i, hi, rfl, hwr⟩ := hrel
    have hz := Hz0.out
    have h0r := Hw0.out.trans (hwr.mono Hw0.out.size)
    have hi3 : i = 0 ∨ i = 1 ∨ i = 2 := by omega
    rcases hi3 with rfl | rfl | rfl
    · have hba := hwr.alloc hwr.size (.cells #[.bool s, .slice a n c] 51)
      have Hba := Lib.hid hba; have H0b := Lib.hid (Hw0.out.trans (hba.mono Hw0.out.size)); clear hba
      go_wp2_with fail
      rw [index_pair0]
      refine upon_val ?_
      simp only [Act.put, List.setIfInBounds_toArray, List.set_cons_zero, List.set_cons_succ]
      go_wp2_with fail
      refine (check_ok s z a n c _ (by simpa using Ha.out.go H0b.out)).mono ?_
      rintro e w2 ⟨rfl, hb2⟩
      have hw2 := Hba.out.trans (hb2.mono Hba.out.size)
      clear hb2
      go_wp2
      go_roundw
      case rel => exact ⟨1, by omega, rfl, hw2⟩
      case measure => simp [intOf]
    · have hba := hwr.alloc hwr.size (.cells #[.bool false, .slice b m d] 51)
      have Hba := Lib.hid hba; have H0b := Lib.hid (Hw0.out.trans (hba.mono Hw0.out.size)); clear hba
      go_wp2_with fail
      rw [index_pair1]
      refine upon_val ?_
      simp only [Act.put, List.setIfInBounds_toArray, List.set_cons_zero, List.set_cons_succ]
      go_wp2_with fail
      refine (check_ok false (y : Int) b m d _ (by simpa using Hb.out.go H0b.out)).mono ?_
      rintro e w2 ⟨rfl, hb2⟩
      have hw2 := Hba.out.trans (hb2.mono Hba.out.size)
      clear hb2
      go_wp2
      go_roundw
      case rel => exact ⟨2, by omega, rfl, hw2⟩
      case measure => simp [intOf]
    · obtain ⟨q1, q2, _, _⟩ := cells_at ((hwr.block w.heap.size (by omega)).trans E1.out)
      obtain ⟨q3, q4, _, _⟩ := cells_at ((hwr.block (w.heap.size + 1) (by omega)).trans E2.out)
      have G3 := Lib.hid ((hwr.block (w.heap.size + 2) (by omega)).trans E3.out)
      have hrs := hwr.size
      have H0r := Lib.hid h0r
      clear hwr h0r
      go_wp2_with fail
      have hbl := (Hb.out.go H0r.out).2.1
      rw [Int.natAbs_natCast] at hbl
      have hn6 := Ha.out.2.2
      have hm6 := Hb.out.2.2
      refine (reduced_any s z.natAbs y a b n m c d _ (Ha.out.go H0r.out).2.1 hbl (by omega) (by omega) hy).mono ?_
      rintro e w3 ⟨a3, n3, c3, a4, n4, c4, rfl, hs3, hs4, hb3, _, _⟩
      obtain ⟨r1, r2⟩ := rat_make z (d := y) (by omega)
      have L3 : n3 ≤ 600 := by
        have h1 := hs3.len
        have h2 := length_digs_mono (Nat.div_le_self z.natAbs (z.natAbs.gcd y))
        have h3 := Ha.out.2.1.len
        omega
      have L4 : n4 ≤ 600 := by
        have h1 := hs4.len
        have h2 := length_digs_mono (Nat.div_le_self y (z.natAbs.gcd y))
        have h3 := Hml.out
        omega
      have hsg : sgn s (z.natAbs / z.natAbs.gcd y) = (mkRat z y).num := by rw [sgn_div s (Nat.gcd_dvd_left _ _), Ha.out.1, sgn_of, r1]
      have G3' := Lib.hid ((hb3.block (w.heap.size + 2) (by omega)).trans G3.out)
      have H03 := Lib.hid (H0r.out.trans (hb3.mono H0r.out.size))
      have S3 := Lib.hid hs3; have S4 := Lib.hid hs4; have Hsg := Lib.hid hsg; have R2 := Lib.hid r2
      have hw3 : w.heap.size + 2 < w3.heap.size := by have := hb3.size; omega
      clear hs3 hs4 hb3 hsg r1 r2 hbl q1 q2 q3 q4
      go_wp2_with fail
      refine (qtold_any s _ _ (mkRat z y) a3 a4 n3 n4 c3 c4 _ S3.out S4.out L3 L4 Hsg.out R2.out.symm).mono ?_
      rintro e w4 ⟨vv, rfl, hqg, hb4⟩
      obtain ⟨s8, a8, n8, c8, a9, n9, c9, rfl, hl8, hl9⟩ := hqg
      have e3 := (hb4.block (w.heap.size + 2) hw3).trans G3'.out
      obtain ⟨k1, k2, k3, k4, f1, f2, f3, f4⟩ := cells_of4 e3
      have Hw4 := Lib.hid (H03.out.trans (hb4.mono H03.out.size))
      have V8 := Lib.hid hl8; have V9 := Lib.hid hl9; have E3' := Lib.hid e3
      clear hl8 hl9 hb4 e3
      go_wp2_with fail
      refine bodyPost_ret (v := .tuple #[.agg #[.bool s8, .slice a8 n8 c8, .bool false, .slice a9 n9 c9], .int .i64 0]) ?_ rfl ?_
      · simp [results, Try.results42, go_sem, k1, k2, k3, k4]
      · have hz : w.heap.size ≤ w.heap.size + 2 := by omega
        exact ⟨_, rfl, QG.store E3'.out V8.out V9.out, (((Hw4.out.setCell hz _).setCell hz _).setCell hz _).setCell hz _⟩

set_option maxRecDepth 100000 in
set_option maxHeartbeats 800000 in
theorem qof_any (x : Int) (y : Nat) (w : World) (h0 : -9223372036854775808 ≤ x) (h1 : x ≤ 9223372036854775807) (hy : 0 < y) (h2 : (y : Int) ≤ 9223372036854775807) :
    Calls Try.prog 25 #[.int .i64 x, .int .i64 (y : Int)] w (RetQuot w (mkRat x y)) := by
  have e1 := heap_alloc_new w (.cells #[.bool false, .slice none 0 0, .bool false, .slice none 0 0] 62)
  have hw0 := (Below.refl w.heap.size w).alloc (Nat.le_refl _) (.cells #[.bool false, .slice none 0 0, .bool false, .slice none 0 0] 62)
  have E1 := Lib.hid e1; have Hw0 := Lib.hid hw0
  clear e1 hw0
  go_enter Try.func25, Try.ntmps25
  go_wp2_with fail
  refine (of_any x _ h0 h1).mono ?_
  rintro e w1 ⟨s1, a1, n1, c1, rfl, hl1, hb1, _⟩
  have Hl1 := Lib.hid hl1; have Hb1 := Lib.hid hb1
  clear hl1 hb1
  go_wp2_with fail
  refine (of_any (y : Int) _ (by omega) h2).mono ?_
  rintro e w2 ⟨s2, a2, n2, c2, rfl, hl2, hb2, _⟩
  have Hl2 := Lib.hid hl2; have Hb2 := Lib.hid hb2
  clear hl2 hb2
  go_wp2_with fail
  obtain rfl : s2 = false := by rw [Hl2.out.1]; exact decide_eq_false (by omega)
  refine (qmake_any s1 x y a1 a2 n1 n2 c1 c2 _ (Hl1.out.go Hb2.out) Hl2.out hy).mono ?_
  rintro e w3 ⟨vv, rfl, hqg, hb3⟩
  obtain ⟨s8, a8, n8, c8, a9, n9, c9, rfl, hl8, hl9⟩ := hqg
  have hz1 := Hb1.out.size
  simp at hz1
  have h12 := Hb2.out.trans (hb3.mono Hb2.out.size)
  have h13 := Hb1.out.trans (h12.mono Hb1.out.size)
  have e3 := (h13.block w.heap.size (by simp)).trans E1.out
  obtain ⟨k1, k2, k3, k4, f1, f2, f3, f4⟩ := cells_of4 e3
  have Hw3 := Lib.hid (Hw0.out.trans (h13.mono Hw0.out.size))
  have V8 := Lib.hid hl8; have V9 := Lib.hid hl9; have E3' := Lib.hid e3
  clear hl8 hl9 hb3 e3 h12 h13
  go_wp2_with fail
  refine bodyPost_ret (v := .tuple #[.agg #[.bool s8, .slice a8 n8 c8, .bool false, .slice a9 n9 c9], .int .i64 0]) ?_ rfl ?_
  · simp [results, Try.results25, go_sem, k1, k2, k3, k4]
  · have hz : w.heap.size ≤ w.heap.size := Nat.le_refl _
    exact ⟨_, rfl, QG.store E3'.out V8.out V9.out, (((Hw3.out.setCell hz _).setCell hz _).setCell hz _).setCell hz _⟩

end Go.Proofs.Ytkfkdkoohnfgaaa

namespace Go.Proofs.Ytkfkdkoohnfgaaa
open Go.RowKit

set_option maxHeartbeats 400000 in
theorem qsign_any (s : Bool) (k : Nat) (a : Option Addr) (n c : Nat) (w : World) (ha : SL w.heap.size w a n c (digs k)) (hn : n ≤ 100000) :
    Calls Try.prog 50 #[.agg #[.bool s, .slice a n c]] w (RetB w (.int .i64 (cmpZ (sgn s k) 0))) := by
  have hnl := ha.len
  generalize hR : cmpZ (sgn s k) 0 = R
  have hk : n = 0 ↔ k = 0 := by rw [hnl]; exact digs_len_zero
  have e1 := heap_alloc_new w (.cells #[.bool s, .slice a n c] 86)
  obtain ⟨q1, q2, _, _⟩ := cells_at e1
  have hw := (Below.refl w.heap.size w).alloc (Nat.le_refl _) (.cells #[.bool s, .slice a n c] 86)
  have Hw := Lib.hid hw; have HR := Lib.hid hR; have Hk := Lib.hid hk
  clear e1 hw hR hk hnl ha
  by_cases h0 : n = 0
  · have hr : R = 0 := by rw [← HR.out, Hk.out.1 h0]; unfold sgn cmpZ; cases s <;> simp
    subst h0 hr
    go_enter Try.func50, Try.ntmps50
    go_wp2
    go_ret
    exact ⟨rfl, Hw.out⟩
  · have hk0 : 0 < k := by
      rcases Nat.eq_zero_or_pos k with h | h
      · exact absurd (Hk.out.2 h) h0
      · exact h
    have hnz : ((n : Int) == 0) = false := by rw [beq_eq_false_iff_ne]; omega
    cases s with
    | true =>
      have hr : R = -1 := by rw [← HR.out]; unfold sgn cmpZ; simp; omega
      subst hr
      go_enter Try.func50, Try.ntmps50
      go_wp2
      go_ret
      exact ⟨rfl, Hw.out⟩
    | false =>
      have hr : R = 1 := by rw [← HR.out]; unfold sgn cmpZ; simp; omega
      subst hr
      go_enter Try.func50, Try.ntmps50
      go_wp2
      go_ret
      exact ⟨rfl, Hw.out⟩

end Go.Proofs.Ytkfkdkoohnfgaaa

namespace Go.Proofs.Ytkfkdkoohnfgaaa
open Go.RowKit

/-- a difference has the sign of the comparison -/
theorem cmp_diff (a b : Int) : cmpZ (a + -b) 0 = cmpZ a b := by
  unfold cmpZ
  by_cases h : a < b
  · rw [if_pos h, if_pos (by omega)]
  · rw [if_neg h, if_neg (by omega)]
    by_cases h2 : b < a
    · rw [if_pos h2, if_pos (by omega)]
    · rw [if_neg h2, if_neg (by omega)]

theorem sgn_not (s : Bool) (m : Nat) : sgn (!s) m = -sgn s m := by unfold sgn; cases s <;> simp

theorem three_stored {w : World} {b : Nat} {u1 u2 u3 x y z : Value} {t : TypeId} (h : w.heap[b]? = some (.cells #[u1, u2, u3] t (0, 0))) :
    (((w.setCell ⟨b, 0, none⟩ x).setCell ⟨b, 1, none⟩ y).setCell ⟨b, 2, none⟩ z).heap[b]? = some (.cells #[x, y, z] t (0, 0)) := by
  have h1 := obj_setCell h 0 x
  have h2 := obj_setCell (w := w.setCell ⟨b, 0, none⟩ x) h1 1 y
  have h3 := obj_setCell (w := (w.setCell ⟨b, 0, none⟩ x).setCell ⟨b, 1, none⟩ y) h2 2 z
  rw [h3]; rfl

set_option maxRecDepth 100000 in
set_option maxHeartbeats 3200000 in
theorem qcmp_any (q r : Rat) (v v' : Value) (w : World) (hq : QG w.heap.size w v q) (hr : QG w.heap.size w v' r) :
    Calls Try.prog 28 #[v, v'] w (RetB w (.tuple #[.int .i64 (cmpZ (q.num * r.den) (r.num * q.den)), .int .i64 0])) := by
  obtain ⟨s, a, n, c, b, m, d, rfl, ha, hb⟩ := hq
  obtain ⟨t, a', n', c', b', m', d', rfl, ha', hb'⟩ := hr
  generalize hR : cmpZ (q.num * r.den) (r.num * q.den) = R
  have hn6 := ha.2.2; have hm6 := hb.2.2; have hn6' := ha'.2.2; have hm6' := hb'.2.2
  have Ha := Lib.hid ha; have Hb := Lib.hid hb; have Ha' := Lib.hid ha'; have Hb' := Lib.hid hb'; have HR := Lib.hid hR
  clear ha hb ha' hb' hR
  obtain ⟨e1, e2, e3⟩ := heap_three w (.cells #[.bool s, .slice a n c, .bool false, .slice b m d] 62) (.cells #[.bool t, .slice a' n' c', .bool false, .slice b' m' d'] 62) (.cells #[.bool s, .slice a n c, .bool false, .slice b m d, .bool t, .slice a' n' c', .bool false, .slice b' m' d'] 62)
  have hw0 := below_three w (.cells #[.bool s, .slice a n c, .bool false, .slice b m d] 62) (.cells #[.bool t, .slice a' n' c', .bool false, .slice b' m' d'] 62) (.cells #[.bool s, .slice a n c, .bool false, .slice b m d, .bool t, .slice a' n' c', .bool false, .slice b' m' d'] 62)
  have E1 := Lib.hid e1; have E2 := Lib.hid e2; have E3 := Lib.hid e3; have Hw0 := Lib.hid hw0
  clear e1 e2 e3 hw0
  go_enter Try.func28, Try.ntmps28
  go_wp2_with fail
  refine (qall_ok q r s t a b a' b' n m n' m' c d c' d' (w.heap.size + 2) _ (Ha.out.go Hw0.out) (Hb.out.go Hw0.out) (Ha'.out.go Hw0.out) (Hb'.out.go Hw0.out) E3.out).mono ?_
  rintro e w1 ⟨rfl, hb1⟩
  have hz1 := hb1.size
  simp at hz1
  have G1 := Lib.hid ((hb1.block w.heap.size (by simp <;> omega)).trans E1.out); have G2 := Lib.hid ((hb1.block (w.heap.size + 1) (by simp <;> omega)).trans E2.out)
  have Hw1 := Lib.hid (Hw0.out.trans (hb1.mono Hw0.out.size))
  clear hb1
  go_wp2_with fail
  obtain ⟨q0, q1, q2, q3, _, _, _, _⟩ := cells_of4 G1.out
  obtain ⟨q4, q5, q6, q7, _, _, _, _⟩ := cells_of4 G2.out
  refine wp_region_floats 6 [] [(4, 7, .cells #[.bool false, .slice none 0 0, .slice none 0 0] 88), (5, 8, .cells #[.bool false, .slice none 0 0, .slice none 0 0] 88)] [(0, true), (2, true), (1, false), (3, false)] (by kernel_rfl) (by kernel_rfl) ?_ (fun _ _ _ _ _ h => h) (fun _ _ o _ _ h => by cases o <;> exact h) ?_
  · refine ⟨by simp, by simp, ?_⟩
    simp only [List.forall_mem_cons]
    exact ⟨⟨by omega, _, rfl, rfl, rfl, fun _ _ => rfl⟩, ⟨by omega, _, rfl, rfl, rfl, fun _ _ => rfl⟩, fun _ h => by cases h⟩
  iterate 2
    refine wpG_yield (v := ?_) rfl rfl (by rfl) ?_ ?_
    rotate_left
    · intro x hx
      have z0 := (hx.cell (p := ⟨w.heap.size, 0, none⟩) (by show w.heap.size < w1.heap.size; omega)).trans q0
      have z1 := (hx.cell (p := ⟨w.heap.size, 1, none⟩) (by show w.heap.size < w1.heap.size; omega)).trans q1
      have z2 := (hx.cell (p := ⟨w.heap.size, 2, none⟩) (by show w.heap.size < w1.heap.size; omega)).trans q2
      have z3 := (hx.cell (p := ⟨w.heap.size, 3, none⟩) (by show w.heap.size < w1.heap.size; omega)).trans q3
      have z4 := (hx.cell (p := ⟨w.heap.size + 1, 0, none⟩) (by show w.heap.size + 1 < w1.heap.size; omega)).trans q4
      have z5 := (hx.cell (p := ⟨w.heap.size + 1, 1, none⟩) (by show w.heap.size + 1 < w1.heap.size; omega)).trans q5
      have z6 := (hx.cell (p := ⟨w.heap.size + 1, 2, none⟩) (by show w.heap.size + 1 < w1.heap.size; omega)).trans q6
      have z7 := (hx.cell (p := ⟨w.heap.size + 1, 3, none⟩) (by show w.heap.size + 1 < w1.heap.size; omega)).trans q7
      go_simp
      with_reducible rfl
    try simp only [Act.put, List.setIfInBounds_toArray, List.set_cons_zero, List.set_cons_succ]
  refine wpG_step rfl rfl (fun x1 hx1 K hK => ?_)
  go_simp
  have hx1' : Below w1.heap.size w1 x1 := below_undrew (k := 1) hx1
  refine (qread_any s false a b n m c d _).mono ?_
  rintro e w2 ⟨rfl, hb2⟩
  refine hK _ _ hb2 ?_
  clear hK K
  refine wpG_step rfl rfl (fun x2 hx2 K hK => ?_)
  go_simp
  refine (qread_any t false a' b' n' m' c' d' _).mono ?_
  rintro e w3 ⟨rfl, hb3⟩
  refine hK _ _ hb3 ?_
  clear hK K
  refine wpG_nil2 rfl (fun b1 b2 w4 hC1 hC2 hne hb4 hbl1 hbl2 => ?_)
  try simp only [Act.put, List.setIfInBounds_toArray, List.set_cons_zero, List.set_cons_succ]
  have h12 : Below w1.heap.size w1 x2 := hx1'.trans ((hb2.trans (hx2.mono hb2.size)).mono hx1'.size)
  have h14 : Below w1.heap.size w1 w4 := h12.trans ((hb3.trans (hb4.mono hb3.size)).mono h12.size)
  have c1 := hC1.1.1
  have c2 := hC2.1.1
  obtain ⟨_, _, _, f1, f2, f3⟩ := cells_of3 hbl1
  obtain ⟨d1, d2, d3, _, _, _⟩ := cells_of3 hbl1
  obtain ⟨_, _, _, g1, g2, g3⟩ := cells_of3 hbl2
  obtain ⟨d4, d5, d6, _, _, _⟩ := cells_of3 hbl2
  have H14 := Lib.hid h14; have B1 := Lib.hid hbl1; have B2 := Lib.hid hbl2
  clear hx1 hx1' hb2 hx2 hb3 hb4 h12 h14 hC1 hC2 hbl1 hbl2 q0 q1 q2 q3 q4 q5 q6 q7
  go_wp2_with fail
  have hw5 : Below w1.heap.size w1 (((((((w4.setCell ⟨b1, 0, none⟩ (.bool s)).setCell ⟨b1, 1, none⟩ (.slice a n c)).setCell ⟨b1, 2, none⟩ (.slice b m d)).setCell ⟨b2, 0, none⟩ (.bool t)).setCell ⟨b2, 1, none⟩ (.slice a' n' c')).setCell ⟨b2, 2, none⟩ (.slice b' m' d')).setCell ⟨b2, 0, none⟩ (.bool !t)) :=
    ((((((H14.out.setCell c1 _).setCell c1 _).setCell c1 _).setCell c2 _).setCell c2 _).setCell c2 _).setCell c2 _
  have j1 := three_stored (x := .bool s) (y := .slice a n c) (z := .slice b m d) B1.out
  have hne' : b2 ≠ b1 := fun h => hne h.symm
  have j1' := obj_other (obj_other (obj_other (obj_other j1 ⟨b2, 0, none⟩ hne' (.bool t)) ⟨b2, 1, none⟩ hne' (.slice a' n' c')) ⟨b2, 2, none⟩ hne' (.slice b' m' d')) ⟨b2, 0, none⟩ hne' (.bool !t)
  have j2 := obj_other (obj_other (obj_other B2.out ⟨b1, 0, none⟩ hne (.bool s)) ⟨b1, 1, none⟩ hne (.slice a n c)) ⟨b1, 2, none⟩ hne (.slice b m d)
  have j2' := three_stored (x := .bool t) (y := .slice a' n' c') (z := .slice b' m' d') j2
  have j2'' := obj_setCell j2' 0 (.bool !t)
  have J1 := Lib.hid j1'; have J2 : Hid (_ = some (Obj.cells #[.bool !t, .slice a' n' c', .slice b' m' d'] 88 (0, 0))) := Lib.hid (j2''.trans rfl); have W5 := Lib.hid hw5
  clear j1 j1' j2 j2' j2'' hw5 H14 B1 B2 d1 d2 d3 d4 d5 d6 f1 f2 f3 g1 g2 g3
  generalize (((((((w4.setCell ⟨b1, 0, none⟩ (.bool s)).setCell ⟨b1, 1, none⟩ (.slice a n c)).setCell ⟨b1, 2, none⟩ (.slice b m d)).setCell ⟨b2, 0, none⟩ (.bool t)).setCell ⟨b2, 1, none⟩ (.slice a' n' c')).setCell ⟨b2, 2, none⟩ (.slice b' m' d')).setCell ⟨b2, 0, none⟩ (.bool !t)) = w5 at *
  have l1 := lt_of_block J1.out
  have l2 := lt_of_block J2.out
  obtain ⟨q0, q1, q2, _, _, _⟩ := cells_of3 J1.out
  obtain ⟨q4, q5, q6, _, _, _⟩ := cells_of3 J2.out
  have Hw5 := Lib.hid (Hw1.out.trans (W5.out.mono Hw1.out.size))
  refine wp_region_floats 12 [] [(11, 9, .cells #[.bool false, .slice none 0 0] 86)] [(0, true), (1, true), (2, true), (3, true), (5, true), (6, true), (7, true), (8, true), (4, false), (9, false), (10, false)] (by kernel_rfl) (by kernel_rfl) ?_ (fun _ _ _ _ _ h => h) (fun _ _ o _ _ h => by cases o <;> exact h) ?_
  · refine ⟨by simp, by simp, ?_⟩
    simp only [List.forall_mem_cons]
    exact ⟨⟨by omega, _, rfl, rfl, rfl, fun _ _ => rfl⟩, fun _ h => by cases h⟩
  iterate 8
    refine wpG_yield (v := ?_) rfl rfl (by rfl) ?_ ?_
    rotate_left
    · intro x hx
      have z0 := (hx.cell (p := ⟨b1, 0, none⟩) l1).trans q0
      have z1 := (hx.cell (p := ⟨b1, 1, none⟩) l1).trans q1
      have z2 := (hx.cell (p := ⟨b1, 2, none⟩) l1).trans q2
      have z4 := (hx.cell (p := ⟨b2, 0, none⟩) l2).trans q4
      have z5 := (hx.cell (p := ⟨b2, 1, none⟩) l2).trans q5
      have z6 := (hx.cell (p := ⟨b2, 2, none⟩) l2).trans q6
      go_simp
      with_reducible rfl
    try simp only [Act.put, List.setIfInBounds_toArray, List.set_cons_zero, List.set_cons_succ]
  refine wpG_step rfl rfl (fun y1 hy1 K hK => ?_)
  go_simp
  have hy1' : Below w5.heap.size w5 y1 := below_undrew (k := 1) hy1
  have hw := Hw5.out.trans (hy1'.mono Hw5.out.size)
  have k1 := (Hb'.out.go hw).2.1
  rw [Int.natAbs_natCast] at k1
  refine (qtimes_any s q.num.natAbs r.den a b' n m' c d' _ (Ha.out.go hw).2.1 k1 (by omega) (by omega)).mono ?_
  rintro e w6 ⟨a6, n6, c6, rfl, hs6, hb6, _⟩
  refine hK _ _ hb6 ?_
  clear hK K hw k1
  refine wpG_step rfl rfl (fun y2 hy2 K hK => ?_)
  go_simp
  have h52 : Below w5.heap.size w5 y2 := hy1'.trans ((hb6.trans (hy2.mono hb6.size)).mono hy1'.size)
  have hw := Hw5.out.trans (h52.mono Hw5.out.size)
  have k1 := (Hb.out.go hw).2.1
  rw [Int.natAbs_natCast] at k1
  refine (qtimes_any (!t) r.num.natAbs q.den a' b n' m c' d _ (Ha'.out.go hw).2.1 k1 (by omega) (by omega)).mono ?_
  rintro e w7 ⟨a7, n7, c7, rfl, hs7, hb7, _⟩
  refine hK _ _ hb7 ?_
  clear hK K hw k1
  have hl6 : n6 ≤ 1200 := by
    rw [hs6.len]
    have h1 := Ha.out.2.1.len
    have h2 := Hb'.out.2.1.len
    rw [Int.natAbs_natCast] at h2
    exact len_mul (p := 600) (q := 600) (by omega) (by omega)
  have hl7 : n7 ≤ 1200 := by
    rw [hs7.len]
    have h1 := Ha'.out.2.1.len
    have h2 := Hb.out.2.1.len
    rw [Int.natAbs_natCast] at h2
    exact len_mul (p := 600) (q := 600) (by omega) (by omega)
  refine wpG_step rfl rfl (fun y3 hy3 K hK => ?_)
  go_simp
  have h53 : Below w5.heap.size w5 y3 := h52.trans ((hb7.trans (hy3.mono hb7.size)).mono h52.size)
  have h63 : Below w6.heap.size w6 y3 := hy2.trans ((hb7.trans (hy3.mono hb7.size)).mono hy2.size)
  refine (qplus_any s (!t) _ _ a6 a7 n6 n7 c6 c7 _ (hs6.go h63) (hs7.go hy3) (by omega) (by omega)).mono ?_
  rintro e w8 ⟨a8, n8, c8, rfl, hs8, hb8, hf8⟩
  refine hK _ _ hb8 ?_
  clear hK K
  have hsg : cmpZ (sgn (plusS s (!t) (q.num.natAbs * r.den) (r.num.natAbs * q.den)) (plusK s (!t) (q.num.natAbs * r.den) (r.num.natAbs * q.den))) 0 = R := by
    rw [plus_sgn, sgn_not, sgn_mul, sgn_mul, Ha.out.1, Ha'.out.1, sgn_of, sgn_of, cmp_diff]
    exact HR.out
  have hl8 : n8 ≤ 3000 := by
    rw [hs8.len]
    refine Nat.le_trans (length_digs_mono (plusK_le _ _ _ _)) (Nat.le_trans (len_add (p := 1200) ?_ ?_) (by omega))
    · rw [← hs6.len]; exact hl6
    · rw [← hs7.len]; exact hl7
  generalize plusS s (!t) (q.num.natAbs * r.den) (r.num.natAbs * q.den) = u at *
  generalize plusK s (!t) (q.num.natAbs * r.den) (r.num.natAbs * q.den) = k at *
  refine wpG_nil1 rfl (fun b3 w9 hC hb9 hbl => ?_)
  try simp only [Act.put, List.setIfInBounds_toArray, List.set_cons_zero, List.set_cons_succ]
  obtain ⟨⟨⟨c30, _⟩, _⟩, c33⟩ := hC
  have h59 : Below w5.heap.size w5 w9 := h53.trans ((hb8.trans (hb9.mono hb8.size)).mono h53.size)
  have hne8 : ∀ b' off, a8 = some ⟨b', off, none⟩ → 0 < n8 → b' ≠ b3 := fun b' off e h0 => by
    have p1 := hf8 b' off e h0
    obtain ⟨b2', o2, e2, hlt, _⟩ := hs8.at h0
    rw [e] at e2; cases e2
    omega
  obtain ⟨d1, d2, f1, f2⟩ := cells_at hbl
  have hs9 := ((hs8.go hb9).setCell ⟨b3, 0, none⟩ (.bool u) hne8).setCell ⟨b3, 1, none⟩ (.slice a8 n8 c8) hne8
  have hw9 : Below w5.heap.size w5 ((w9.setCell ⟨b3, 0, none⟩ (.bool u)).setCell ⟨b3, 1, none⟩ (.slice a8 n8 c8)) := (h59.setCell c30 _).setCell c30 _
  have hz9 : ((w9.setCell ⟨b3, 0, none⟩ (.bool u)).setCell ⟨b3, 1, none⟩ (.slice a8 n8 c8)).heap.size = w9.heap.size := by simp
  have S9 := Lib.hid hs9; have W9 := Lib.hid hw9; have Z9 := Lib.hid hz9; have Hsg := Lib.hid hsg
  clear hs9 hw9 hz9 hsg hs6 hs7 hs8 hb6 hb7 hb8 hb9 hf8 hy1 hy1' hy2 hy3 h52 h53 h63 h59 hbl hne8 c33 q0 q1 q2 q4 q5 q6
  go_wp2_with fail
  have s9 := S9.out
  rw [← Z9.out] at s9
  refine (qsign_any u k a8 n8 c8 _ s9 (by omega)).mono ?_
  rintro e wa ⟨rfl, hba⟩
  rw [Hsg.out]
  have Hwa := Lib.hid (Hw5.out.trans ((W9.out.trans (hba.mono W9.out.size)).mono Hw5.out.size))
  clear hba s9 d1 d2 f1 f2
  go_wp2
  go_ret2
  exact ⟨rfl, Hwa.out⟩

end Go.Proofs.Ytkfkdkoohnfgaaa
