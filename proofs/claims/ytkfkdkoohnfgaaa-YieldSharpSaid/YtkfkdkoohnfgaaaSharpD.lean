/-
  DERIVED. The walks of YieldSharp: tails.
-/
import Derived.Test.YtkfkdkoohnfgaaaSharpC
import Derived.Test.YtkfkdkoohnfgaaaReads
namespace Go.Proofs.Ytkfkdkoohnfgaaa
open Go.RowKit

def noInt : Value → Bool
  | .int _ _ => false
  | _ => true

theorem LG.off {N : Nat} {w : World} {s : Bool} {a : Option Addr} {n c g : Nat} {z : Int} (h : LG N w s a n c z) (hg : ∀ i v, w.cell? ⟨g, i, none⟩ = some v → noInt v = true) : ∀ b off, a = some ⟨b, off, none⟩ → 0 < n → b ≠ g := fun b off e h0 hb => by
  subst hb
  obtain ⟨b', off', e', _, hc⟩ := h.2.1.at h0
  rw [e] at e'; cases e'
  have := hg _ _ (hc 0 h0)
  cases this

/-- block g, of n fractions in the making: the first of them are qs -/
def MakeQ (w : World) (g n : Nat) (qs : List Rat) : Prop :=
  ∃ cs : Array Value, w.heap[g]? = some (.cells cs 62 (0, 0)) ∧ cs.size = n * 4 ∧ (∀ i v, w.cell? ⟨g, i, none⟩ = some v → noInt v = true) ∧ RowQ w g 0 qs

theorem MakeQ.lt {w : World} {g n : Nat} {qs : List Rat} (h : MakeQ w g n qs) : g < w.heap.size := let ⟨_, h, _⟩ := h; lt_of_block h
theorem MakeQ.free {w : World} {g n : Nat} {qs : List Rat} (h : MakeQ w g n qs) (j : Nat) : w.frozen? ⟨g, j, none⟩ = false := by
  obtain ⟨cs, h, _⟩ := h; simp [World.frozen?, h]
theorem MakeQ.go {w w' : World} {g n : Nat} {qs : List Rat} (h : MakeQ w g n qs) (hb : Below w.heap.size w w') : MakeQ w' g n qs := by
  have hlt := h.lt
  obtain ⟨cs, h1, h2, h3, h4⟩ := h
  exact ⟨cs, (hb.block g hlt).trans h1, h2, fun i v hv => h3 i v ((hb.cell (p := ⟨g, i, none⟩) hlt).symm.trans hv), h4.go hb⟩
theorem MakeQ.cells {w : World} {g n : Nat} {qs : List Rat} (h : MakeQ w g n qs) {j : Nat} (hj : j < n * 4) : ∃ v, w.cell? ⟨g, j, none⟩ = some v := by
  obtain ⟨cs, h, hs, _⟩ := h
  exact ⟨cs[j], by simp [World.cell?, h]⟩

/-- one more -/
theorem MakeQ.set {w : World} {g n : Nat} {qs : List Rat} (h : MakeQ w g n qs) {j : Nat} (hj : j = qs.length) (hn : j < n) {s : Bool} {a b : Option Addr} {m c k d : Nat} {q : Rat} (h1 : LG w.heap.size w s a m c q.num) (h2 : LG w.heap.size w false b k d (q.den : Int)) :
    MakeQ ((((w.setCell ⟨g, j * 4, none⟩ (.bool s)).setCell ⟨g, j * 4 + 1, none⟩ (.slice a m c)).setCell ⟨g, j * 4 + 2, none⟩ (.bool false)).setCell ⟨g, j * 4 + 3, none⟩ (.slice b k d)) g n (qs ++ [q]) := by
  obtain ⟨cs, e, hs, hi, hr⟩ := h
  have k1 := obj_setCell e (j * 4) (.bool s)
  have k2 := obj_setCell k1 (j * 4 + 1) (.slice a m c)
  have k3 := obj_setCell k2 (j * 4 + 2) (.bool false)
  have k4 := obj_setCell k3 (j * 4 + 3) (.slice b k d)
  have keep : ∀ {s' : Bool} {a' : Option Addr} {m' c' : Nat} {z : Int}, LG w.heap.size w s' a' m' c' z → LG ((((w.setCell ⟨g, j * 4, none⟩ (.bool s)).setCell ⟨g, j * 4 + 1, none⟩ (.slice a m c)).setCell ⟨g, j * 4 + 2, none⟩ (.bool false)).setCell ⟨g, j * 4 + 3, none⟩ (.slice b k d)).heap.size ((((w.setCell ⟨g, j * 4, none⟩ (.bool s)).setCell ⟨g, j * 4 + 1, none⟩ (.slice a m c)).setCell ⟨g, j * 4 + 2, none⟩ (.bool false)).setCell ⟨g, j * 4 + 3, none⟩ (.slice b k d)) s' a' m' c' z := fun hl => by
    have n1 := hl.off hi
    simpa using (((hl.setCell ⟨g, j * 4, none⟩ (.bool s) n1).setCell ⟨g, j * 4 + 1, none⟩ (.slice a m c) n1).setCell ⟨g, j * 4 + 2, none⟩ (.bool false) n1).setCell ⟨g, j * 4 + 3, none⟩ (.slice b k d) n1
  have cell : ∀ i, ((((w.setCell ⟨g, j * 4, none⟩ (.bool s)).setCell ⟨g, j * 4 + 1, none⟩ (.slice a m c)).setCell ⟨g, j * 4 + 2, none⟩ (.bool false)).setCell ⟨g, j * 4 + 3, none⟩ (.slice b k d)).cell? ⟨g, i, none⟩ = (if i = j * 4 then some (.bool s) else if i = j * 4 + 1 then some (.slice a m c) else if i = j * 4 + 2 then some (.bool false) else if i = j * 4 + 3 then some (.slice b k d) else w.cell? ⟨g, i, none⟩) := by
    intro i
    have hjn : j * 4 + 3 < cs.size := by omega
    simp only [World.cell?, k4, e]
    by_cases e0 : i = j * 4
    · subst e0; simp [show j * 4 < cs.size by omega]
    · by_cases e1 : i = j * 4 + 1
      · subst e1; simp [show j * 4 + 1 < cs.size by omega]
      · by_cases e2 : i = j * 4 + 2
        · subst e2; simp [show j * 4 + 2 < cs.size by omega]
        · by_cases e3 : i = j * 4 + 3
          · subst e3; simp [hjn]
          · rw [if_neg e0, if_neg e1, if_neg e2, if_neg e3]
            simp [Ne.symm e0, Ne.symm e1, Ne.symm e2, Ne.symm e3]
  refine ⟨_, k4, by simpa using hs, fun i v hv => ?_, by simpa using hr.1, fun i hil => ?_⟩
  · rw [cell] at hv
    split at hv
    · cases hv; rfl
    · split at hv
      · cases hv; rfl
      · split at hv
        · cases hv; rfl
        · split at hv
          · cases hv; rfl
          · exact hi i v hv
  · rw [List.length_append, List.length_singleton] at hil
    by_cases hij : i < j
    · obtain ⟨s', a', m', c', b', k', d', q1, q2, q3, q4, l1, l2⟩ := hr.2 i (by omega)
      have eg : (qs ++ [q]).getD i 0 = qs.getD i 0 := by simp only [List.getD_eq_getElem?_getD]; rw [List.getElem?_append_left (by omega)]
      rw [eg]
      refine ⟨s', a', m', c', b', k', d', ?_, ?_, ?_, ?_, keep l1, keep l2⟩
      · rw [cell, if_neg (by omega), if_neg (by omega), if_neg (by omega), if_neg (by omega)]; exact q1
      · rw [cell, if_neg (by omega), if_neg (by omega), if_neg (by omega), if_neg (by omega)]; exact q2
      · rw [cell, if_neg (by omega), if_neg (by omega), if_neg (by omega), if_neg (by omega)]; exact q3
      · rw [cell, if_neg (by omega), if_neg (by omega), if_neg (by omega), if_neg (by omega)]; exact q4
    · obtain rfl : i = j := by omega
      have eg : (qs ++ [q]).getD i 0 = q := by simp only [List.getD_eq_getElem?_getD]; rw [List.getElem?_append_right (by omega), ← hj, Nat.sub_self]; rfl
      rw [eg]
      refine ⟨s, a, m, c, b, k, d, ?_, ?_, ?_, ?_, keep h1, keep h2⟩
      · rw [cell, if_pos (by omega)]
      · rw [cell, if_neg (by omega), if_pos (by omega)]
      · rw [cell, if_neg (by omega), if_neg (by omega), if_pos (by omega)]
      · rw [cell, if_neg (by omega), if_neg (by omega), if_neg (by omega), if_pos (by omega)]

theorem VarQ.go {w w' : World} {g : Nat} {q : Rat} (h : VarQ w g q) (hb : Below w.heap.size w w') : VarQ w' g q := by
  obtain ⟨s, a, n, c, b, m, d, h1, h2, h3⟩ := h
  exact ⟨s, a, n, c, b, m, d, (hb.block g (lt_of_block h1)).trans h1, h2.go hb, h3.go hb⟩
theorem VarQ.lt {w : World} {g : Nat} {q : Rat} (h : VarQ w g q) : g < w.heap.size := let ⟨_, _, _, _, _, _, _, h, _⟩ := h; lt_of_block h

theorem Try.infoQuot : (Try.prog.info? 62).map (fun i => (i.zero, i.size, i.bytes)) = some (some (.agg #[.bool false, .slice none 0 0, .bool false, .slice none 0 0]), 4, 64) := by kernel_rfl

theorem made_noInt (n i : Nat) (v : Value) (h : (madeCells (Value.agg #[.bool false, .slice none 0 0, .bool false, .slice none 0 0]).cells n)[i]? = some v) : noInt v = true := by
  simp only [madeCells, Value.cells, Array.getElem?_map] at h
  obtain ⟨k, _, rfl⟩ := Option.map_eq_some_iff.1 h
  have : k % 4 = 0 ∨ k % 4 = 1 ∨ k % 4 = 2 ∨ k % 4 = 3 := by omega
  rcases this with e | e | e | e <;> simp [e, noInt]

theorem wpList_make_quots {w : World} {ops : Array Oper} {rest : List Oper} {o : Oper} {a : Act} {Q : Exit → Act → World → Prop}
    (hg : o.guard = none) (l c : Operand) (t : TypeId) (hop : o.op = Op.makeSlice t l c) (ht : Try.prog.underlying t = some (.slice 62))
    (L : Int) (n : Nat) (hl : a.eval l = .int .i64 L) (hc : a.eval c = .int .i64 L) (hL : L = (n : Int)) (hn : n ≤ 10000000000)
    (hK : ∀ w', MakeQ w' w.heap.size n [] → Below w.heap.size w w' → wpList Try.prog ops Q rest (a.put o.dst (.slice (some ⟨w.heap.size, 0, none⟩) n n)) w') :
    wpList Try.prog ops Q (o :: rest) a w := by
  refine wpList_plain hg fun K hK' => ?_
  obtain ⟨i, hi, hz, hs, hb⟩ := info_of Try.infoQuot
  subst hL
  have hr := run_make (P := Try.prog) w t 62 i _ ht hi hz .i64 .i64 (n : Int) (n : Int) (by omega) (by omega) (by rw [hb]; omega) (by omega)
  rw [hs, Int.toNat_natCast] at hr
  unfold Oper.wp
  simp [execOp, hop, hl, hc, hr, Result.andThen]
  refine hK' _ _ (hK _ ?_ ((Below.refl _ _).alloc (Nat.le_refl _) _))
  have hh := heap_alloc_new w (.cells (madeCells (Value.agg #[.bool false, .slice none 0 0, .bool false, .slice none 0 0]).cells (n * 4)) 62)
  refine ⟨_, hh, by simp [madeCells], fun i v hv => ?_, lt_of_block hh, fun i hi => by simp at hi⟩
  simp only [World.cell?, hh] at hv
  exact made_noInt (n * 4) i v (by simpa using hv)

def RetTails (w : World) (N : Nat) (x : Int) (e : Ending) (w' : World) : Prop :=
  ∃ g cap, e = .returned (.tuple #[.slice (some ⟨g, 0, none⟩) (N + 1) cap, .bool true]) ∧ N + 1 ≤ cap ∧ RowQ w' g 0 ((List.range (N + 1)).map (prob x N)) ∧ Below w.heap.size w w'

theorem VarQ.new {w : World} {q : Rat} {s : Bool} {a b : Option Addr} {n c m d : Nat} (h1 : LG w.heap.size w s a n c q.num) (h2 : LG w.heap.size w false b m d (q.den : Int)) :
    VarQ (w.alloc (.cells #[.bool s, .slice a n c, .bool false, .slice b m d] 62)) w.heap.size q := by
  have hb := (Below.refl w.heap.size w).alloc (Nat.le_refl _) (.cells #[.bool s, .slice a n c, .bool false, .slice b m d] 62)
  exact ⟨s, a, n, c, b, m, d, heap_alloc_new w _, h1.go hb, h2.go hb⟩

/-- a block of the shape of a fraction's variable -/
def IsQ (w : World) (g : Nat) : Prop := ∃ u v p p2 u' v' p' p2', w.heap[g]? = some (.cells #[.bool u, .slice v p p2, .bool u', .slice v' p' p2'] 62 (0, 0))
theorem VarQ.is {w : World} {g : Nat} {q : Rat} (h : VarQ w g q) : IsQ w g := let ⟨_, _, _, _, _, _, _, h, _⟩ := h; ⟨_, _, _, _, _, _, _, _, h⟩
/-- the world behind a store of a fraction -/
def W4 (w : World) (g : Nat) (s : Bool) (a : Option Addr) (n c : Nat) (u : Bool) (b : Option Addr) (m d : Nat) : World :=
  (((w.setCell ⟨g, 0, none⟩ (.bool s)).setCell ⟨g, 1, none⟩ (.slice a n c)).setCell ⟨g, 2, none⟩ (.bool u)).setCell ⟨g, 3, none⟩ (.slice b m d)
theorem IsQ.off {w : World} {g : Nat} (h : IsQ w g) : ∀ i v, w.cell? ⟨g, i, none⟩ = some v → noInt v = true := fun i x hx => by
  obtain ⟨u, v, p, p2, u', v', p', p2', h⟩ := h
  simp only [World.cell?, h] at hx
  match i, hx with
  | 0, hx => simp at hx; subst hx; rfl
  | 1, hx => simp at hx; subst hx; rfl
  | 2, hx => simp at hx; subst hx; rfl
  | 3, hx => simp at hx; subst hx; rfl
  | k + 4, hx => simp at hx
theorem IsQ.other {w : World} {g g' : Nat} (h : IsQ w g) (hne : g' ≠ g) (s : Bool) (a : Option Addr) (n c : Nat) (u : Bool) (b : Option Addr) (m d : Nat) : IsQ (W4 w g' s a n c u b m d) g := by
  obtain ⟨u1, v, p, p2, u', v', p', p2', h⟩ := h
  exact ⟨u1, v, p, p2, u', v', p', p2', obj_other (obj_other (obj_other (obj_other h ⟨g', 0, none⟩ hne _) ⟨g', 1, none⟩ hne _) ⟨g', 2, none⟩ hne _) ⟨g', 3, none⟩ hne _⟩
theorem VarQ.put {w : World} {g : Nat} {q : Rat} {s : Bool} {a b : Option Addr} {n c m d : Nat} (h : IsQ w g) (h1 : LG w.heap.size w s a n c q.num) (h2 : LG w.heap.size w false b m d (q.den : Int)) : VarQ (W4 w g s a n c false b m d) g q := by
  obtain ⟨u1, v, p, p2, u', v', p', p2', h⟩ := h
  exact VarQ.store h h1 h2
theorem LG.put {w : World} {g : Nat} {s : Bool} {a b : Option Addr} {n c m d : Nat} {u : Bool} {s' : Bool} {a' : Option Addr} {n' c' : Nat} {z : Int} (hl : LG w.heap.size w s' a' n' c' z) (h : IsQ w g) : LG (W4 w g s a n c u b m d).heap.size (W4 w g s a n c u b m d) s' a' n' c' z := by
  have n1 := hl.off h.off
  unfold W4
  simpa using (((hl.setCell ⟨g, 0, none⟩ (.bool s) n1).setCell ⟨g, 1, none⟩ (.slice a n c) n1).setCell ⟨g, 2, none⟩ (.bool u) n1).setCell ⟨g, 3, none⟩ (.slice b m d) n1
theorem VarQ.other {w : World} {g g' : Nat} {q : Rat} (h : VarQ w g q) (h' : IsQ w g') (hne : g' ≠ g) (s : Bool) (a : Option Addr) (n c : Nat) (u : Bool) (b : Option Addr) (m d : Nat) : VarQ (W4 w g' s a n c u b m d) g q := by
  obtain ⟨s1, a1, n1, c1, b1, m1, d1, h1, h2, h3⟩ := h
  exact ⟨s1, a1, n1, c1, b1, m1, d1, obj_other (obj_other (obj_other (obj_other h1 ⟨g', 0, none⟩ hne _) ⟨g', 1, none⟩ hne _) ⟨g', 2, none⟩ hne _) ⟨g', 3, none⟩ hne _, h2.put h', h3.put h'⟩
theorem Below.put4 {w w' : World} {B g : Nat} (h : Below B w w') (hg : B ≤ g) (s : Bool) (a : Option Addr) (n c : Nat) (u : Bool) (b : Option Addr) (m d : Nat) : Below B w (W4 w' g s a n c u b m d) :=
  (((h.setCell hg _).setCell hg _).setCell hg _).setCell hg _
theorem size_W4 (w : World) (g : Nat) (s : Bool) (a : Option Addr) (n c : Nat) (u : Bool) (b : Option Addr) (m d : Nat) : (W4 w g s a n c u b m d).heap.size = w.heap.size := by simp [W4]

theorem term_fit {t j : Nat} {x y : Int} (ht : t ≤ 7) (hj : j ≤ t) (h0 : 0 ≤ x) (h1 : x ≤ 100) (y0 : 0 ≤ y) (y1 : y ≤ 100) : (digs (term t x j * y).natAbs).length ≤ 600 := by
  have e : psum t x j 1 = term t x j := by simp [psum]
  have a := psum_small (N := t) (A := j) (k := 1) (x := x) (by omega) h0 h1 (by omega)
  have b := mul_bd (b := y) (B := 1000000) a.1 a.2 y0 (by omega)
  rw [e] at b
  exact fit_of_lt b.1 (Int.lt_of_le_of_lt b.2 (by decide +kernel))
theorem pow_fit {t : Nat} (ht : t ≤ 8) : (digs (100 ^ t)).length ≤ 600 := by
  have := fit_pow (x := 100) (by omega) (by omega) (show t ≤ 200 by omega)
  rwa [show ((100 : Int) ^ t).natAbs = 100 ^ t by rw [Int.natAbs_pow]; rfl] at this
theorem prob_fit {t j : Nat} {x : Int} (ht : t ≤ 7) (hj : j ≤ t) (h0 : 0 ≤ x) (h1 : x ≤ 100) : (digs (prob x t j).num.natAbs).length ≤ 600 ∧ (digs (prob x t j).den).length ≤ 600 := by
  have := term_fit (y := 1) ht hj h0 h1 (by omega) (by omega)
  rw [Int.mul_one] at this
  exact rat_fit (pow100 t) this (pow_fit (by omega))
theorem prod_fit {t j : Nat} {x y : Int} (ht : t ≤ 7) (hj : j ≤ t) (h0 : 0 ≤ x) (h1 : x ≤ 100) (y0 : 0 ≤ y) (y1 : y ≤ 100) : (digs (prob x t j * mkRat y 100).num.natAbs).length ≤ 600 ∧ (digs (prob x t j * mkRat y 100).den).length ≤ 600 := by
  rw [prob_times]
  exact rat_fit (pow100 (t + 1)) (term_fit ht hj h0 h1 y0 y1) (pow_fit (by omega))

theorem RowQ.at {w : World} {g : Nat} {t : Nat} {f : Nat → Rat} (h : RowQ w g 0 ((List.range t).map f)) {j : Nat} (hj : j < t) : ∃ s a n c b m d, w.cell? ⟨g, j * 4, none⟩ = some (.bool s) ∧ w.cell? ⟨g, j * 4 + 1, none⟩ = some (.slice a n c) ∧ w.cell? ⟨g, j * 4 + 2, none⟩ = some (.bool false) ∧ w.cell? ⟨g, j * 4 + 3, none⟩ = some (.slice b m d) ∧ LG w.heap.size w s a n c (f j).num ∧ LG w.heap.size w false b m d ((f j).den : Int) := by
  have := h.2 j (by simpa using hj)
  rw [show ((List.range t).map f).getD j 0 = f j by simp [List.getD_eq_getElem?_getD, hj], show 0 + 4 * j = j * 4 by omega] at this
  exact this

end Go.Proofs.Ytkfkdkoohnfgaaa
