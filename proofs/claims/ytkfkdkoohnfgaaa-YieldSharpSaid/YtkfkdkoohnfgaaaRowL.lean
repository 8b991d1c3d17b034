/-
  DERIVED. Rows of long integers that a call itself makes: made, read, appended to, written.
-/
import Derived.Test.YtkfkdkoohnfgaaaYieldA
namespace Go.Proofs.Ytkfkdkoohnfgaaa
open Go.RowKit

/-- where a long integer lies: its sign and its slice -/
structure LP where
  s : Bool
  a : Option Addr
  n : Nat
  c : Nat

def LP.cells (p : LP) : List Value := [.bool p.s, .slice p.a p.n p.c]
def flat (ps : List LP) : List Value := ps.flatMap LP.cells
def LP.none : LP := ⟨false, Option.none, 0, 0⟩
def LP.at (N : Nat) (w : World) (p : LP) (z : Int) : Prop := LG N w p.s p.a p.n p.c z
/-- it lies in no block below B -/
def LP.above (p : LP) (B : Nat) : Prop := ∀ b off, p.a = some ⟨b, off, Option.none⟩ → 0 < p.n → B ≤ b
/-- it does not lie in block g -/
def LP.off (p : LP) (g : Nat) : Prop := ∀ b off, p.a = some ⟨b, off, Option.none⟩ → 0 < p.n → b ≠ g

theorem length_flat (ps : List LP) : (flat ps).length = ps.length * 2 := by
  induction ps with
  | nil => rfl
  | cons p ps ih => simp only [flat, List.flatMap_cons, List.length_append, List.length_cons] at ih ⊢; rw [ih]; simp [LP.cells]; omega
theorem flat_append (ps qs : List LP) : flat (ps ++ qs) = flat ps ++ flat qs := List.flatMap_append
theorem flat_get (ps : List LP) (j : Nat) (h : j < ps.length) : (flat ps)[j * 2]? = some (.bool (ps.getD j LP.none).s) ∧ (flat ps)[j * 2 + 1]? = some (.slice (ps.getD j LP.none).a (ps.getD j LP.none).n (ps.getD j LP.none).c) := by
  induction ps generalizing j with
  | nil => simp at h
  | cons p ps ih =>
    cases j with
    | zero => simp [flat, LP.cells]
    | succ j =>
      have := ih j (by simpa using h)
      simp only [flat, List.flatMap_cons, LP.cells] at this ⊢
      rw [show (j + 1) * 2 = (j * 2) + 2 by omega, show (j * 2) + 2 + 1 = (j * 2 + 1) + 2 by omega]
      simpa using this
theorem flat_set (ps : List LP) (j : Nat) (h : j < ps.length) (p : LP) : flat (ps.set j p) = ((flat ps).set (j * 2) (.bool p.s)).set (j * 2 + 1) (.slice p.a p.n p.c) := by
  induction ps generalizing j with
  | nil => simp at h
  | cons q ps ih =>
    cases j with
    | zero => simp [flat, LP.cells]
    | succ j =>
      have := ih j (by simpa using h)
      simp only [flat, List.set_cons_succ, List.flatMap_cons, LP.cells] at this ⊢
      rw [this, show (j + 1) * 2 = (j * 2) + 2 by omega, show (j * 2) + 2 + 1 = (j * 2 + 1) + 2 by omega]
      simp

theorem LG.grown {N : Nat} {w w' : World} {row : Option Nat} {s : Bool} {a : Option Addr} {n c : Nat} {z : Int} (h : LG N w s a n c z) (hg : w.grownBy w' row) (hne : ∀ b off, a = some ⟨b, off, none⟩ → 0 < n → some b ≠ row) : LG N w' s a n c z := by
  refine ⟨h.1, ⟨h.2.1.1, h.2.1.2.1, fun h0 => ?_⟩, h.2.2⟩
  obtain ⟨b, off, e, hlt, hc⟩ := h.2.1.2.2 h0
  exact ⟨b, off, e, hlt, fun j hj => hg.cell (hc j hj) (hne b off e h0)⟩

/-- a row of long integers of the call's own, in block g; all of it below N -/
def RowL (N base : Nat) (w : World) (g cap : Nat) (zs : List Int) : Prop :=
  ∃ ps : List LP, base ≤ g ∧ g < N ∧ w.ownsRow base 51 2 (.slice (some ⟨g, 0, none⟩) zs.length cap) zs.length (flat ps) ∧ ps.length = zs.length ∧
    ∀ j, j < zs.length → LP.at N w (ps.getD j LP.none) (zs.getD j 0) ∧ (ps.getD j LP.none).off g ∧ (ps.getD j LP.none).above base

theorem RowL.base_le {N base w g cap zs} (h : RowL N base w g cap zs) : base ≤ g := let ⟨_, h, _⟩ := h; h
theorem RowL.lt {N base w g cap zs} (h : RowL N base w g cap zs) : g < N := let ⟨_, _, h, _⟩ := h; h

theorem ownsRow_base {w : World} {base base' : Nat} {e : TypeId} {size : Nat} {v : Value} {n : Nat} {xs : List Value} (h : w.ownsRow base e size v n xs) (hb : base' ≤ base) : w.ownsRow base' e size v n xs :=
  ⟨h.1, h.2.imp id fun ⟨g, cap, cur, e, q, r⟩ => ⟨g, cap, cur, e, Nat.le_trans hb q, r⟩⟩

theorem RowL.rebase {N base base' w g cap zs} (h : RowL N base w g cap zs) (hb : base' ≤ base) : RowL N base' w g cap zs := by
  obtain ⟨ps, h1, h2, h3, h4, h5⟩ := h
  exact ⟨ps, Nat.le_trans hb h1, h2, ownsRow_base h3 hb, h4, fun j hj => ⟨(h5 j hj).1, (h5 j hj).2.1, fun b off e h0 => Nat.le_trans hb ((h5 j hj).2.2 b off e h0)⟩⟩

theorem RowL.mono {N N' base w g cap zs} (h : RowL N base w g cap zs) (hN : N ≤ N') : RowL N' base w g cap zs := by
  obtain ⟨ps, h1, h2, h3, h4, h5⟩ := h
  exact ⟨ps, h1, by omega, h3, h4, fun j hj => ⟨LG.mono (h5 j hj).1 hN, (h5 j hj).2⟩⟩

theorem RowL.keep {N base w w' g cap zs} (h : RowL N base w g cap zs) (hb : Below N w w') : RowL N base w' g cap zs := by
  obtain ⟨ps, h1, h2, h3, h4, h5⟩ := h
  refine ⟨ps, h1, h2, ?_, h4, fun j hj => ⟨LG.below (h5 j hj).1 hb (Nat.le_refl _), (h5 j hj).2⟩⟩
  obtain ⟨l, r⟩ := h3
  refine ⟨l, r.imp id ?_⟩
  rintro ⟨g', cap', cur, e, q1, q2, q3⟩
  have : g' = g := by injection e with e1 e2 e3; injection e1 with e1; injection e1 with e1; exact e1.symm
  exact ⟨g', cap', cur, e, q1, (hb.block g' (by omega)).trans q2, q3⟩

theorem RowL.go {base w w' g cap zs} (h : RowL w.heap.size base w g cap zs) (hb : Below w.heap.size w w') : RowL w'.heap.size base w' g cap zs := (h.keep hb).mono hb.size

/-- one of its long integers -/
theorem RowL.get {N base w g cap zs} (h : RowL N base w g cap zs) {j : Nat} (hj : j < zs.length) :
    ∃ s a n c, w.cell? ⟨g, j * 2, none⟩ = some (.bool s) ∧ w.cell? ⟨g, j * 2 + 1, none⟩ = some (.slice a n c) ∧ LG N w s a n c (zs.getD j 0) ∧ Fresh base a n := by
  obtain ⟨ps, h1, h2, h3, h4, h5⟩ := h
  obtain ⟨f1, f2⟩ := flat_get ps j (by omega)
  rcases (owns_cells h3).2 with ⟨e, _⟩ | ⟨g', cap', e, q1, q2, q3⟩
  · cases e
  · obtain rfl : g' = g := by injection e with e1 e2 e3; injection e1 with e1; injection e1 with e1; exact e1.symm
    have hl := length_flat ps
    have a1 := q3.cell (j := j * 2) (by omega)
    have a2 := q3.cell (j := j * 2 + 1) (by omega)
    rw [List.getElem?_eq_getElem (by omega)] at f1 f2
    injection f1 with f1; injection f2 with f2
    exact ⟨_, _, _, _, a1.trans (by rw [f1]), a2.trans (by rw [f2]), (h5 j hj).1, (h5 j hj).2.2⟩

theorem RowL.free {N base w g cap zs} (h : RowL N base w g cap zs) (j : Nat) : w.frozen? ⟨g, j, none⟩ = false := by
  obtain ⟨ps, h1, h2, h3, h4, h5⟩ := h
  rcases (owns_cells h3).2 with ⟨e, _⟩ | ⟨g', cap', e, q1, q2, q3⟩
  · cases e
  · obtain rfl : g' = g := by injection e with e1 e2 e3; injection e1 with e1; injection e1 with e1; exact e1.symm
    exact q3.free j

/-- one of its long integers is written -/
theorem RowL.set {base w g cap zs} (h : RowL w.heap.size base w g cap zs) {j : Nat} (hj : j < zs.length) {s : Bool} {a : Option Addr} {n c : Nat} {z : Int} (hz : LG w.heap.size w s a n c z)
    (hoff : ∀ b off, a = some ⟨b, off, none⟩ → 0 < n → b ≠ g) (hab : Fresh base a n) : RowL ((w.setCell ⟨g, j * 2, none⟩ (.bool s)).setCell ⟨g, j * 2 + 1, none⟩ (.slice a n c)).heap.size base ((w.setCell ⟨g, j * 2, none⟩ (.bool s)).setCell ⟨g, j * 2 + 1, none⟩ (.slice a n c)) g cap (zs.set j z) := by
  obtain ⟨ps, h1, h2, h3, h4, h5⟩ := h
  have hkeep : ∀ {p : LP} {y : Int}, p.at w.heap.size w y → p.off g → p.at ((w.setCell ⟨g, j * 2, none⟩ (.bool s)).setCell ⟨g, j * 2 + 1, none⟩ (.slice a n c)).heap.size ((w.setCell ⟨g, j * 2, none⟩ (.bool s)).setCell ⟨g, j * 2 + 1, none⟩ (.slice a n c)) y := by
    intro p y h1 h2
    have := (LG.setCell h1 ⟨g, j * 2, none⟩ (.bool s) h2).setCell ⟨g, j * 2 + 1, none⟩ (.slice a n c) h2
    unfold LP.at
    simpa using this
  refine ⟨ps.set j ⟨s, a, n, c⟩, h1, by simpa using h2, ?_, by simpa using h4, fun i hi => ?_⟩
  · rcases h3.2 with ⟨e, _⟩ | ⟨g', cap', cur, e, q1, q2, q3, q4, q5, q6⟩
    · cases e
    · obtain rfl : g' = g := by injection e with e1 e2 e3; injection e1 with e1; injection e1 with e1; exact e1.symm
      obtain rfl : cap' = cap := by injection e with e1 e2 e3; exact e3.symm
      have hl := length_flat ps
      have b1 : j * 2 + 1 < zs.length * 2 := by omega
      refine ⟨by rw [length_flat]; simp [h4], Or.inr ⟨g', cap', (cur.setIfInBounds (j * 2) (.bool s)).setIfInBounds (j * 2 + 1) (.slice a n c), by simp, q1, ?_, by simpa using q3, q4, by simpa using q5, ?_⟩⟩
      · exact obj_setCell (obj_setCell q2 (j * 2) (.bool s)) (j * 2 + 1) (.slice a n c)
      · rw [flat_set ps j (by omega), ← q6]
        simp only [Array.toList_setIfInBounds, List.length_set]
        rw [List.take_set, List.take_set]
  · rw [List.length_set] at hi
    simp only [List.getD_eq_getElem?_getD, List.getElem?_set]
    by_cases e : j = i
    · subst e
      rw [if_pos rfl, if_pos (by omega), if_pos rfl, if_pos (by omega)]
      exact ⟨hkeep (p := ⟨s, a, n, c⟩) hz hoff, hoff, hab⟩
    · rw [if_neg e, if_neg e, ← List.getD_eq_getElem?_getD, ← List.getD_eq_getElem?_getD]
      exact ⟨hkeep (h5 i hi).1 (h5 i hi).2.1, (h5 i hi).2⟩

/-- a row of one -/
theorem RowL.one {w : World} {s : Bool} {a : Option Addr} {n c : Nat} {z : Int} (hz : LG w.heap.size w s a n c z) {base : Nat} (hb : base ≤ w.heap.size) (hab : Fresh base a n) :
    RowL (w.alloc (.cells #[.bool s, .slice a n c] 51)).heap.size base (w.alloc (.cells #[.bool s, .slice a n c] 51)) w.heap.size 1 [z] := by
  refine ⟨[⟨s, a, n, c⟩], hb, by simp, ?_, rfl, fun j hj => ?_⟩
  · refine ⟨rfl, Or.inr ⟨w.heap.size, 1, _, rfl, hb, heap_alloc_new _ _, Nat.le_refl _, by unfold maxLen; omega, rfl, rfl⟩⟩
  · obtain rfl : j = 0 := by simpa using hj
    refine ⟨?_, ?_, hab⟩
    · exact LG.go hz ((Below.refl _ _).alloc (Nat.le_refl _) _)
    · intro b off e h0
      obtain ⟨b', off', e', hlt, _⟩ := hz.2.1.2.2 h0
      have : b = b' := by rw [e'] at e; injection e with e; injection e with e; exact e.symm
      omega

/-- behind an append of others -/
theorem RowL.append {base : Nat} {w w' : World} {g cap : Nat} {zs ys : List Int} (h : RowL w.heap.size base w g cap zs) (qs : List LP) (hq : qs.length = ys.length) (hqs : ∀ j, j < ys.length → (qs.getD j LP.none).at w.heap.size w (ys.getD j 0) ∧ (qs.getD j LP.none).off g ∧ (qs.getD j LP.none).above base)
    {g' cap' : Nat} {ps : List LP} (hps : ps.length = zs.length ∧ ∀ j, j < zs.length → LP.at w.heap.size w (ps.getD j LP.none) (zs.getD j 0) ∧ (ps.getD j LP.none).off g ∧ (ps.getD j LP.none).above base)
    (hown : w'.ownsRow base 51 2 (.slice (some ⟨g', 0, none⟩) (zs.length + ys.length) cap') (zs.length + ys.length) (flat ps ++ flat qs)) (hgrow : w.grownBy w' (some g)) (hat : g = g' ∨ g' = w.heap.size) (hlt : g' < w'.heap.size) :
    RowL w'.heap.size base w' g' cap' (zs ++ ys) := by
  have hkeep : ∀ {p : LP} {y : Int}, p.at w.heap.size w y → p.off g → p.at w'.heap.size w' y ∧ p.off g' := by
    intro p y h1 h2
    refine ⟨(LG.grown h1 hgrow (fun b off e h0 => by have := h2 b off e h0; simpa using this)).mono hgrow.size, fun b off e h0 => ?_⟩
    rcases hat with rfl | rfl
    · exact h2 b off e h0
    · obtain ⟨b', off', e', hlt, _⟩ := h1.2.1.2.2 h0
      have : b = b' := by rw [e'] at e; injection e with e; injection e with e; exact e.symm
      omega
  refine ⟨ps ++ qs, ?_, hlt, by rw [flat_append, List.length_append]; exact hown, by rw [List.length_append, List.length_append, hps.1, hq], fun j hj => ?_⟩
  · rcases hat with rfl | rfl
    · exact h.base_le
    · exact Nat.le_trans h.base_le (Nat.le_of_lt h.lt)
  · rw [List.length_append] at hj
    by_cases hj2 : j < zs.length
    · have := hps.2 j hj2
      simp only [List.getD_eq_getElem?_getD] at this ⊢
      rw [List.getElem?_append_left (by omega), List.getElem?_append_left (by omega)]
      exact ⟨(hkeep this.1 this.2.1).1, (hkeep this.1 this.2.1).2, this.2.2⟩
    · have := hqs (j - zs.length) (by omega)
      simp only [List.getD_eq_getElem?_getD] at this ⊢
      rw [List.getElem?_append_right (by omega), List.getElem?_append_right (by omega), hps.1]
      exact ⟨(hkeep this.1 this.2.1).1, (hkeep this.1 this.2.1).2, this.2.2⟩

theorem Try.infoLong : (Try.prog.info? 51).map (fun i => (i.zero, i.size, i.bytes)) = some (some (.agg #[.bool false, .slice none 0 0]), 2, 32) := by kernel_rfl

/-- append of one long integer to a row of the call's own -/
theorem wpList_append_one {ops : Array Oper} {rest : List Oper} {o : Oper} {a : Act} {Q : Exit → Act → World → Prop} (hgd : o.guard = none) (s x : Operand)
    (ho : o.op = .call { callee := .builtin .append, args := #[s, x], argTypes := #[47, 47] }) {base N : Nat} {w3 : World} {g cap : Nat} {zs : List Int}
    (hs : a.eval s = .slice (some ⟨g, 0, none⟩) N cap) (hN : N = zs.length) (hrow : RowL w3.heap.size base w3 g cap zs) {sg : Bool} {av : Option Addr} {n c : Nat} {z : Int} (hl : LG w3.heap.size w3 sg av n c z)
    (hoff : ∀ b off, av = some ⟨b, off, none⟩ → 0 < n → b ≠ g) (hab : Fresh base av n) (hx : a.eval x = .slice (some ⟨w3.heap.size, 0, none⟩) 1 1) (hlen : zs.length ≤ 1000000)
    (h : ∀ g' cap' w', RowL w'.heap.size base w' g' cap' (zs ++ [z]) → (∀ B w0, B ≤ base → Below B w0 w3 → Below B w0 w') → wpList Try.prog ops Q rest (a.put o.dst (.slice (some ⟨g', 0, none⟩) (N + 1) cap')) w') :
    wpList Try.prog ops Q (o :: rest) a (w3.alloc (.cells #[.bool sg, .slice av n c] 51)) := by
  subst hN
  have hrow' := hrow.go ((Below.refl _ _).alloc (Nat.le_refl _) (.cells #[.bool sg, .slice av n c] 51))
  obtain ⟨ps, h1, h2, h3, h4, h5⟩ := id hrow'
  obtain ⟨i, hi1, hi2, hi3, hi4⟩ := info_of Try.infoLong
  refine wpList_plain hgd fun K hK => ?_
  refine wp_append_lies _ s x 47 ho base 51 i _ 2 32 Try.underlying47 hi1 hi2 hi3 hi4 rfl (by omega) _ zs.length (flat ps) hs h3
    ⟨w3.heap.size, 0, none⟩ 1 1 [.bool sg, .slice av n c] hx rfl (World.news_of_block (cs := #[.bool sg, .slice av n c]) (t := 51) (fr := (0, 0)) (heap_alloc_new w3 _)) (by simp [Value.oneCell'])
    (by omega) (by unfold maxLen; omega) (by omega) (by omega) _ rfl ?_
  intro g' cap' w' hown hgrow hat hlt
  have hat' : g = g' ∨ g' = (w3.alloc (.cells #[.bool sg, .slice av n c] 51)).heap.size := hat.imp (fun e => by simpa [Value.ownBlock] using e) id
  refine hK _ _ (h g' cap' w' ?_ ?_)
  · refine RowL.append hrow' [⟨sg, av, n, c⟩] rfl (fun j hj => ?_) (ps := ps) ⟨h4, h5⟩ hown hgrow hat' hlt
    obtain rfl : j = 0 := by simpa using hj
    exact ⟨LG.go hl ((Below.refl _ _).alloc (Nat.le_refl _) _), hoff, hab⟩
  · intro B w0 hB hb
    have hsz := hrow.lt
    exact (hb.alloc (by omega) _).grown hgrow (by simp; omega) (fun k hk => by simp [Value.ownBlock] at hk; omega)

theorem oneCell_flat (ps : List LP) : ∀ u ∈ flat ps, u.oneCell' = true := by
  intro u hu
  obtain ⟨p, _, hp⟩ := List.mem_flatMap.1 hu
  simp only [LP.cells, List.mem_cons, List.not_mem_nil, or_false] at hp
  rcases hp with rfl | rfl <;> rfl
theorem LG.lt_of {N : Nat} {w : World} {s : Bool} {a : Option Addr} {n c : Nat} {z : Int} (h : LG N w s a n c z) {b off : Nat} (e : a = some ⟨b, off, none⟩) (h0 : 0 < n) : b < N := by
  obtain ⟨b', off', e', hlt, _⟩ := h.2.1.2.2 h0
  subst e
  simp at e'
  omega

/-- append of another row to a row of the call's own -/
theorem wpList_append_row {w : World} {ops : Array Oper} {rest : List Oper} {o : Oper} {a : Act} {Q : Exit → Act → World → Prop} (hgd : o.guard = none) (s x : Operand)
    (ho : o.op = .call { callee := .builtin .append, args := #[s, x], argTypes := #[47, 47] }) {base N : Nat} {g cap : Nat} {zs : List Int}
    (hs : a.eval s = .slice (some ⟨g, 0, none⟩) N cap) (hN : N = zs.length) (hrow : RowL w.heap.size base w g cap zs)
    {M N2 base2 g2 cap2 : Nat} {ys : List Int} (hx : a.eval x = .slice (some ⟨g2, 0, none⟩) M cap2) (hM : M = ys.length) (hsrc : RowL N2 base2 w g2 cap2 ys) (hN2 : N2 ≤ g) (hb2 : base ≤ base2) (hpos : 0 < ys.length) (hlen : zs.length + ys.length ≤ 1000000)
    (h : ∀ g' cap' w', RowL w'.heap.size base w' g' cap' (zs ++ ys) → g ≤ g' → (∀ B w0, B ≤ g → Below B w0 w → Below B w0 w') → wpList Try.prog ops Q rest (a.put o.dst (.slice (some ⟨g', 0, none⟩) (N + M) cap')) w') :
    wpList Try.prog ops Q (o :: rest) a w := by
  subst hN hM
  obtain ⟨ps, h1, h2, h3, h4, h5⟩ := id hrow
  obtain ⟨qs, k1, k2, k3, k4, k5⟩ := id hsrc
  obtain ⟨i, hi1, hi2, hi3, hi4⟩ := info_of Try.infoLong
  have hcells : ∀ j u, (flat qs)[j]? = some u → w.cell? ((⟨g2, 0, none⟩ : Addr).add j) = some u := k3.cells (g := g2) rfl
  refine wpList_plain hgd fun K hK => ?_
  refine wp_append_lies _ s x 47 ho base 51 i _ 2 32 Try.underlying47 hi1 hi2 hi3 hi4 rfl (by omega) _ zs.length (flat ps) hs h3
    ⟨g2, 0, none⟩ ys.length cap2 (flat qs) hx (by rw [length_flat, k4]) hcells (oneCell_flat qs)
    hpos (by unfold maxLen; omega) (by omega) (by omega) _ rfl ?_
  intro g' cap' w' hown hgrow hat hlt
  have hat' : g = g' ∨ g' = w.heap.size := hat.imp (fun e => by simpa [Value.ownBlock] using e) id
  refine hK _ _ (h g' cap' w' ?_ (by omega) ?_)
  · refine RowL.append hrow qs k4 (fun j hj => ⟨LG.mono (k5 j hj).1 (by omega), fun b off e h0 => ?_, fun b off e h0 => Nat.le_trans hb2 ((k5 j hj).2.2 b off e h0)⟩) (ps := ps) ⟨h4, h5⟩ hown hgrow hat' hlt
    have := LG.lt_of (k5 j hj).1 e h0
    omega
  · intro B w0 hB hb
    exact hb.grown hgrow (by omega) (fun k hk => by simp [Value.ownBlock] at hk; omega)

end Go.Proofs.Ytkfkdkoohnfgaaa
