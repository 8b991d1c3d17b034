/-
  DERIVED. A world in which one block alone has changed.
-/
import Derived.Test.YtkfkdkoohnfgaaaRowL
namespace Go.Proofs.Ytkfkdkoohnfgaaa
open Go.RowKit

structure OnlyB (b : Nat) (w w' : World) : Prop where
  os : w'.os = w.os
  tape : w'.tape = w.tape
  output : w'.output = w.output
  size : w'.heap.size = w.heap.size
  block : ∀ k, k ≠ b → w'.heap[k]? = w.heap[k]?

theorem OnlyB.refl (b : Nat) (w : World) : OnlyB b w w := ⟨rfl, rfl, rfl, rfl, fun _ _ => rfl⟩
theorem OnlyB.set {b : Nat} {w w' : World} (h : OnlyB b w w') (i : Nat) (u : Value) : OnlyB b w (w'.setCell ⟨b, i, none⟩ u) :=
  ⟨h.os, h.tape, h.output, by simp [h.size], fun k hk => (Below.heap_setCell _ _ _ _ hk).trans (h.block k hk)⟩
theorem OnlyB.below {b B : Nat} {w w' : World} (h : OnlyB b w w') (hB : B ≤ b) : Below B w w' := ⟨h.os, h.tape, h.output, by rw [h.size]; exact Nat.le_refl _, fun k hk => h.block k (by omega)⟩
theorem OnlyB.cell {b : Nat} {w w' : World} (h : OnlyB b w w') {p : Addr} (hp : p.block ≠ b) : w'.cell? p = w.cell? p := World.cell?_of_block (w := w) (h.block p.block hp)
theorem OnlyB.frozen {b : Nat} {w w' : World} (h : OnlyB b w w') {p : Addr} (hp : p.block ≠ b) : w'.frozen? p = w.frozen? p := World.frozen?_of_block (w := w) (h.block p.block hp)

theorem SL.only {N : Nat} {w w' : World} {a : Option Addr} {n c b : Nat} {zs : List Int} (h : SL N w a n c zs) (ho : OnlyB b w w') (hne : ∀ b' off, a = some ⟨b', off, none⟩ → 0 < n → b' ≠ b) : SL N w' a n c zs := by
  refine ⟨h.1, h.2.1, fun h0 => ?_⟩
  obtain ⟨b', off, e, hlt, hc⟩ := h.2.2 h0
  exact ⟨b', off, e, hlt, fun j hj => (ho.cell (p := ⟨b', off + j, none⟩) (hne b' off e h0)).trans (hc j hj)⟩
theorem LG.only {N : Nat} {w w' : World} {s : Bool} {a : Option Addr} {n c b : Nat} {z : Int} (h : LG N w s a n c z) (ho : OnlyB b w w') (hne : ∀ b' off, a = some ⟨b', off, none⟩ → 0 < n → b' ≠ b) : LG N w' s a n c z :=
  ⟨h.1, h.2.1.only ho hne, h.2.2⟩

theorem RowL.only {N base : Nat} {w w' : World} {g cap b : Nat} {zs : List Int} (h : RowL N base w g cap zs) (ho : OnlyB b w w') (hb : b < base ∨ N ≤ b) : RowL N base w' g cap zs := by
  obtain ⟨ps, h1, h2, h3, h4, h5⟩ := h
  refine ⟨ps, h1, h2, ?_, h4, fun j hj => ⟨LG.only (h5 j hj).1 ho (fun b' off e h0 => ?_), (h5 j hj).2⟩⟩
  · obtain ⟨l, r⟩ := h3
    refine ⟨l, r.imp id ?_⟩
    rintro ⟨g', cap', cur, e, q1, q2, q3⟩
    have : g' = g := by injection e with e1 e2 e3; injection e1 with e1; injection e1 with e1; exact e1.symm
    exact ⟨g', cap', cur, e, q1, (ho.block g' (by omega)).trans q2, q3⟩
  · have a1 := (h5 j hj).2.2 b' off e h0
    have a2 := LG.lt_of (h5 j hj).1 e h0
    omega

/-- from here on the world is any one of which these facts hold -/
theorem gen_only {b : Nat} {w W : World} {cs : Array Value} {T : TypeId} (G : World → Prop) (hobj : W.heap[b]? = some (.cells cs T (0, 0))) (ho : OnlyB b w W)
    (h : ∀ w', w'.heap[b]? = some (.cells cs T (0, 0)) → OnlyB b w w' → G w') : G W := h W hobj ho

/-- what stands in a block that is known whole -/
theorem obj_cell {w : World} {b : Nat} {cs : Array Value} {T : TypeId} (h : w.heap[b]? = some (.cells cs T (0, 0))) (i : Nat) : w.cell? ⟨b, i, none⟩ = cs[i]? := by simp [World.cell?, h]
theorem obj_free {w : World} {b : Nat} {cs : Array Value} {T : TypeId} (h : w.heap[b]? = some (.cells cs T (0, 0))) (i : Nat) : w.frozen? ⟨b, i, none⟩ = false := by simp [World.frozen?, h]

end Go.Proofs.Ytkfkdkoohnfgaaa
