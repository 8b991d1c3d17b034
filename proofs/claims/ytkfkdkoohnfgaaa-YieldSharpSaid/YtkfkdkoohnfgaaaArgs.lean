/-
  DERIVED. How the arguments of a law are read again behind the call, whatever their types; and how they are opened.
-/
import Derived.Test.YtkfkdkoohnfgaaaRows
import Derived.WalkKit
import Derived.ProofKit
import Derived.OpenShut
namespace Go.Proofs.Ytkfkdkoohnfgaaa
open Go.ChangeShapes Go.WideShapes Go.ChangeAt Go.RowKit
variable {P : Program}

theorem ownKnob_none : ownKnob Try.prog.godebug = none := by kernel_rfl
theorem laidOut_all : laidOutB Try.prog = true := by kernel_rfl

/-- all arguments read behind the call as they did -/
theorem trodAll_below {H : Type} {enc : TypeId × Value → H} {W W' : World} (hb : Below W.heap.size W W') :
    ∀ (ts : List TypeId) (vs : List Value) (ds : List (DataW H)) (ps : List MemPlace), (∀ t ∈ ts, Try.prog.readableRec t = true ∧ t < Try.prog.types.size) → DataW.TrodAll enc Try.prog W 0 (fun _ => true) true ts vs ds ps →
      DataW.TrodAll enc Try.prog W' 0 (fun b => decide (b < W.heap.size)) true ts vs ds ps
  | [], vs, ds, ps, _, h => by
    obtain ⟨rfl, rfl, rfl⟩ := trodAll_nil h
    exact trodAll_mk0
  | t :: ts, vs, ds, ps, hr, h => by
    obtain ⟨v, vs', d, ds', p, q, rfl, rfl, rfl, h0, h1⟩ := trodAll_cons h
    refine trodAll_cons_mk (Below.trod laidOut_all (hr t (by simp)).1 (hr t (by simp)).2 h0 hb ?_) (trodAll_below hb ts vs' ds' q (fun u hu => hr u (by simp [hu])) h1)
    obtain ⟨m, hm⟩ := h0
    exact DataW.trod_lt m _ _ _ hm

theorem list2 {α : Type} {l : List α} (h : l.length = 2) : ∃ a b, l = [a, b] := by
  match l, h with
  | [a, b], _ => exact ⟨a, b, rfl⟩
theorem list3 {α : Type} {l : List α} (h : l.length = 3) : ∃ a b c, l = [a, b, c] := by
  match l, h with
  | [a, b, c], _ => exact ⟨a, b, c, rfl⟩
theorem all_of {ts : List TypeId} (h : ts.all (fun t => P.readableRec t && decide (t < P.types.size)) = true) : ∀ t ∈ ts, P.readableRec t = true ∧ t < P.types.size := by
  intro t ht
  have := List.all_eq_true.1 h t ht
  simpa using this

theorem wf_of_cell {t : TypeId} {k : IntKind} {W : World} {base : Nat} {v : Value} (ht : P.underlying t = some (.int k)) (h : Cell.okWide P W .any base t v) :
    ∃ n, v = .int k n ∧ k.has n := by
  unfold Cell.okWide at h
  rw [ht] at h
  unfold Cell.ok at h
  rw [ht] at h
  cases v <;> simp_all

/-- an array of integers -/
theorem okWide_arr {t e : TypeId} {k : IntKind} {n : Nat} {W : World} {base : Nat} {v : Value} (ht : P.underlying t = some (.array n e)) (hc : P.cellsOf t = n)
    (hct : P.cellTypes P.depth t = some (List.replicate n e)) (he : P.underlying e = some (.int k)) (h : Value.okWide P W .any base t v) :
    ∃ zs : List Int, v = .agg (zs.map (Value.int k)).toArray ∧ zs.length = n ∧ ∀ z ∈ zs, k.has z := by
  unfold Value.okWide at h
  rw [ht] at h
  obtain ⟨cs, rfl, hs, ts, hts, -, hcs⟩ := h
  rw [hct] at hts
  obtain rfl : List.replicate n e = ts := by simpa using hts
  have key : ∀ l : List Value, (∀ x ∈ l, ∃ z, x = .int k z ∧ k.has z) → ∃ zs : List Int, l = zs.map (Value.int k) ∧ zs.length = l.length ∧ ∀ z ∈ zs, k.has z := by
    intro l
    induction l with
    | nil => exact fun _ => ⟨[], rfl, rfl, fun z hz => by simp at hz⟩
    | cons x l ih =>
      intro hl
      obtain ⟨z, rfl, hz⟩ := hl x (by simp)
      obtain ⟨zs, rfl, h2, h3⟩ := ih (fun y hy => hl y (by simp [hy]))
      exact ⟨z :: zs, rfl, by simp, fun y hy => by
        simp at hy
        rcases hy with rfl | hy
        · exact hz
        · exact h3 y hy⟩
  obtain ⟨zs, h1, h2, h3⟩ := key cs.toList (fun x hx => by
    obtain ⟨i, hi, rfl⟩ := List.getElem_of_mem hx
    have hi' : i < cs.size := by simpa using hi
    obtain ⟨u, hu, hc2⟩ := hcs i cs.toList[i] (by simp)
    have hn : n ≠ 0 := by
      rw [hs, hc] at hi'
      exact Nat.ne_of_gt (Nat.lt_of_le_of_lt (Nat.zero_le _) hi')
    have hm : i % n < n := Nat.mod_lt _ (Nat.pos_of_ne_zero hn)
    rw [List.length_replicate, List.getElem?_replicate, if_pos hm] at hu
    simp at hu
    subst hu
    exact wf_of_cell he hc2)
  refine ⟨zs, ?_, by rw [h2]; simp [hs, hc], h3⟩
  rw [← h1]

end Go.Proofs.Ytkfkdkoohnfgaaa
