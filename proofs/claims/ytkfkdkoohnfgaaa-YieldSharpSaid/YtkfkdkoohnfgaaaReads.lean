/-
  DERIVED. A region that draws its order: some reads are taken first (no operation of the region writes to what was there), whatever then comes up is walked way by way.
-/
import Derived.Test.YtkfkdkoohnfgaaaFloats
import Derived.Test.YtkfkdkoohnfgaaaRegionB
namespace Go.Proofs.Ytkfkdkoohnfgaaa
open Go.RowKit

section
variable {B : Nat} {P : Program} {ops : Array Oper} {Q : Exit → Act → World → Prop} {md : Region.Mode}

/-- a read is taken first -/
theorem wpR_firstK {i : Nat} {oi : Oper} {v : Value} (hi : ops[i]? = some oi) (hsel : ∀ (j : Nat) (o : Oper) cs b, ops[j]? = some o → o.op ≠ .select cs b)
    (hQ : ∀ c a w, Q (.panic c) (a.put oi.dst v) w → Q (.panic c) a w) :
    ∀ (fuel : Nat) (listed : Array Bool) (a : Act) (w : World),
      (∀ j oj, ops[j]? = some oj → j ≠ i → listed.getD j true = false → (∀ e ∈ oj.after, Region.binds md e = true → e.on ≠ i) → oi.apart ops oj = true) →
      i ∈ Region.ready md ops listed → YieldsIf P ops (fun x => Below B w x) oi v a →
      wpRB B P md ops Q ops.size fuel (listed.setIfInBounds i true) (a.put oi.dst v) w → wpRB B P md ops Q ops.size (fuel + 1) listed a w := by
  intro fuel
  induction fuel with
  | zero =>
    intro listed a w _ hr hy H
    refine ⟨fun h => (by rw [h] at hr; cases hr), fun j hj => ?_⟩
    by_cases hji : j = i
    · subst hji; exact hy.wpOp hi (Below.refl _ _) ⟨fun _ => Below.refl _ _, H⟩
    · have := ready_mono hj hji
      rw [H.1] at this
      cases this
  | succ fuel ih =>
    intro listed a w hfree hr hy H
    have hun := (mem_ready.1 hr).1
    refine ⟨fun h => (by rw [h] at hr; cases hr), fun j hj => ?_⟩
    by_cases hji : j = i
    · subst hji; exact hy.wpOp hi (Below.refl _ _) ⟨fun _ => Below.refl _ _, H⟩
    · have h1 := H.2 j (ready_mono hj hji)
      obtain ⟨hjun, oj, hoj, hall⟩ := mem_ready.1 hj
      have hjn : j < ops.size := (Array.getElem?_eq_some_iff.1 hoj).1
      have hnot : ∀ e ∈ oj.after, Region.binds md e = true → e.on ≠ i := fun e he hb heq => by
        have h1 := hall e he hb
        rw [heq, getD_both hun] at h1
        cases h1
      have h2 := wpOp_putIf hoj (hfree j oj hoj hji hjun hnot) (fun cs b => hsel i oi cs b hi) (fun cs b => hsel j oj cs b hoj) hQ hy h1
      have hfree' : ∀ k ok, ops[k]? = some ok → k ≠ i → (listed.setIfInBounds j true).getD k true = false →
          (∀ e ∈ ok.after, Region.binds md e = true → e.on ≠ i) → oi.apart ops ok = true := fun k ok hk hki hun hno => by
        refine hfree k ok hk hki ?_ hno
        by_cases hjk : j = k
        · subst hjk; exact hjun
        · rw [getD_set_ne true hjk] at hun; exact hun
      refine wpOp_mono (fun a' w' h3 => ⟨h3.2.1, ih (listed.setIfInBounds j true) a' w' hfree' (ready_mono hr (Ne.symm hji)) (YieldsIf.stayB h3.1 (h3.2.1 hjn)) ?_⟩) h2
      rw [Array.setIfInBounds_comm _ _ hji]
      exact h3.2.2

/-- the reads, and then any order; what lies below B stays -/
def wpRd (B : Nat) (P : Program) (ops : Array Oper) (Q : Exit → Act → World → Prop) : List Nat → Nat → Array Bool → Act → World → Prop
  | [], m, listed, a, w => wpRB B P .any ops Q ops.size m listed a w
  | i :: rest, m, listed, a, w => ∃ o v, ops[i]? = some o ∧ YieldsIf P ops (fun x => Below B w x) o v a ∧ wpRd B P ops Q rest m (listed.setIfInBounds i true) (a.put o.dst v) w

def readsB (ops : Array Oper) : List Nat → Array Bool → Bool
  | [], _ => true
  | i :: rest, listed => (Region.ready .any ops listed).contains i && Region.free .any ops listed i && readsB ops rest (listed.setIfInBounds i true)

theorem wpR_of_reads (hsel : Region.noSelect ops = true) (hQ2 : ∀ c a o u w, Q (.panic c) (a.put o u) w → Q (.panic c) a w) :
    ∀ (is : List Nat) (m : Nat) (listed : Array Bool) (a : Act) (w : World), readsB ops is listed = true → wpRd B P ops Q is m listed a w → wpRB B P .any ops Q ops.size (is.length + m) listed a w
  | [], m, listed, a, w, _, h => by rw [List.length_nil, Nat.zero_add]; exact h
  | i :: is, m, listed, a, w, hB, h => by
    simp only [readsB, Bool.and_eq_true] at hB
    obtain ⟨⟨h1, h2⟩, h3⟩ := hB
    obtain ⟨o, v, ho, hy, h⟩ := h
    have h1 : i ∈ Region.ready .any ops listed := by simpa using h1
    have hrec := wpR_of_reads hsel hQ2 is m (listed.setIfInBounds i true) (a.put o.dst v) w h3 h
    rw [show (i :: is).length + m = (is.length + m) + 1 by rw [List.length_cons]; omega]
    exact wpR_firstK ho (Region.noSelect_spec hsel) (fun c a w => hQ2 c a o.dst v w) _ _ _ w (Region.free_spec ho h2) h1 hy hrec

/-- THE BEGINNING -/
theorem wp_region_reads {id : Nat} {a : Act} {w : World} (B : Nat) (is : List Nat) (m : Nat)
    (hm : P.follows .mixedOrders = true) (hsz : ops.size = is.length + m) (hsel : Region.noSelect ops = true) (hB : readsB ops is (Array.replicate ops.size false) = true)
    (hQ2 : ∀ c a o u w, Q (.panic c) (a.put o u) w → Q (.panic c) a w)
    (h : wpRd B P ops Q is m (Array.replicate ops.size false) a w.drew) : (Code.region id ops true).wp P Q a w := by
  have := wpR_of_reads hsel hQ2 is m (Array.replicate ops.size false) a w.drew hB h
  rw [← hsz] at this
  exact wp_region_any hm (wpAny_of_RB _ _ _ _ this)

theorem wpRd_yield {i m : Nat} {rest : List Nat} {o : Oper} {v : Value} {listed : Array Bool} {a : Act} {w : World} (hi : ops.toList[i]? = some o)
    (hw : Region.wanted o (yielded ops a.tmps) = true) (hy : ∀ x, Below B w x → (execOp a.eval o).run P x = .ok (.value v) x)
    (h : wpRd B P ops Q rest m (listed.setIfInBounds i true) (a.put o.dst v) w) : wpRd B P ops Q (i :: rest) m listed a w :=
  ⟨o, v, by rw [← Array.getElem?_toList]; exact hi, Or.inl ⟨hw, hy⟩, h⟩

theorem wpRd_nil {m : Nat} {listed : Array Bool} {a : Act} {w : World} (h : wpRB B P .any ops Q ops.size m listed a w) : wpRd B P ops Q [] m listed a w := h

/-- one comes up alone -/
theorem wpR_one {n fuel i : Nat} {o : Oper} {listed : Array Bool} {a : Act} {w : World} (hr : Region.ready md ops listed = [i]) (hi : ops.toList[i]? = some o) (hg : o.guard = none)
    (h : ∀ K : Act → World → Prop, (∀ a' w', Below B w w' → wpRB B P md ops Q n fuel (listed.setIfInBounds i true) a' w' → K a' w') → o.wp P a w K Q) : wpRB B P md ops Q n (fuel + 1) listed a w := by
  have hw : Region.wanted o (yielded ops a.tmps) = true := by simp [Region.wanted, hg]
  rw [Array.getElem?_toList] at hi
  refine ⟨fun h0 => (by rw [hr] at h0; cases h0), fun j hj => ?_⟩
  rw [hr] at hj
  obtain rfl : j = i := by simpa using hj
  unfold wpOp
  simp only [hi, hw, if_true]
  exact .inl (h _ fun a' w' h1 h2 => ⟨fun _ => h1, h2⟩)

/-- one of two comes up -/
theorem wpR_two {n fuel i j : Nat} {o o' : Oper} {listed : Array Bool} {a : Act} {w : World} (hr : Region.ready md ops listed = [i, j]) (hi : ops.toList[i]? = some o) (hj : ops.toList[j]? = some o') (hg : o.guard = none) (hg' : o'.guard = none)
    (h : ∀ K : Act → World → Prop, (∀ a' w', Below B w w' → wpRB B P md ops Q n fuel (listed.setIfInBounds i true) a' w' → K a' w') → o.wp P a w K Q)
    (h' : ∀ K : Act → World → Prop, (∀ a' w', Below B w w' → wpRB B P md ops Q n fuel (listed.setIfInBounds j true) a' w' → K a' w') → o'.wp P a w K Q) : wpRB B P md ops Q n (fuel + 1) listed a w := by
  have hw : Region.wanted o (yielded ops a.tmps) = true := by simp [Region.wanted, hg]
  have hw' : Region.wanted o' (yielded ops a.tmps) = true := by simp [Region.wanted, hg']
  rw [Array.getElem?_toList] at hi hj
  refine ⟨fun h0 => (by rw [hr] at h0; cases h0), fun k hk => ?_⟩
  rw [hr] at hk
  simp only [List.mem_cons, List.not_mem_nil, or_false] at hk
  rcases hk with rfl | rfl
  · unfold wpOp
    simp only [hi, hw, if_true]
    exact .inl (h _ fun a' w' h1 h2 => ⟨fun _ => h1, h2⟩)
  · unfold wpOp
    simp only [hj, hw', if_true]
    exact .inl (h' _ fun a' w' h1 h2 => ⟨fun _ => h1, h2⟩)

theorem put_comm {d1 d2 : Tmp} (h : d1 ≠ d2) (u v : Value) (a : Act) : (a.put (some d2) u).put (some d1) v = (a.put (some d1) v).put (some d2) u := by
  simp only [Act.put]
  rw [Array.setIfInBounds_comm _ _ (Ne.symm h)]

/-- two variables are made, in either order -/
theorem wpR_allocs {n fuel i j : Nat} {d1 d2 : Tmp} {Z1 Z2 : Obj} {o o' : Oper} {listed : Array Bool} {a : Act} {w : World} (hij : i ≠ j) (hr : Region.ready md ops listed = [i, j]) (hri : Region.ready md ops (listed.setIfInBounds i true) = [j]) (hrj : Region.ready md ops (listed.setIfInBounds j true) = [i])
    (hi : ops.toList[i]? = some o) (hj : ops.toList[j]? = some o') (hg : o.guard = none) (hg' : o'.guard = none) (hd : o.dst = some d1) (hd' : o'.dst = some d2) (hne : d1 ≠ d2)
    (hBw : B ≤ w.heap.size) (run : ∀ (a : Act) (w : World), (execOp a.eval o).run P w = .ok (.value (.pointer (some ⟨w.heap.size, 0, none⟩))) (w.alloc Z1)) (run' : ∀ (a : Act) (w : World), (execOp a.eval o').run P w = .ok (.value (.pointer (some ⟨w.heap.size, 0, none⟩))) (w.alloc Z2))
    (h : ∀ (b1 b2 : Nat) (w' : World), w.heap.size ≤ b1 → w.heap.size ≤ b2 → b1 ≠ b2 → w'.heap[b1]? = some Z1 → w'.heap[b2]? = some Z2 → Below w.heap.size w w' →
      wpRB B P md ops Q n fuel ((listed.setIfInBounds i true).setIfInBounds j true) ((a.put (some d1) (.pointer (some ⟨b1, 0, none⟩))).put (some d2) (.pointer (some ⟨b2, 0, none⟩))) w') : wpRB B P md ops Q n (fuel + 1 + 1) listed a w := by
  have hb : ∀ (x : World) (Z : Obj), Below x.heap.size x (x.alloc Z) := fun x Z => (Below.refl _ _).alloc (Nat.le_refl _) _
  have hB : ∀ (x : World) (Z : Obj), w.heap.size ≤ x.heap.size → Below B x (x.alloc Z) := fun x Z hx => (Below.refl _ _).alloc (Nat.le_trans hBw hx) _
  refine wpR_two hr hi hj hg hg' (fun K hK => ?_) (fun K hK => ?_)
  · unfold Oper.wp
    simp only [run, Oper.upon, hd]
    refine hK _ _ (hB _ _ (Nat.le_refl _)) (wpR_one hri hj hg' (fun K hK => ?_))
    unfold Oper.wp
    simp only [run', Oper.upon, hd']
    refine hK _ _ (hB _ _ (by simp)) ?_
    exact h w.heap.size (w.alloc Z1).heap.size _ (Nat.le_refl _) (by simp) (by simp) (((hb (w.alloc Z1) Z2).block w.heap.size (by simp)).trans (heap_alloc_new w Z1)) (heap_alloc_new _ Z2) ((hb w Z1).trans ((hb (w.alloc Z1) Z2).mono (by simp)))
  · unfold Oper.wp
    simp only [run', Oper.upon, hd']
    refine hK _ _ (hB _ _ (Nat.le_refl _)) (wpR_one hrj hi hg (fun K hK => ?_))
    unfold Oper.wp
    simp only [run, Oper.upon, hd]
    refine hK _ _ (hB _ _ (by simp)) ?_
    rw [put_comm hne, Array.setIfInBounds_comm _ _ (Ne.symm hij)]
    exact h (w.alloc Z2).heap.size w.heap.size _ (by simp) (Nat.le_refl _) (by simp) (heap_alloc_new _ Z1) (((hb (w.alloc Z2) Z1).block w.heap.size (by simp)).trans (heap_alloc_new w Z2)) ((hb w Z2).trans ((hb (w.alloc Z2) Z1).mono (by simp)))

theorem wpR_end {n : Nat} {listed : Array Bool} {a : Act} {w : World} (hr : Region.ready md ops listed = []) (h : Q .normal a w) : wpRB B P md ops Q n 0 listed a w := ⟨hr, h⟩

end
end Go.Proofs.Ytkfkdkoohnfgaaa
