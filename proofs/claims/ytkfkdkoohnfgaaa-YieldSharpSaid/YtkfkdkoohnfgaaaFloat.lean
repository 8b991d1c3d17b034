/-
  DERIVED. A region that draws its order, holds calls that only make memory, AND makes one variable of its own (number k), which may come up at any time among the calls: one walk serves every order; where the variable lies is left open till the end.
-/
import Derived.Test.YtkfkdkoohnfgaaaRegion
namespace Go.Proofs.Ytkfkdkoohnfgaaa
open Go.RowKit

section
variable {P : Program} {ops : Array Oper} {Q : Exit → Act → World → Prop} {md : Region.Mode}

/-- the walk in the chosen order, the variable left aside; C: what is known of the variable's block -/
def wpF (P : Program) (ops : Array Oper) (Q : Exit → Act → World → Prop) (n : Nat) (d : Tmp) (Z : Obj) : (Nat → Prop) → List (Nat × Bool) → Act → World → Prop
  | C, [], a, w => ∀ b w', C b → Below w.heap.size w w' → w'.heap[b]? = some Z → wpList P ops Q (ops.toList.drop n) (a.put (some d) (.pointer (some ⟨b, 0, none⟩))) w'
  | C, (i, true) :: rest, a, w => ∃ o v, ops[i]? = some o ∧ YieldsIf P ops (fun x => Below w.heap.size w x) o v a ∧ wpF P ops Q n d Z C rest (a.put o.dst v) w
  | C, (i, false) :: rest, a, w => ∀ x, Below w.heap.size w x → wpOp P ops Q i (fun a' w' => Below x.heap.size x w' ∧ wpF P ops Q n d Z (fun b => C b ∧ (b < x.heap.size ∨ w'.heap.size ≤ b)) rest a' w') a x

/-- the order serves, the variable (number k) wherever it comes up -/
def ordFB (md : Region.Mode) (ops : Array Oper) (n k : Nat) (ok : Oper) : List (Nat × Bool) → Array Bool → Bool
  | [], listed => decide (Region.ready md ops listed = [k]) && Region.seqB md ops (ops.size - n) n (listed.setIfInBounds k true)
  | (i, t) :: rest, listed =>
    (if t then (Region.ready md ops listed).contains i && Region.free md ops listed i && Region.free md ops (listed.setIfInBounds k true) i
      else (Region.ready md ops listed).all (fun j => j == i || j == k) && (Region.ready md ops listed).contains i && decide (Region.ready md ops (listed.setIfInBounds k true) = [i])) &&
    decide (i < n) && decide (i ≠ k) && (match ops[i]? with | some o => ok.apart ops o | none => false) && (Region.ready md ops listed).contains k && ordFB md ops n k ok rest (listed.setIfInBounds i true)

theorem wpOp_put {j : Nat} {oj : Oper} {d : Tmp} {u : Value} (hj : ops[j]? = some oj) (h1 : d ∉ oj.looksAt ops) (h2 : oj.dst ≠ some d)
    (hsj : ∀ cs b, oj.op ≠ .select cs b) (hQ : ∀ c a w, Q (.panic c) a w → Q (.panic c) (a.put (some d) u) w) {K K' : Act → World → Prop} {a : Act} {w : World}
    (hK : ∀ a' w', K a' w' → K' (a'.put (some d) u) w') (h : wpOp P ops Q j K a w) : wpOp P ops Q j K' (a.put (some d) u) w := by
  have h1' : ∀ e, some d = some e → e ∉ oj.looksAt ops := fun e he => by cases he; exact h1
  have h2' : ∀ e, (some d : Option Tmp) = some e → oj.dst ≠ some e := fun e he => by cases he; exact h2
  unfold wpOp at *
  simp only [hj] at *
  rw [wanted_put oj a (some d) u h1']
  split
  · rename_i hw
    simp only [hw, if_true] at h
    rcases h with h | ⟨hasks, hlets⟩
    case inr => exact .inr ⟨by unfold Oper.asks at *; rw [execOp_put oj hsj a (some d) u h1']; exact hasks, hlets⟩
    refine .inl ?_
    unfold Oper.wp at *
    rw [execOp_put oj hsj a (some d) u h1']
    generalize (execOp a.eval oj).run P w = r at *
    cases r with
    | ok n w' =>
      cases n <;> simp only [Oper.upon] at h ⊢
      case value v => rw [Act.put_comm a u v h2']; exact hK _ _ h
      case skip => rw [Act.put_comm a u undef h2']; exact hK _ _ h
      case defer e =>
        rw [Act.put_defers, Act.put_comm _ u undef h2']
        exact hK _ _ h
      case enter f args =>
        refine Calls.mono h fun e w'' he => ?_
        cases e with
        | returned v =>
          show K' ((a.put (some d) u).put oj.dst v) w''
          rw [Act.put_comm a u v h2']
          exact hK _ _ he
        | panicked c => exact hQ _ _ _ he
        | outgrown => exact he
      case row row args => exact Rows.mono h fun v w'' he => by rw [Act.put_comm a u v h2']; exact hK _ _ he
    | halt x w' =>
      cases x <;> simp only [Oper.upon] at h ⊢
      case panic v => exact hQ _ _ _ h
  · rename_i hw
    simp only [hw] at h
    rw [Act.put_comm a u undef h2']
    exact hK _ _ h

theorem apart_out {x y : Oper} {d : Tmp} (hx : x.dst = some d) (h : x.apart ops y = true) : d ∉ y.looksAt ops ∧ y.dst ≠ some d :=
  let ⟨h1, h2, _⟩ := Oper.apart_spec h; ⟨h1 d hx, h2 d hx⟩

/-- behind the variable -/
theorem wpR_of_F_done {n k : Nat} {ok : Oper} {d : Tmp} {Z : Obj} (hd : ok.dst = some d) (hsel : Region.noSelect ops = true) (hs : Region.sinkB md ops n = true) (hc : Region.chainB md ops n = true) (hn : n < ops.size)
    (hQ : ∀ c a u w, Q (.panic c) a w → Q (.panic c) (a.put (some d) u) w) (hQ2 : ∀ c a o u w, Q (.panic c) (a.put o u) w → Q (.panic c) a w) (b : Nat) :
    ∀ (ord : List (Nat × Bool)) (C : Nat → Prop) (listed : Array Bool) (a : Act) (w x : World), C b → HeadInv md ops n (listed.setIfInBounds k true) → ordFB md ops n k ok ord listed = true → wpF P ops Q n d Z C ord a w →
      Below w.heap.size w x → x.heap[b]? = some Z →
      wpR P md ops Q n (ord.length + (ops.size - n)) (listed.setIfInBounds k true) (a.put (some d) (.pointer (some ⟨b, 0, none⟩))) x
  | [], C, listed, a, w, x, hC, inv, hB, h, hb, hbl => by
    simp only [ordFB, Bool.and_eq_true, decide_eq_true_eq] at hB
    have := wpR_of_seq (md := md) (n := n) (Q' := Q) (ops.toList.drop n) n (listed.setIfInBounds k true) _ x (Nat.le_refl _) (fun j => by simp [List.getElem?_drop]) (by simpa using hB.2) (h b x hC hb hbl)
    simpa using this
  | (i, true) :: rest, C, listed, a, w, x, hC, inv, hB, h, hb, hbl => by
    obtain ⟨o, v, ho, hy, h⟩ := h
    simp only [ordFB, if_true, Bool.and_eq_true, decide_eq_true_eq, ho] at hB
    obtain ⟨⟨⟨⟨⟨⟨⟨h1, h2⟩, h2'⟩, h3⟩, h4⟩, h5⟩, h6⟩, h7⟩ := hB
    have hr : i ∈ Region.ready md ops listed := by simpa using h1
    have hr' : i ∈ Region.ready md ops (listed.setIfInBounds k true) := ready_mono hr h4
    obtain ⟨p1, p2⟩ := apart_out (ops := ops) hd h5
    have hsame : YieldsIf P ops (fun y => Below x.heap.size x y) o v (a.put (some d) (.pointer (some ⟨b, 0, none⟩))) :=
      (YieldsIf.stay hy hb).of_same (execOp_put o (fun cs e => Region.noSelect_spec hsel i o cs e ho) a (some d) _ (fun e he => by cases he; exact p1)) (wanted_put o a (some d) _ (fun e he => by cases he; exact p1))
    have hrec := wpR_of_F_done hd hsel hs hc hn hQ hQ2 b rest C (listed.setIfInBounds i true) (a.put o.dst v) w x hC (by rw [Array.setIfInBounds_comm _ _ h4]; exact inv.set hr' h3) h7 h hb hbl
    rw [Array.setIfInBounds_comm _ _ h4, Act.put_comm a (x := o.dst) (y := some d) v _ (fun e he => by rw [he] at p2; exact fun h => p2 h.symm)] at hrec
    have := wpR_first ho (Region.noSelect_spec hsel) hs hc hn h3 (fun c a w => hQ2 c a o.dst v w) _ _ _ x inv (Region.free_spec ho h2') hr' hsame hrec
    rw [List.length_cons, show rest.length + 1 + (ops.size - n) = rest.length + (ops.size - n) + 1 by omega]
    exact this
  | (i, false) :: rest, C, listed, a, w, x, hC, inv, hB, h, hb, hbl => by
    cases ho : ops[i]? with
    | none => simp [ordFB, ho] at hB
    | some o =>
    simp only [ordFB, Bool.false_eq_true, if_false, Bool.and_eq_true, decide_eq_true_eq, ho] at hB
    obtain ⟨⟨⟨⟨⟨⟨⟨h1, h1'⟩, h2⟩, h3⟩, h4⟩, h5⟩, h6⟩, h7⟩ := hB
    have hr' : i ∈ Region.ready md ops (listed.setIfInBounds k true) := by rw [h2]; simp
    obtain ⟨p1, p2⟩ := apart_out (ops := ops) hd h5
    rw [List.length_cons, show rest.length + 1 + (ops.size - n) = rest.length + (ops.size - n) + 1 by omega]
    refine ⟨fun h0 => (by rw [h0] at h2; cases h2), fun j hj => ?_⟩
    rw [h2] at hj
    obtain rfl : j = i := by simpa using hj
    refine wpOp_put ho p1 p2 (fun cs e => Region.noSelect_spec hsel j o cs e ho) (fun c a w => hQ c a _ w) (fun a' w' h' => ?_) (h x hb)
    have hlt := lt_of_block hbl
    refine ⟨fun _ => h'.1, ?_⟩
    have hrec := wpR_of_F_done hd hsel hs hc hn hQ hQ2 b rest _ (listed.setIfInBounds j true) a' w' w' ⟨hC, Or.inl hlt⟩ (by rw [Array.setIfInBounds_comm _ _ h4]; exact inv.set hr' h3) h7 h'.2 (Below.refl _ _) ((h'.1.block b hlt).trans hbl)
    rw [Array.setIfInBounds_comm _ _ h4] at hrec
    exact hrec

/-- ahead of the variable -/
theorem wpR_of_F {n k : Nat} {ok : Oper} {d : Tmp} {Z : Obj} (hk : ops[k]? = some ok) (hd : ok.dst = some d) (hg : ok.guard = none) (hkn : k < n)
    (hrun : ∀ (a : Act) (w : World), (execOp a.eval ok).run P w = .ok (.value (.pointer (some ⟨w.heap.size, 0, none⟩))) (w.alloc Z))
    (hsel : Region.noSelect ops = true) (hs : Region.sinkB md ops n = true) (hc : Region.chainB md ops n = true) (hn : n < ops.size)
    (hQ : ∀ c a u w, Q (.panic c) a w → Q (.panic c) (a.put (some d) u) w) (hQ2 : ∀ c a o u w, Q (.panic c) (a.put o u) w → Q (.panic c) a w) :
    ∀ (ord : List (Nat × Bool)) (C : Nat → Prop) (listed : Array Bool) (a : Act) (w : World), (∀ b, w.heap.size ≤ b → C b) → HeadInv md ops n listed → k ∈ Region.ready md ops listed → ordFB md ops n k ok ord listed = true →
      wpF P ops Q n d Z C ord a w → wpR P md ops Q n (ord.length + (ops.size - n) + 1) listed a w := by
  intro ord
  have hbelow : ∀ w : World, Below w.heap.size w (w.alloc Z) := fun w => (Below.refl _ _).alloc (Nat.le_refl _) _
  have hnew : ∀ w : World, (w.alloc Z).heap[w.heap.size]? = some Z := fun w => heap_alloc_new _ _
  have hstep : ∀ (K : Act → World → Prop) (a : Act) (w : World), K (a.put (some d) (.pointer (some ⟨w.heap.size, 0, none⟩))) (w.alloc Z) → wpOp P ops Q k K a w := fun K a w h => by
    have hw : Region.wanted ok (yielded ops a.tmps) = true := by simp [Region.wanted, hg]
    unfold wpOp
    simp only [hk, hw, if_true, Oper.wp, hrun, Oper.upon, hd]
    exact .inl h
  induction ord with
  | nil =>
    intro C listed a w hC inv hkr hB h
    have hB' := hB
    simp only [ordFB, Bool.and_eq_true, decide_eq_true_eq] at hB
    refine ⟨fun h0 => (by rw [h0] at hkr; cases hkr), fun j hj => ?_⟩
    rw [hB.1] at hj
    obtain rfl : j = k := by simpa using hj
    refine hstep _ _ _ ⟨fun _ => hbelow w, ?_⟩
    exact wpR_of_F_done hd hsel hs hc hn hQ hQ2 w.heap.size [] C listed a w _ (hC _ (Nat.le_refl _)) (inv.set hkr hkn) hB' h (hbelow w) (hnew w)
  | cons p rest ih =>
    obtain ⟨i, t⟩ := p
    intro C listed a w hC inv hkr hB h
    have hB' := hB
    have hdone : wpOp P ops Q k (fun a' w' => (k < n → Below w.heap.size w w') ∧ wpR P md ops Q n (((i, t) :: rest).length + (ops.size - n)) (listed.setIfInBounds k true) a' w') a w :=
      hstep _ _ _ ⟨fun _ => hbelow w, wpR_of_F_done hd hsel hs hc hn hQ hQ2 w.heap.size _ C listed a w _ (hC _ (Nat.le_refl _)) (inv.set hkr hkn) hB' h (hbelow w) (hnew w)⟩
    cases t with
    | true =>
      obtain ⟨o, v, ho, hy, h⟩ := h
      simp only [ordFB, if_true, Bool.and_eq_true, decide_eq_true_eq, ho] at hB
      obtain ⟨⟨⟨⟨⟨⟨⟨h1, h2⟩, h2'⟩, h3⟩, h4⟩, h5⟩, h6⟩, h7⟩ := hB
      have hr : i ∈ Region.ready md ops listed := by simpa using h1
      have hrec := ih C (listed.setIfInBounds i true) (a.put o.dst v) w hC (inv.set hr h3) (ready_mono hkr (Ne.symm h4)) h7 h
      have := wpR_first ho (Region.noSelect_spec hsel) hs hc hn h3 (fun c a w => hQ2 c a o.dst v w) _ _ _ w inv (Region.free_spec ho h2) hr hy hrec
      rw [List.length_cons, show rest.length + 1 + (ops.size - n) + 1 = rest.length + (ops.size - n) + 1 + 1 by omega]
      exact this
    | false =>
      cases ho : ops[i]? with
      | none => simp [ordFB, ho] at hB
      | some o =>
      simp only [ordFB, Bool.false_eq_true, if_false, Bool.and_eq_true, decide_eq_true_eq, ho] at hB
      obtain ⟨⟨⟨⟨⟨⟨⟨h1, h1'⟩, h2⟩, h3⟩, h4⟩, h5⟩, h6⟩, h7⟩ := hB
      have hr : i ∈ Region.ready md ops listed := by simpa using h1'
      refine ⟨fun h0 => (by rw [h0] at hkr; cases hkr), fun j hj => ?_⟩
      have hjj := List.all_eq_true.1 h1 j hj
      simp only [Bool.or_eq_true, beq_iff_eq] at hjj
      by_cases hjk : j = k
      · subst hjk; exact hdone
      · obtain rfl : j = i := hjj.resolve_right hjk
        refine wpOp_mono (fun a' w' h' => ⟨fun _ => h'.1, ?_⟩) (h w (Below.refl _ _))
        have hrec := ih _ (listed.setIfInBounds j true) a' w' (fun b hb => ⟨hC b (Nat.le_trans h'.1.size hb), Or.inr hb⟩) (inv.set hr h3) (ready_mono hkr (Ne.symm h4)) h7 h'.2
        rw [List.length_cons, show rest.length + 1 + (ops.size - n) = rest.length + (ops.size - n) + 1 by omega]
        exact hrec

/-- a closed fact -/
def floatB (md : Region.Mode) (ops : Array Oper) (n k : Nat) (ok : Oper) (ord : List (Nat × Bool)) : Bool :=
  Region.noSelect ops && decide (n < ops.size) && decide (ord.length + 1 = n) && decide (k < n) && Region.sinkB md ops n && Region.chainB md ops n && (Region.ready md ops (Array.replicate ops.size false)).contains k && ordFB md ops n k ok ord (Array.replicate ops.size false)

/-- THE BEGINNING -/
theorem wp_region_float {id : Nat} {a : Act} {w : World} (n k : Nat) (ord : List (Nat × Bool)) (ok : Oper) (d : Tmp) (Z : Obj) (hk : ops.toList[k]? = some ok) (hd : ok.dst = some d) (hg : ok.guard = none)
    (hm : P.follows .mixedOrders = true) (hB : floatB .any ops n k ok ord = true)
    (hrun : ∀ (a : Act) (w : World), (execOp a.eval ok).run P w = .ok (.value (.pointer (some ⟨w.heap.size, 0, none⟩))) (w.alloc Z))
    (hQ : ∀ c a u w, Q (.panic c) a w → Q (.panic c) (a.put (some d) u) w) (hQ2 : ∀ c a o u w, Q (.panic c) (a.put o u) w → Q (.panic c) a w)
    (h : wpF P ops Q n d Z (fun b => w.heap.size ≤ b) ord a w.drew) : (Code.region id ops true).wp P Q a w := by
  simp only [floatB, Bool.and_eq_true, decide_eq_true_eq] at hB
  obtain ⟨⟨⟨⟨⟨⟨⟨hsel, hn⟩, hl⟩, hkn⟩, hs⟩, hc⟩, hr⟩, ho⟩ := hB
  have inv0 : HeadInv .any ops n (Array.replicate ops.size false) :=
    ⟨by simp, fun j oj _ hl => (by rw [getD_replicate_false] at hl; cases hl), fun t _ ht => getD_in (by simpa using ht) (getD_replicate_false _ _)⟩
  have := wpR_of_F (P := P) (Q := Q) (md := .any) (by rw [← Array.getElem?_toList]; exact hk) hd hg hkn hrun hsel hs hc hn hQ hQ2 ord _ _ a w.drew (fun b hb => hb) inv0 (by simpa using hr) ho h
  rw [show ord.length + (ops.size - n) + 1 = ops.size by omega] at this
  exact wp_region_any hm (wpAny_of_R _ _ _ _ this)

theorem wpF_yield {n i d : Nat} {Z : Obj} {C : Nat → Prop} {rest : List (Nat × Bool)} {o : Oper} {v : Value} {a : Act} {w : World} (hi : ops.toList[i]? = some o)
    (hw : Region.wanted o (yielded ops a.tmps) = true) (hy : ∀ x, Below w.heap.size w x → (execOp a.eval o).run P x = .ok (.value v) x)
    (h : wpF P ops Q n d Z C rest (a.put o.dst v) w) : wpF P ops Q n d Z C ((i, true) :: rest) a w :=
  ⟨o, v, by rw [← Array.getElem?_toList]; exact hi, Or.inl ⟨hw, hy⟩, h⟩

theorem wpF_step {n i d : Nat} {Z : Obj} {C : Nat → Prop} {rest : List (Nat × Bool)} {o : Oper} {a : Act} {w : World} (hi : ops.toList[i]? = some o) (hg : o.guard = none)
    (h : ∀ x, Below w.heap.size w x → ∀ K : Act → World → Prop, (∀ a' w', Below x.heap.size x w' → wpF P ops Q n d Z (fun b => C b ∧ (b < x.heap.size ∨ w'.heap.size ≤ b)) rest a' w' → K a' w') → o.wp P a x K Q) :
    wpF P ops Q n d Z C ((i, false) :: rest) a w := by
  have hw : Region.wanted o (yielded ops a.tmps) = true := by simp [Region.wanted, hg]
  rw [Array.getElem?_toList] at hi
  intro x hx
  unfold wpOp
  simp only [hi, hw, if_true]
  exact .inl (h x hx _ fun a' w' h1 h2 => ⟨h1, h2⟩)

theorem wpF_nil {n d : Nat} {Z : Obj} {C : Nat → Prop} {a : Act} {w : World} {l : List Oper} (hl : ops.toList.drop n = l)
    (h : ∀ b w', C b → Below w.heap.size w w' → w'.heap[b]? = some Z → wpList P ops Q l (a.put (some d) (.pointer (some ⟨b, 0, none⟩))) w') : wpF P ops Q n d Z C [] a w := by
  subst hl; exact h

end
end Go.Proofs.Ytkfkdkoohnfgaaa
