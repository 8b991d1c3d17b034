/-
  DERIVED. Several texts in one: Float, Floats, LongD, LongE, YieldA, RowL, Only, RegionB, Reads, ReadsL, YieldB.
-/
import Derived.Test.YthommhfppeonpaaGreatDoorGaa
import Derived.Deep.DeepMust
import Derived.Deep.RegionHeld3
import Derived.Deep.AppendLies
import Derived.WalkKit
import Derived.OrdersHeld
import Derived.StillTail
namespace Go.Proofs.YthommhfppeonpaaGreatDoor
open Go.RowKit

section
variable {P : Program} {ops : Array Oper} {Q : Exit → Act → World → Prop} {md : Region.Mode}

/-- the walk in the chosen order, the variable left aside; C: what is known of the variable's block -/
def wpF (P : Program) (ops : Array Oper) (Q : Exit → Act → World → Prop) (n : Nat) (d : Tmp) (Z : Obj) : (Nat → Prop) → List (Nat × Bool) → Act → World → Prop
  | C, [], a, w => ∀ b w', C b → Below w.heap.size w w' → w'.heap[b]? = some Z → wpList P ops Q (ops.toList.drop n) (a.put (some d) (.pointer (some ⟨b, 0, none⟩))) w'
  | C, (i, true) :: rest, a, w => ∃ o v, ops[i]? = some o ∧ YieldsIf P ops (fun x => Below w.heap.size w x) o v a ∧ wpF P ops Q n d Z C rest (a.put o.dst v) w
  | C, (i, false) :: rest, a, w => ∀ x, Below w.heap.size w x → wpOp P ops Q i (fun a' w' => Below x.heap.size x w' ∧ wpF P ops Q n d Z (fun b => C b ∧ (b < x.heap.size ∨ w'.heap.size ≤ b)) rest a' w') a x

/-- the order serves, the variable (number k) wherever it comes up -/
def ordFB (md : Region.Mode) (ops : Array Oper) (n k : Nat) (ok : Oper) : List (Nat × Bool) → Array Bool → Bool
  | [], listed => decide (Region.ready md ops listed = [k]) && Region.seqB md ops (ops.size - n) n (listed.setIfInBounds k true)
  | (i, t) :: rest, listed =>
    (if t then (Region.ready md ops listed).contains i && Region.free md ops listed i && Region.free md ops (listed.setIfInBounds k true) i
      else (Region.ready md ops listed).all (fun j => j == i || j == k) && (Region.ready md ops listed).contains i && decide (Region.ready md ops (listed.setIfInBounds k true) = [i])) &&
    decide (i < n) && decide (i ≠ k) && (match ops[i]? with | some o => ok.apart ops o | none => false) && (Region.ready md ops listed).contains k && ordFB md ops n k ok rest (listed.setIfInBounds i true)

theorem wpOp_put {j : Nat} {oj : Oper} {d : Tmp} {u : Value} (hj : ops[j]? = some oj) (h1 : d ∉ oj.looksAt ops) (h2 : oj.dst ≠ some d)
    (hsj : ∀ cs b, oj.op ≠ .select cs b) (hQ : ∀ c a w, Q (.panic c) a w → Q (.panic c) (a.put (some d) u) w) {K K' : Act → World → Prop} {a : Act} {w : World}
    (hK : ∀ a' w', K a' w' → K' (a'.put (some d) u) w') (h : wpOp P ops Q j K a w) : wpOp P ops Q j K' (a.put (some d) u) w := by
  have h1' : ∀ e, some d = some e → e ∉ oj.looksAt ops := fun e he => by cases he; exact h1
  have h2' : ∀ e, (some d : Option Tmp) = some e → oj.dst ≠ some e := fun e he => by cases he; exact h2
  unfold wpOp at *
  simp only [hj] at *
  rw [wanted_put oj a (some d) u h1']
  split
  · rename_i hw
    simp only [hw, if_true] at h
    rcases h with h | ⟨hasks, hlets⟩
    case inr => exact .inr ⟨by unfold Oper.asks at *; rw [execOp_put oj hsj a (some d) u h1']; exact hasks, hlets⟩
    refine .inl ?_
    unfold Oper.wp at *
    rw [execOp_put oj hsj a (some d) u h1']
    generalize (execOp a.eval oj).run P w = r at *
    cases r with
    | ok n w' =>
      cases n <;> simp only [Oper.upon] at h ⊢
      case value v => rw [Act.put_comm a u v h2']; exact hK _ _ h
      case skip => rw [Act.put_comm a u undef h2']; exact hK _ _ h
      case defer e =>
        rw [Act.put_defers, Act.put_comm _ u undef h2']
        exact hK _ _ h
      case enter f args =>
        refine Calls.mono h fun e w'' he => ?_
        cases e with
        | returned v =>
          show K' ((a.put (some d) u).put oj.dst v) w''
          rw [Act.put_comm a u v h2']
          exact hK _ _ he
        | panicked c => exact hQ _ _ _ he
        | outgrown => exact he
      case row row args => exact Rows.mono h fun v w'' he => by rw [Act.put_comm a u v h2']; exact hK _ _ he
    | halt x w' =>
      cases x <;> simp only [Oper.upon] at h ⊢
      case panic v => exact hQ _ _ _ h
  · rename_i hw
    simp only [hw] at h
    rw [Act.put_comm a u undef h2']
    exact hK _ _ h

theorem apart_out {x y : Oper} {d : Tmp} (hx : x.dst = some d) (h : x.apart ops y = true) : d ∉ y.looksAt ops ∧ y.dst ≠ some d :=
  let ⟨h1, h2, _⟩ := Oper.apart_spec h; ⟨h1 d hx, h2 d hx⟩

/-- behind the variable -/
theorem wpR_of_F_done {n k : Nat} {ok : Oper} {d : Tmp} {Z : Obj} (hd : ok.dst = some d) (hsel : Region.noSelect ops = true) (hs : Region.sinkB md ops n = true) (hc : Region.chainB md ops n = true) (hn : n < ops.size)
    (hQ : ∀ c a u w, Q (.panic c) a w → Q (.panic c) (a.put (some d) u) w) (hQ2 : ∀ c a o u w, Q (.panic c) (a.put o u) w → Q (.panic c) a w) (b : Nat) :
    ∀ (ord : List (Nat × Bool)) (C : Nat → Prop) (listed : Array Bool) (a : Act) (w x : World), C b → HeadInv md ops n (listed.setIfInBounds k true) → ordFB md ops n k ok ord listed = true → wpF P ops Q n d Z C ord a w →
      Below w.heap.size w x → x.heap[b]? = some Z →
      wpR P md ops Q n (ord.length + (ops.size - n)) (listed.setIfInBounds k true) (a.put (some d) (.pointer (some ⟨b, 0, none⟩))) x
  | [], C, listed, a, w, x, hC, inv, hB, h, hb, hbl => by
    simp only [ordFB, Bool.and_eq_true, decide_eq_true_eq] at hB
    have := wpR_of_seq (md := md) (n := n) (Q' := Q) (ops.toList.drop n) n (listed.setIfInBounds k true) _ x (Nat.le_refl _) (fun j => by simp [List.getElem?_drop]) (by simpa using hB.2) (h b x hC hb hbl)
    simpa using this
  | (i, true) :: rest, C, listed, a, w, x, hC, inv, hB, h, hb, hbl => by
    obtain ⟨o, v, ho, hy, h⟩ := h
    simp only [ordFB, if_true, Bool.and_eq_true, decide_eq_true_eq, ho] at hB
    obtain ⟨⟨⟨⟨⟨⟨⟨h1, h2⟩, h2'⟩, h3⟩, h4⟩, h5⟩, h6⟩, h7⟩ := hB
    have hr : i ∈ Region.ready md ops listed := by simpa using h1
    have hr' : i ∈ Region.ready md ops (listed.setIfInBounds k true) := ready_mono hr h4
    obtain ⟨p1, p2⟩ := apart_out (ops := ops) hd h5
    have hsame : YieldsIf P ops (fun y => Below x.heap.size x y) o v (a.put (some d) (.pointer (some ⟨b, 0, none⟩))) :=
      (YieldsIf.stay hy hb).of_same (execOp_put o (fun cs e => Region.noSelect_spec hsel i o cs e ho) a (some d) _ (fun e he => by cases he; exact p1)) (wanted_put o a (some d) _ (fun e he => by cases he; exact p1))
    have hrec := wpR_of_F_done hd hsel hs hc hn hQ hQ2 b rest C (listed.setIfInBounds i true) (a.put o.dst v) w x hC (by rw [Array.setIfInBounds_comm _ _ h4]; exact inv.set hr' h3) h7 h hb hbl
    rw [Array.setIfInBounds_comm _ _ h4, Act.put_comm a (x := o.dst) (y := some d) v _ (fun e he => by rw [he] at p2; exact fun h => p2 h.symm)] at hrec
    have := wpR_first ho (Region.noSelect_spec hsel) hs hc hn h3 (fun c a w => hQ2 c a o.dst v w) _ _ _ x inv (Region.free_spec ho h2') hr' hsame hrec
    rw [List.length_cons, show rest.length + 1 + (ops.size - n) = rest.length + (ops.size - n) + 1 by omega]
    exact this
  | (i, false) :: rest, C, listed, a, w, x, hC, inv, hB, h, hb, hbl => by
    cases ho : ops[i]? with
    | none => simp [ordFB, ho] at hB
    | some o =>
    simp only [ordFB, Bool.false_eq_true, if_false, Bool.and_eq_true, decide_eq_true_eq, ho] at hB
    obtain ⟨⟨⟨⟨⟨⟨⟨h1, h1'⟩, h2⟩, h3⟩, h4⟩, h5⟩, h6⟩, h7⟩ := hB
    have hr' : i ∈ Region.ready md ops (listed.setIfInBounds k true) := by rw [h2]; simp
    obtain ⟨p1, p2⟩ := apart_out (ops := ops) hd h5
    rw [List.length_cons, show rest.length + 1 + (ops.size - n) = rest.length + (ops.size - n) + 1 by omega]
    refine ⟨fun h0 => (by rw [h0] at h2; cases h2), fun j hj => ?_⟩
    rw [h2] at hj
    obtain rfl : j = i := by simpa using hj
    refine wpOp_put ho p1 p2 (fun cs e => Region.noSelect_spec hsel j o cs e ho) (fun c a w => hQ c a _ w) (fun a' w' h' => ?_) (h x hb)
    have hlt := lt_of_block hbl
    refine ⟨fun _ => h'.1, ?_⟩
    have hrec := wpR_of_F_done hd hsel hs hc hn hQ hQ2 b rest _ (listed.setIfInBounds j true) a' w' w' ⟨hC, Or.inl hlt⟩ (by rw [Array.setIfInBounds_comm _ _ h4]; exact inv.set hr' h3) h7 h'.2 (Below.refl _ _) ((h'.1.block b hlt).trans hbl)
    rw [Array.setIfInBounds_comm _ _ h4] at hrec
    exact hrec

/-- ahead of the variable -/
theorem wpR_of_F {n k : Nat} {ok : Oper} {d : Tmp} {Z : Obj} (hk : ops[k]? = some ok) (hd : ok.dst = some d) (hg : ok.guard = none) (hkn : k < n)
    (hrun : ∀ (a : Act) (w : World), (execOp a.eval ok).run P w = .ok (.value (.pointer (some ⟨w.heap.size, 0, none⟩))) (w.alloc Z))
    (hsel : Region.noSelect ops = true) (hs : Region.sinkB md ops n = true) (hc : Region.chainB md ops n = true) (hn : n < ops.size)
    (hQ : ∀ c a u w, Q (.panic c) a w → Q (.panic c) (a.put (some d) u) w) (hQ2 : ∀ c a o u w, Q (.panic c) (a.put o u) w → Q (.panic c) a w) :
    ∀ (ord : List (Nat × Bool)) (C : Nat → Prop) (listed : Array Bool) (a : Act) (w : World), (∀ b, w.heap.size ≤ b → C b) → HeadInv md ops n listed → k ∈ Region.ready md ops listed → ordFB md ops n k ok ord listed = true →
      wpF P ops Q n d Z C ord a w → wpR P md ops Q n (ord.length + (ops.size - n) + 1) listed a w := by
  intro ord
  have hbelow : ∀ w : World, Below w.heap.size w (w.alloc Z) := fun w => (Below.refl _ _).alloc (Nat.le_refl _) _
  have hnew : ∀ w : World, (w.alloc Z).heap[w.heap.size]? = some Z := fun w => heap_alloc_new _ _
  have hstep : ∀ (K : Act → World → Prop) (a : Act) (w : World), K (a.put (some d) (.pointer (some ⟨w.heap.size, 0, none⟩))) (w.alloc Z) → wpOp P ops Q k K a w := fun K a w h => by
    have hw : Region.wanted ok (yielded ops a.tmps) = true := by simp [Region.wanted, hg]
    unfold wpOp
    simp only [hk, hw, if_true, Oper.wp, hrun, Oper.upon, hd]
    exact .inl h
  induction ord with
  | nil =>
    intro C listed a w hC inv hkr hB h
    have hB' := hB
    simp only [ordFB, Bool.and_eq_true, decide_eq_true_eq] at hB
    refine ⟨fun h0 => (by rw [h0] at hkr; cases hkr), fun j hj => ?_⟩
    rw [hB.1] at hj
    obtain rfl : j = k := by simpa using hj
    refine hstep _ _ _ ⟨fun _ => hbelow w, ?_⟩
    exact wpR_of_F_done hd hsel hs hc hn hQ hQ2 w.heap.size [] C listed a w _ (hC _ (Nat.le_refl _)) (inv.set hkr hkn) hB' h (hbelow w) (hnew w)
  | cons p rest ih =>
    obtain ⟨i, t⟩ := p
    intro C listed a w hC inv hkr hB h
    have hB' := hB
    have hdone : wpOp P ops Q k (fun a' w' => (k < n → Below w.heap.size w w') ∧ wpR P md ops Q n (((i, t) :: rest).length + (ops.size - n)) (listed.setIfInBounds k true) a' w') a w :=
      hstep _ _ _ ⟨fun _ => hbelow w, wpR_of_F_done hd hsel hs hc hn hQ hQ2 w.heap.size _ C listed a w _ (hC _ (Nat.le_refl _)) (inv.set hkr hkn) hB' h (hbelow w) (hnew w)⟩
    cases t with
    | true =>
      obtain ⟨o, v, ho, hy, h⟩ := h
      simp only [ordFB, if_true, Bool.and_eq_true, decide_eq_true_eq, ho] at hB
      obtain ⟨⟨⟨⟨⟨⟨⟨h1, h2⟩, h2'⟩, h3⟩, h4⟩, h5⟩, h6⟩, h7⟩ := hB
      have hr : i ∈ Region.ready md ops listed := by simpa using h1
      have hrec := ih C (listed.setIfInBounds i true) (a.put o.dst v) w hC (inv.set hr h3) (ready_mono hkr (Ne.symm h4)) h7 h
      have := wpR_first ho (Region.noSelect_spec hsel) hs hc hn h3 (fun c a w => hQ2 c a o.dst v w) _ _ _ w inv (Region.free_spec ho h2) hr hy hrec
      rw [List.length_cons, show rest.length + 1 + (ops.size - n) + 1 = rest.length + (ops.size - n) + 1 + 1 by omega]
      exact this
    | false =>
      cases ho : ops[i]? with
      | none => simp [ordFB, ho] at hB
      | some o =>
      simp only [ordFB, Bool.false_eq_true, if_false, Bool.and_eq_true, decide_eq_true_eq, ho] at hB
      obtain ⟨⟨⟨⟨⟨⟨⟨h1, h1'⟩, h2⟩, h3⟩, h4⟩, h5⟩, h6⟩, h7⟩ := hB
      have hr : i ∈ Region.ready md ops listed := by simpa using h1'
      refine ⟨fun h0 => (by rw [h0] at hkr; cases hkr), fun j hj => ?_⟩
      have hjj := List.all_eq_true.1 h1 j hj
      simp only [Bool.or_eq_true, beq_iff_eq] at hjj
      by_cases hjk : j = k
      · subst hjk; exact hdone
      · obtain rfl : j = i := hjj.resolve_right hjk
        refine wpOp_mono (fun a' w' h' => ⟨fun _ => h'.1, ?_⟩) (h w (Below.refl _ _))
        have hrec := ih _ (listed.setIfInBounds j true) a' w' (fun b hb => ⟨hC b (Nat.le_trans h'.1.size hb), Or.inr hb⟩) (inv.set hr h3) (ready_mono hkr (Ne.symm h4)) h7 h'.2
        rw [List.length_cons, show rest.length + 1 + (ops.size - n) = rest.length + (ops.size - n) + 1 by omega]
        exact hrec

/-- a closed fact -/
def floatB (md : Region.Mode) (ops : Array Oper) (n k : Nat) (ok : Oper) (ord : List (Nat × Bool)) : Bool :=
  Region.noSelect ops && decide (n < ops.size) && decide (ord.length + 1 = n) && decide (k < n) && Region.sinkB md ops n && Region.chainB md ops n && (Region.ready md ops (Array.replicate ops.size false)).contains k && ordFB md ops n k ok ord (Array.replicate ops.size false)

/-- THE BEGINNING -/
theorem wp_region_float {id : Nat} {a : Act} {w : World} (n k : Nat) (ord : List (Nat × Bool)) (ok : Oper) (d : Tmp) (Z : Obj) (hk : ops.toList[k]? = some ok) (hd : ok.dst = some d) (hg : ok.guard = none)
    (hm : P.follows .mixedOrders = true) (hB : floatB .any ops n k ok ord = true)
    (hrun : ∀ (a : Act) (w : World), (execOp a.eval ok).run P w = .ok (.value (.pointer (some ⟨w.heap.size, 0, none⟩))) (w.alloc Z))
    (hQ : ∀ c a u w, Q (.panic c) a w → Q (.panic c) (a.put (some d) u) w) (hQ2 : ∀ c a o u w, Q (.panic c) (a.put o u) w → Q (.panic c) a w)
    (h : wpF P ops Q n d Z (fun b => w.heap.size ≤ b) ord a w.drew) : (Code.region id ops true).wp P Q a w := by
  simp only [floatB, Bool.and_eq_true, decide_eq_true_eq] at hB
  obtain ⟨⟨⟨⟨⟨⟨⟨hsel, hn⟩, hl⟩, hkn⟩, hs⟩, hc⟩, hr⟩, ho⟩ := hB
  have inv0 : HeadInv .any ops n (Array.replicate ops.size false) :=
    ⟨by simp, fun j oj _ hl => (by rw [getD_replicate_false] at hl; cases hl), fun t _ ht => getD_in (by simpa using ht) (getD_replicate_false _ _)⟩
  have := wpR_of_F (P := P) (Q := Q) (md := .any) (by rw [← Array.getElem?_toList]; exact hk) hd hg hkn hrun hsel hs hc hn hQ hQ2 ord _ _ a w.drew (fun b hb => hb) inv0 (by simpa using hr) ho h
  rw [show ord.length + (ops.size - n) + 1 = ops.size by omega] at this
  exact wp_region_any hm (wpAny_of_R _ _ _ _ this)

theorem wpF_yield {n i d : Nat} {Z : Obj} {C : Nat → Prop} {rest : List (Nat × Bool)} {o : Oper} {v : Value} {a : Act} {w : World} (hi : ops.toList[i]? = some o)
    (hw : Region.wanted o (yielded ops a.tmps) = true) (hy : ∀ x, Below w.heap.size w x → (execOp a.eval o).run P x = .ok (.value v) x)
    (h : wpF P ops Q n d Z C rest (a.put o.dst v) w) : wpF P ops Q n d Z C ((i, true) :: rest) a w :=
  ⟨o, v, by rw [← Array.getElem?_toList]; exact hi, Or.inl ⟨hw, hy⟩, h⟩

theorem wpF_step {n i d : Nat} {Z : Obj} {C : Nat → Prop} {rest : List (Nat × Bool)} {o : Oper} {a : Act} {w : World} (hi : ops.toList[i]? = some o) (hg : o.guard = none)
    (h : ∀ x, Below w.heap.size w x → ∀ K : Act → World → Prop, (∀ a' w', Below x.heap.size x w' → wpF P ops Q n d Z (fun b => C b ∧ (b < x.heap.size ∨ w'.heap.size ≤ b)) rest a' w' → K a' w') → o.wp P a x K Q) :
    wpF P ops Q n d Z C ((i, false) :: rest) a w := by
  have hw : Region.wanted o (yielded ops a.tmps) = true := by simp [Region.wanted, hg]
  rw [Array.getElem?_toList] at hi
  intro x hx
  unfold wpOp
  simp only [hi, hw, if_true]
  exact .inl (h x hx _ fun a' w' h1 h2 => ⟨h1, h2⟩)

theorem wpF_nil {n d : Nat} {Z : Obj} {C : Nat → Prop} {a : Act} {w : World} {l : List Oper} (hl : ops.toList.drop n = l)
    (h : ∀ b w', C b → Below w.heap.size w w' → w'.heap[b]? = some Z → wpList P ops Q l (a.put (some d) (.pointer (some ⟨b, 0, none⟩))) w') : wpF P ops Q n d Z C [] a w := by
  subst hl; exact h

end
end Go.Proofs.YthommhfppeonpaaGreatDoor

namespace Go.Proofs.YthommhfppeonpaaGreatDoor
open Go.RowKit

section
variable {P : Program} {ops : Array Oper} {Q : Exit → Act → World → Prop} {md : Region.Mode}

theorem getD_set_true (l : Array Bool) (k : Nat) : (l.setIfInBounds k true).getD k true = true := by
  rw [Array.getD_eq_getD_getElem?, Array.getElem?_setIfInBounds, if_pos rfl]
  split <;> rfl

/-- the variables: number of the operation, slot, what is made -/
def putS : List (Nat × Tmp × Obj) → List (Option Nat) → Act → Act
  | (_, d, _) :: fs, some b :: os, a => putS fs os (a.put (some d) (.pointer (some ⟨b, 0, none⟩)))
  | _ :: fs, none :: os, a => putS fs os a
  | _, _, a => a
def setS : List (Nat × Tmp × Obj) → List (Option Nat) → Array Bool → Array Bool
  | (k, _, _) :: fs, some _ :: os, l => setS fs os (l.setIfInBounds k true)
  | _ :: fs, none :: os, l => setS fs os l
  | _, _, l => l

theorem setS_set (k : Nat) : ∀ (fs : List (Nat × Tmp × Obj)) (os : List (Option Nat)) (l : Array Bool), setS fs os (l.setIfInBounds k true) = (setS fs os l).setIfInBounds k true
  | [], _, _ => by simp [setS]
  | _ :: _, [], _ => by simp [setS]
  | (k', d, Z) :: fs, none :: os, l => by simp only [setS]; exact setS_set k fs os l
  | (k', d, Z) :: fs, some b :: os, l => by
    simp only [setS]
    by_cases h : k = k'
    · subst h
      rw [← setS_set k fs os]
    · rw [Array.setIfInBounds_comm _ _ h, setS_set k fs os]

theorem putS_put {x : Option Tmp} {v : Value} : ∀ (fs : List (Nat × Tmp × Obj)) (os : List (Option Nat)) (a : Act), (∀ f ∈ fs, x ≠ some f.2.1) → putS fs os (a.put x v) = (putS fs os a).put x v
  | [], _, _, _ => by simp [putS]
  | _ :: _, [], _, _ => by simp [putS]
  | (k', d, Z) :: fs, none :: os, a, h => by simp only [putS]; exact putS_put fs os a (fun f hf => h f (List.mem_cons_of_mem _ hf))
  | (k', d, Z) :: fs, some b :: os, a, h => by
    simp only [putS]
    have := h _ (List.mem_cons_self ..)
    rw [Act.put_comm a (x := x) (y := some d) v _ (fun e he => by rw [he] at this; exact fun h => this h.symm), putS_put fs os _ (fun f hf => h f (List.mem_cons_of_mem _ hf))]

theorem putS_fire {b : Nat} : ∀ (fs : List (Nat × Tmp × Obj)) (os : List (Option Nat)) (a : Act) (j : Nat) (f : Nat × Tmp × Obj), fs[j]? = some f → os[j]? = some none → (fs.map fun f => f.2.1).Nodup →
    putS fs (os.set j (some b)) a = (putS fs os a).put (some f.2.1) (.pointer (some ⟨b, 0, none⟩))
  | [], _, _, _, _, h, _, _ => by simp at h
  | _ :: _, [], _, _, _, _, h, _ => by simp at h
  | (k', d, Z) :: fs, o :: os, a, 0, f, h1, h2, hn => by
    simp at h1 h2
    subst h1 h2
    simp only [List.set_cons_zero, putS]
    refine putS_put fs os a (fun f hf e => ?_)
    simp only [List.map_cons, List.nodup_cons] at hn
    exact hn.1 (List.mem_map.2 ⟨f, hf, by cases e; rfl⟩)
  | (k', d, Z) :: fs, o :: os, a, j + 1, f, h1, h2, hn => by
    simp only [List.getElem?_cons_succ] at h1 h2
    simp only [List.map_cons, List.nodup_cons] at hn
    simp only [List.set_cons_succ]
    cases o with
    | none => simp only [putS]; exact putS_fire fs os a j f h1 h2 hn.2
    | some c => simp only [putS]; exact putS_fire fs os _ j f h1 h2 hn.2

theorem setS_fire {b : Nat} : ∀ (fs : List (Nat × Tmp × Obj)) (os : List (Option Nat)) (l : Array Bool) (j : Nat) (f : Nat × Tmp × Obj), fs[j]? = some f → os[j]? = some none →
    setS fs (os.set j (some b)) l = (setS fs os l).setIfInBounds f.1 true
  | [], _, _, _, _, h, _ => by simp at h
  | _ :: _, [], _, _, _, _, h => by simp at h
  | (k', d, Z) :: fs, o :: os, l, 0, f, h1, h2 => by
    simp at h1 h2
    subst h1 h2
    simp only [List.set_cons_zero, setS]
    exact setS_set k' fs os l
  | (k', d, Z) :: fs, o :: os, l, j + 1, f, h1, h2 => by
    simp only [List.getElem?_cons_succ] at h1 h2
    simp only [List.set_cons_succ]
    cases o with
    | none => simp only [setS]; exact setS_fire fs os l j f h1 h2
    | some c => simp only [setS]; exact setS_fire fs os _ j f h1 h2

/-- all of them made -/
def fullS (fs : List (Nat × Tmp × Obj)) (l : Array Bool) : Array Bool := fs.foldl (fun l f => l.setIfInBounds f.1 true) l

theorem ready_S {j : Nat} : ∀ (fs : List (Nat × Tmp × Obj)) (os : List (Option Nat)) (l : Array Bool), (∀ (i b : Nat) (f : Nat × Tmp × Obj), fs[i]? = some f → os[i]? = some (some b) → j ≠ f.1) → j ∈ Region.ready md ops l → j ∈ Region.ready md ops (setS fs os l)
  | [], _, _, _, h => by simpa [setS] using h
  | _ :: _, [], _, _, h => by simpa [setS] using h
  | (k, d, Z) :: fs, none :: os, l, hn, h => by simp only [setS]; exact ready_S fs os l (fun i b f h1 h2 => hn (i + 1) b f (by simpa using h1) (by simpa using h2)) h
  | (k, d, Z) :: fs, some b :: os, l, hn, h => by
    simp only [setS]; exact ready_S fs os _ (fun i b f h1 h2 => hn (i + 1) b f (by simpa using h1) (by simpa using h2)) (ready_mono h (hn 0 b (k, d, Z) rfl rfl))

theorem setS_fired {b : Nat} : ∀ (fs : List (Nat × Tmp × Obj)) (os : List (Option Nat)) (l : Array Bool) (j : Nat) (f : Nat × Tmp × Obj), fs[j]? = some f → os[j]? = some (some b) → (setS fs os l).getD f.1 true = true
  | [], _, _, _, _, h, _ => by simp at h
  | _ :: _, [], _, _, _, _, h => by simp at h
  | (k', d, Z) :: fs, o :: os, l, 0, f, h1, h2 => by
    simp at h1 h2
    subst h1 h2
    simp only [setS, setS_set]
    exact getD_set_true _ _
  | (k', d, Z) :: fs, o :: os, l, j + 1, f, h1, h2 => by
    simp only [List.getElem?_cons_succ] at h1 h2
    cases o with
    | none => simp only [setS]; exact setS_fired fs os l j f h1 h2
    | some c => simp only [setS]; exact setS_fired fs os _ j f h1 h2

theorem fullS_set (k : Nat) : ∀ (fs : List (Nat × Tmp × Obj)) (l : Array Bool), fullS fs (l.setIfInBounds k true) = (fullS fs l).setIfInBounds k true
  | [], _ => rfl
  | (k', d, Z) :: fs, l => by
    show fullS fs ((l.setIfInBounds k true).setIfInBounds k' true) = (fullS fs (l.setIfInBounds k' true)).setIfInBounds k true
    by_cases h : k = k'
    · subst h
      rw [← fullS_set k fs]
    · rw [Array.setIfInBounds_comm _ _ h, fullS_set k fs]

theorem ready_full {j : Nat} : ∀ (fs : List (Nat × Tmp × Obj)) (os : List (Option Nat)) (l : Array Bool), (∀ f ∈ fs, j ≠ f.1) → j ∈ Region.ready md ops (setS fs os l) → j ∈ Region.ready md ops (fullS fs l)
  | [], _, _, _, h => by simpa [setS, fullS] using h
  | (k, d, Z) :: fs, [], l, hn, h => by
    show j ∈ Region.ready md ops (fullS fs (l.setIfInBounds k true))
    rw [fullS_set]
    exact ready_mono (ready_full fs [] l (fun f hf => hn f (List.mem_cons_of_mem _ hf)) (by cases fs <;> simpa [setS] using h)) (hn _ (List.mem_cons_self ..))
  | (k, d, Z) :: fs, none :: os, l, hn, h => by
    show j ∈ Region.ready md ops (fullS fs (l.setIfInBounds k true))
    rw [fullS_set]
    exact ready_mono (ready_full fs os l (fun f hf => hn f (List.mem_cons_of_mem _ hf)) h) (hn _ (List.mem_cons_self ..))
  | (k, d, Z) :: fs, some b :: os, l, hn, h => ready_full fs os _ (fun f hf => hn f (List.mem_cons_of_mem _ hf)) h

theorem setS_all : ∀ (fs : List (Nat × Tmp × Obj)) (bs : List Nat) (l : Array Bool), bs.length = fs.length → setS fs (bs.map some) l = fullS fs l
  | [], [], _, _ => rfl
  | [], b :: bs, _, h => by simp at h
  | f :: fs, [], _, h => by simp at h
  | (k, d, Z) :: fs, b :: bs, l, h => by
    show setS fs (bs.map some) (l.setIfInBounds k true) = fullS fs (l.setIfInBounds k true)
    exact setS_all fs bs _ (by simpa using h)

/-- the slots of the variables are apart from the operation -/
def apartS (ops : Array Oper) (fs : List (Nat × Tmp × Obj)) (o : Oper) : Bool :=
  fs.all fun f => match ops[f.1]? with | some ok => decide (ok.dst = some f.2.1) && ok.apart ops o | none => false

theorem apartS_out {fs : List (Nat × Tmp × Obj)} {o : Oper} (h : apartS ops fs o = true) : ∀ f ∈ fs, f.2.1 ∉ o.looksAt ops ∧ o.dst ≠ some f.2.1 := fun f hf => by
  have := List.all_eq_true.1 h f hf
  cases hk : ops[f.1]? with
  | none => simp [hk] at this
  | some ok =>
    simp only [hk, Bool.and_eq_true, decide_eq_true_eq] at this
    exact apart_out this.1 this.2

theorem execOp_putS (o : Oper) (hsel : ∀ cs b, o.op ≠ .select cs b) : ∀ (fs : List (Nat × Tmp × Obj)) (os : List (Option Nat)) (a : Act), (∀ f ∈ fs, f.2.1 ∉ o.looksAt ops) →
    execOp (putS fs os a).eval o = execOp a.eval o ∧ Region.wanted o (yielded ops (putS fs os a).tmps) = Region.wanted o (yielded ops a.tmps)
  | [], _, _, _ => by simp [putS]
  | _ :: _, [], _, _ => by simp [putS]
  | (k', d, Z) :: fs, none :: os, a, h => by simp only [putS]; exact execOp_putS o hsel fs os a (fun f hf => h f (List.mem_cons_of_mem _ hf))
  | (k', d, Z) :: fs, some b :: os, a, h => by
    simp only [putS]
    obtain ⟨h1, h2⟩ := execOp_putS o hsel fs os (a.put (some d) (.pointer (some ⟨b, 0, none⟩))) (fun f hf => h f (List.mem_cons_of_mem _ hf))
    have hd := h _ (List.mem_cons_self ..)
    exact ⟨h1.trans (execOp_put o hsel a (some d) _ (fun e he => by cases he; exact hd)), h2.trans (wanted_put o a (some d) _ (fun e he => by cases he; exact hd))⟩

theorem wpOp_putS {j : Nat} {oj : Oper} (hj : ops[j]? = some oj) (hsj : ∀ cs b, oj.op ≠ .select cs b) (hQ : ∀ c a d u w, Q (.panic c) a w → Q (.panic c) (a.put (some d) u) w) :
    ∀ (fs : List (Nat × Tmp × Obj)) (os : List (Option Nat)) {K K' : Act → World → Prop} {a : Act} {w : World}, (∀ f ∈ fs, f.2.1 ∉ oj.looksAt ops ∧ oj.dst ≠ some f.2.1) →
    (∀ a' w', K a' w' → K' (putS fs os a') w') → wpOp P ops Q j K a w → wpOp P ops Q j K' (putS fs os a) w
  | [], _, _, _, _, _, _, hK, h => by simp only [putS] at *; exact wpOp_mono hK h
  | _ :: _, [], _, _, _, _, _, hK, h => by simp only [putS] at *; exact wpOp_mono hK h
  | (k', d, Z) :: fs, none :: os, _, _, _, _, hap, hK, h => by
    simp only [putS] at *
    exact wpOp_putS hj hsj hQ fs os (fun f hf => hap f (List.mem_cons_of_mem _ hf)) hK h
  | (k', d, Z) :: fs, some b :: os, K, K', a, w, hap, hK, h => by
    simp only [putS] at *
    obtain ⟨p1, p2⟩ := hap _ (List.mem_cons_self ..)
    refine wpOp_putS (K := fun a' w' => ∃ a'', a' = a''.put (some d) (.pointer (some ⟨b, 0, none⟩)) ∧ K a'' w') hj hsj hQ fs os (fun f hf => hap f (List.mem_cons_of_mem _ hf)) (fun a' w' ⟨a'', e, h'⟩ => by subst e; exact hK a'' w' h') ?_
    exact wpOp_put hj p1 p2 hsj (fun c a w => hQ c a d _ w) (fun a' w' h' => ⟨a', rfl, h'⟩) h

/-- j waits for i at first hand -/
def directB (md : Region.Mode) (ops : Array Oper) (j i : Nat) : Bool := match ops[j]? with | some o => o.after.any fun e => Region.binds md e && e.on == i | none => false
/-- .. at first or second hand -/
def reachB (md : Region.Mode) (ops : Array Oper) (j i : Nat) : Bool :=
  directB md ops j i || (match ops[j]? with | some o => o.after.any fun e => Region.binds md e && directB md ops e.on i | none => false)
/-- each of the last operations waits for each of the first that is not listed in pu (those read nothing) -/
def sinkP (md : Region.Mode) (ops : Array Oper) (n : Nat) (pu : List Nat) : Bool :=
  (List.range ops.size).all fun j => decide (j < n) || ((List.range n).all fun i => pu.contains i || reachB md ops j i)

theorem direct_listed {i j : Nat} {listed : Array Bool} (h : directB md ops j i = true) (hl : ∀ oj, ops[j]? = some oj → ∀ e ∈ oj.after, Region.binds md e = true → listed.getD e.on false = true) : listed.getD i false = true := by
  unfold directB at h
  cases ho : ops[j]? with
  | none => simp [ho] at h
  | some o =>
    rw [ho] at h
    obtain ⟨e, he, h3⟩ := Array.any_eq_true'.1 h
    simp only [Bool.and_eq_true, beq_iff_eq] at h3
    have h4 := hl o ho e he h3.1
    rwa [h3.2] at h4

theorem tail_waitsP {n i : Nat} {pu : List Nat} (hs : sinkP md ops n pu = true) (hin : i < n) (hp : pu.contains i = false) {listed : Array Bool} (inv : HeadInv md ops ops.size listed) (hun : listed.getD i true = false) (j : Nat) (hj : n ≤ j) : j ∉ Region.ready md ops listed := fun hr => by
  obtain ⟨_, oj, hoj, hall⟩ := mem_ready.1 hr
  have hlt : j < ops.size := (Array.getElem?_eq_some_iff.1 hoj).1
  have h1 := List.all_eq_true.1 hs j (List.mem_range.2 hlt)
  simp only [Bool.or_eq_true, decide_eq_true_eq] at h1
  rcases h1 with h1 | h1
  · omega
  have h2 := List.all_eq_true.1 h1 i (List.mem_range.2 hin)
  rw [hp, Bool.false_or] at h2
  unfold reachB at h2
  have hl : ∀ o, ops[j]? = some o → ∀ e ∈ o.after, Region.binds md e = true → listed.getD e.on false = true := fun o ho e he hb => by
    rw [hoj] at ho; cases ho; exact hall e he hb
  have hli : listed.getD i false = true := by
    rcases Bool.or_eq_true _ _ ▸ h2 with h2 | h2
    · exact direct_listed h2 hl
    · rw [hoj] at h2
      obtain ⟨e, he, h3⟩ := Array.any_eq_true'.1 h2
      simp only [Bool.and_eq_true] at h3
      exact direct_listed h3.2 (fun o ho => inv.closed e.on o ho (hall e he h3.1))
  rw [getD_both hun] at hli
  cases hli

theorem YieldsIf.stayP {pure : Bool} {o : Oper} {v : Value} {a : Act} {w w' : World} (h : YieldsIf P ops (fun x => pure = true ∨ Below w.heap.size w x) o v a) (hb : pure = true ∨ Below w.heap.size w w') :
    YieldsIf P ops (fun x => pure = true ∨ Below w'.heap.size w' x) o v a :=
  h.imp (fun ⟨h1, h2⟩ => ⟨h1, fun x hx => h2 x (by
    rcases hb with hb | hb
    · exact Or.inl hb
    · rcases hx with hx | hx
      · exact Or.inl hx
      · exact Or.inr (hb.trans (hx.mono hb.size)))⟩) id

theorem wpR_firstP {n i : Nat} {oi : Oper} {v : Value} {pure : Bool} (hi : ops[i]? = some oi) (hsel : ∀ (j : Nat) (o : Oper) cs b, ops[j]? = some o → o.op ≠ .select cs b)
    (hwait : pure = false → ∀ listed : Array Bool, HeadInv md ops ops.size listed → listed.getD i true = false → ∀ j, n ≤ j → j ∉ Region.ready md ops listed)
    (hQ : ∀ c a w, Q (.panic c) (a.put oi.dst v) w → Q (.panic c) a w) :
    ∀ (fuel : Nat) (listed : Array Bool) (a : Act) (w : World), HeadInv md ops ops.size listed →
      (∀ j oj, ops[j]? = some oj → j ≠ i → listed.getD j true = false → (∀ e ∈ oj.after, Region.binds md e = true → e.on ≠ i) → oi.apart ops oj = true) →
      i ∈ Region.ready md ops listed → YieldsIf P ops (fun x => pure = true ∨ Below w.heap.size w x) oi v a →
      wpR P md ops Q n fuel (listed.setIfInBounds i true) (a.put oi.dst v) w → wpR P md ops Q n (fuel + 1) listed a w := by
  intro fuel
  induction fuel with
  | zero =>
    intro listed a w _ _ hr hy H
    refine ⟨fun h => (by rw [h] at hr; cases hr), fun j hj => ?_⟩
    by_cases hji : j = i
    · subst hji; exact hy.wpOp hi (Or.inr (Below.refl _ _)) ⟨fun _ => Below.refl _ _, H⟩
    · have := ready_mono hj hji
      rw [H.1] at this
      cases this
  | succ fuel ih =>
    intro listed a w inv hfree hr hy H
    have hun := (mem_ready.1 hr).1
    refine ⟨fun h => (by rw [h] at hr; cases hr), fun j hj => ?_⟩
    by_cases hji : j = i
    · subst hji; exact hy.wpOp hi (Or.inr (Below.refl _ _)) ⟨fun _ => Below.refl _ _, H⟩
    · have h1 := H.2 j (ready_mono hj hji)
      obtain ⟨hjun, oj, hoj, hall⟩ := mem_ready.1 hj
      have hnot : ∀ e ∈ oj.after, Region.binds md e = true → e.on ≠ i := fun e he hb heq => by
        have h1 := hall e he hb
        rw [heq, getD_both hun] at h1
        cases h1
      have h2 := wpOp_putIf hoj (hfree j oj hoj hji hjun hnot) (fun cs b => hsel i oi cs b hi) (fun cs b => hsel j oj cs b hoj) hQ hy h1
      have hfree' : ∀ k ok, ops[k]? = some ok → k ≠ i → (listed.setIfInBounds j true).getD k true = false →
          (∀ e ∈ ok.after, Region.binds md e = true → e.on ≠ i) → oi.apart ops ok = true := fun k ok hk hki hun hno => by
        refine hfree k ok hk hki ?_ hno
        by_cases hjk : j = k
        · subst hjk; exact hjun
        · rw [getD_set_ne true hjk] at hun; exact hun
      have hstay : ∀ w', (j < n → Below w.heap.size w w') → (pure = true ∨ Below w.heap.size w w') := fun w' hw => by
        cases hpu : pure with
        | true => exact Or.inl rfl
        | false =>
          refine Or.inr (hw ?_)
          rcases Nat.lt_or_ge j n with h | h
          · exact h
          · exact absurd hj (hwait hpu listed inv hun j h)
      refine wpOp_mono (fun a' w' h3 => ⟨h3.2.1, ih (listed.setIfInBounds j true) a' w' (inv.set hj (Array.getElem?_eq_some_iff.1 hoj).1) hfree' (ready_mono hr (Ne.symm hji)) (YieldsIf.stayP h3.1 (hstay w' h3.2.1)) ?_⟩) h2
      rw [Array.setIfInBounds_comm _ _ hji]
      exact h3.2.2

/-- the walk in the chosen order, the variables left aside; C: what is known of the variables' blocks -/
def wpG (P : Program) (ops : Array Oper) (Q : Exit → Act → World → Prop) (n : Nat) (pu : List Nat) (fs : List (Nat × Tmp × Obj)) : (Nat → Prop) → List (Nat × Bool) → Act → World → Prop
  | C, [], a, w => ∀ (bs : List Nat) w', bs.length = fs.length → (∀ (j b : Nat) (f : Nat × Tmp × Obj), bs[j]? = some b → fs[j]? = some f → C b ∧ w'.heap[b]? = some f.2.2) → (∀ (i j b : Nat), bs[i]? = some b → bs[j]? = some b → i = j) → Below w.heap.size w w' →
      wpList P ops Q (ops.toList.drop n) (putS fs (bs.map some) a) w'
  | C, (i, true) :: rest, a, w => ∃ o v, ops[i]? = some o ∧ YieldsIf P ops (fun x => pu.contains i = true ∨ Below w.heap.size w x) o v a ∧ wpG P ops Q n pu fs C rest (a.put o.dst v) w
  | C, (i, false) :: rest, a, w => ∀ x, Below w.heap.size w x → wpOp P ops Q i (fun a' w' => Below x.heap.size x w' ∧ wpG P ops Q n pu fs (fun b => C b ∧ (b < x.heap.size ∨ w'.heap.size ≤ b)) rest a' w') a x

/-- the order serves, the variables wherever they come up -/
def ordGB (md : Region.Mode) (ops : Array Oper) (n : Nat) (fs : List (Nat × Tmp × Obj)) : List (Nat × Bool) → Array Bool → Bool
  | [], listed => Region.seqB md ops (ops.size - n) n (fullS fs listed)
  | (i, t) :: rest, listed =>
    (Region.ready md ops listed).contains i && (if t then Region.free md ops listed i else decide (Region.ready md ops (fullS fs listed) = [i])) &&
    decide (i < n) && (fs.all fun f => decide (i ≠ f.1)) && (match ops[i]? with | some o => apartS ops fs o | none => false) && ordGB md ops n fs rest (listed.setIfInBounds i true)

/-- what holds of the variables that are made -/
def HeldS (C : Nat → Prop) (x : World) (fs : List (Nat × Tmp × Obj)) (os : List (Option Nat)) : Prop :=
  os.length = fs.length ∧ (∀ (j b : Nat) (f : Nat × Tmp × Obj), os[j]? = some (some b) → fs[j]? = some f → C b ∧ x.heap[b]? = some f.2.2) ∧ (∀ (i j b : Nat), os[i]? = some (some b) → os[j]? = some (some b) → i = j)

theorem free_S {i : Nat} {oi : Oper} {listed : Array Bool} (h : ∀ j oj, ops[j]? = some oj → j ≠ i → listed.getD j true = false → (∀ e ∈ oj.after, Region.binds md e = true → e.on ≠ i) → oi.apart ops oj = true) :
    ∀ (fs : List (Nat × Tmp × Obj)) (os : List (Option Nat)), ∀ j oj, ops[j]? = some oj → j ≠ i → (setS fs os listed).getD j true = false → (∀ e ∈ oj.after, Region.binds md e = true → e.on ≠ i) → oi.apart ops oj = true
  | [], _ => by simpa [setS] using h
  | _ :: _, [] => by simpa [setS] using h
  | (k, d, Z) :: fs, none :: os => by simp only [setS]; exact free_S h fs os
  | (k, d, Z) :: fs, some b :: os => fun j oj hj hji hu he => by
    simp only [setS, setS_set] at hu
    refine free_S h fs os j oj hj hji ?_ he
    by_cases hjk : k = j
    · subst hjk; rw [getD_set_true] at hu; cases hu
    · rwa [getD_set_ne true hjk] at hu

/-- how many are not made yet -/
def pendS (os : List (Option Nat)) : Nat := os.countP fun o => o.isNone

theorem pendS_fire {b : Nat} : ∀ (os : List (Option Nat)) (j : Nat), os[j]? = some none → pendS (os.set j (some b)) + 1 = pendS os
  | [], _, h => by simp at h
  | o :: os, 0, h => by
    simp at h; subst h
    simp [pendS]
  | o :: os, j + 1, h => by
    have := pendS_fire (b := b) os j (by simpa using h)
    unfold pendS at *
    rw [List.set_cons_succ, List.countP_cons, List.countP_cons]
    omega

theorem pendS_zero : ∀ (os : List (Option Nat)), pendS os = 0 → ∃ bs : List Nat, os = bs.map some
  | [], _ => ⟨[], rfl⟩
  | none :: os, h => by simp [pendS] at h
  | some b :: os, h => by
    obtain ⟨bs, e⟩ := pendS_zero os (by simpa [pendS] using h)
    exact ⟨b :: bs, by rw [e]; rfl⟩

theorem pendS_pos : ∀ (os : List (Option Nat)), pendS os ≠ 0 → ∃ j : Nat, os[j]? = some none
  | [], h => by simp [pendS] at h
  | none :: os, h => ⟨0, rfl⟩
  | some b :: os, h => by
    obtain ⟨j, e⟩ := pendS_pos os (by simpa [pendS] using h)
    exact ⟨j + 1, by simpa using e⟩

/-- what is given of the variables -/
def MadeS (P : Program) (ops : Array Oper) (n : Nat) (fs : List (Nat × Tmp × Obj)) : Prop :=
  (fs.map fun f => f.2.1).Nodup ∧ (fs.map fun f => f.1).Nodup ∧ ∀ f ∈ fs, f.1 < n ∧ ∃ ok, ops[f.1]? = some ok ∧ ok.dst = some f.2.1 ∧ ok.guard = none ∧ ∀ (a : Act) (w : World), (execOp a.eval ok).run P w = .ok (.value (.pointer (some ⟨w.heap.size, 0, none⟩))) (w.alloc f.2.2)

theorem nodup_get {fs : List (Nat × Tmp × Obj)} (h : (fs.map fun f => f.1).Nodup) {i j : Nat} {f g : Nat × Tmp × Obj} (hi : fs[i]? = some f) (hj : fs[j]? = some g) (e : f.1 = g.1) : i = j := by
  have h1 : i < (fs.map fun f => f.1).length := by have := (List.getElem?_eq_some_iff.1 hi).1; simpa using this
  have h2 : (fs.map fun f => f.1)[i]? = (fs.map fun f => f.1)[j]? := by
    rw [List.getElem?_map, List.getElem?_map, hi, hj]; simp [e]
  exact (List.getElem?_inj h1 h).1 h2

theorem wpR_of_G {n : Nat} {pu : List Nat} {fs : List (Nat × Tmp × Obj)} (hfs : MadeS P ops n fs) (hfp : ∀ f ∈ fs, pu.contains f.1 = false) (hsel : Region.noSelect ops = true) (hs : sinkP md ops n pu = true) (hn : n ≤ ops.size)
    (hQ : ∀ c a d u w, Q (.panic c) a w → Q (.panic c) (a.put (some d) u) w) (hQ2 : ∀ c a o u w, Q (.panic c) (a.put o u) w → Q (.panic c) a w) :
    ∀ (m : Nat) (ord : List (Nat × Bool)) (C : Nat → Prop) (listed : Array Bool) (os : List (Option Nat)) (a : Act) (w x : World), m = ord.length + pendS os → HeldS C x fs os → (∀ b, x.heap.size ≤ b → C b) → HeadInv md ops ops.size (setS fs os listed) →
      (∀ (j : Nat) (f : Nat × Tmp × Obj), fs[j]? = some f → f.1 ∈ Region.ready md ops listed) → ordGB md ops n fs ord listed = true → wpG P ops Q n pu fs C ord a w →
      Below w.heap.size w x → wpR P md ops Q n (m + (ops.size - n)) (setS fs os listed) (putS fs os a) x := by
  obtain ⟨hnd, hnk, hall⟩ := hfs
  intro m
  induction m with
  | zero =>
    intro ord C listed os a w x hm hheld hfr inv hrd hB h hb
    obtain ⟨bs, rfl⟩ := pendS_zero os (by omega)
    obtain rfl : ord = [] := List.length_eq_zero_iff.1 (by omega)
    have hlen : bs.length = fs.length := by simpa using hheld.1
    rw [setS_all fs bs listed hlen]
    have := wpR_of_seq (md := md) (n := n) (Q' := Q) (ops.toList.drop n) n (fullS fs listed) _ x (Nat.le_refl _) (fun j => by simp [List.getElem?_drop]) (by simpa [ordGB] using hB)
      (h bs x hlen (fun j b f h1 h2 => hheld.2.1 j b f (by simp [h1]) h2) (fun i j b h1 h2 => hheld.2.2 i j b (by simp [h1]) (by simp [h2])) hb)
    simpa using this
  | succ m ih =>
    intro ord C listed os a w x hm hheld hfr inv hrd hB h hb
    -- a variable comes up
    have hfire : ∀ (j : Nat) (f : Nat × Tmp × Obj), fs[j]? = some f → os[j]? = some none →
        wpOp P ops Q f.1 (fun a' w' => (f.1 < n → Below x.heap.size x w') ∧ wpR P md ops Q n (m + (ops.size - n)) ((setS fs os listed).setIfInBounds f.1 true) a' w') (putS fs os a) x := by
      intro j f hj ho
      obtain ⟨hkn, ok, hok, hd, hg, hrun⟩ := hall f (List.mem_of_getElem? hj)
      have hbelow : Below x.heap.size x (x.alloc f.2.2) := (Below.refl _ _).alloc (Nat.le_refl _) _
      have hw : Region.wanted ok (yielded ops (putS fs os a).tmps) = true := by simp [Region.wanted, hg]
      unfold wpOp
      simp only [hok, hw, if_true, Oper.wp, hrun, Oper.upon, hd]
      refine .inl ⟨fun _ => hbelow, ?_⟩
      have hrs : f.1 ∈ Region.ready md ops (setS fs os listed) := ready_S fs os listed (fun i b g h1 h2 e => by
        obtain rfl := nodup_get hnk h1 hj e.symm
        rw [ho] at h2; cases h2) (hrd j f hj)
      have hrec := ih ord C listed (os.set j (some x.heap.size)) a w (x.alloc f.2.2) (by have := pendS_fire (b := x.heap.size) os j ho; omega) ?_ (fun b hb' => hfr b (Nat.le_trans hbelow.size hb')) (by rw [setS_fire fs os listed j f hj ho]; exact inv.set hrs (Array.getElem?_eq_some_iff.1 hok).1) hrd hB h (hb.trans (hbelow.mono hb.size))
      · rwa [setS_fire fs os listed j f hj ho, putS_fire fs os a j f hj ho hnd] at hrec
      · refine ⟨by simpa using hheld.1, fun i b g h1 h2 => ?_, fun i i' b h1 h2 => ?_⟩
        · rw [List.getElem?_set] at h1
          split at h1
          · rename_i e; subst e
            split at h1
            · cases h1
              rw [hj] at h2; cases h2
              exact ⟨hfr _ (Nat.le_refl _), heap_alloc_new _ _⟩
            · cases h1
          · obtain ⟨h3, h4⟩ := hheld.2.1 i b g h1 h2
            exact ⟨h3, (hbelow.block b (lt_of_block h4)).trans h4⟩
        · have hlt : ∀ (i b : Nat), os[i]? = some (some b) → b < x.heap.size := fun i b h3 => by
            have h5 : i < fs.length := by rw [← hheld.1]; exact (List.getElem?_eq_some_iff.1 h3).1
            exact lt_of_block (hheld.2.1 i b fs[i] h3 (List.getElem?_eq_getElem h5)).2
          rw [List.getElem?_set] at h1 h2
          split at h1 <;> split at h2
          · omega
          · split at h1
            · cases h1; have := hlt _ _ h2; omega
            · cases h1
          · split at h2
            · cases h2; have := hlt _ _ h1; omega
            · cases h2
          · exact hheld.2.2 i i' b h1 h2
    -- what comes up is one of the variables, or of the others
    have hcase : ∀ j ∈ Region.ready md ops (setS fs os listed), (∃ (i : Nat) (f : Nat × Tmp × Obj), fs[i]? = some f ∧ os[i]? = some none ∧ j = f.1) ∨ ((∀ f ∈ fs, j ≠ f.1) ∧ j ∈ Region.ready md ops (fullS fs listed)) := by
      intro j hj
      by_cases hk : ∃ f ∈ fs, j = f.1
      · obtain ⟨f, hf, rfl⟩ := hk
        obtain ⟨i, hi⟩ := List.getElem?_of_mem hf
        have hlt : i < os.length := by rw [hheld.1]; exact (List.getElem?_eq_some_iff.1 hi).1
        cases ho : os[i]? with
        | none => rw [List.getElem?_eq_none_iff] at ho; omega
        | some o =>
          cases o with
          | none => exact Or.inl ⟨i, f, hi, ho, rfl⟩
          | some b =>
            have h1 := setS_fired fs os listed i f hi ho
            have h2 := (mem_ready.1 hj).1
            rw [h1] at h2; cases h2
      · have hk' : ∀ f ∈ fs, j ≠ f.1 := fun f hf e => hk ⟨f, hf, e⟩
        exact Or.inr ⟨hk', ready_full fs os listed hk' hj⟩
    have hpend : pendS os ≠ 0 → ∃ (i : Nat) (f : Nat × Tmp × Obj), fs[i]? = some f ∧ os[i]? = some none ∧ f.1 ∈ Region.ready md ops (setS fs os listed) := fun hp => by
      obtain ⟨i, ho⟩ := pendS_pos os hp
      have hlt : i < fs.length := by rw [← hheld.1]; exact (List.getElem?_eq_some_iff.1 ho).1
      refine ⟨i, fs[i], List.getElem?_eq_getElem hlt, ho, ready_S fs os listed (fun i' b g h1 h2 e => ?_) (hrd i _ (List.getElem?_eq_getElem hlt))⟩
      obtain rfl := nodup_get hnk h1 (List.getElem?_eq_getElem hlt) e.symm
      rw [ho] at h2; cases h2
    cases ord with
    | nil =>
      have hp : pendS os ≠ 0 := by simp at hm; omega
      obtain ⟨i0, f0, hf0, ho0, hr0⟩ := hpend hp
      have hB' := hB
      rw [show m + 1 + (ops.size - n) = m + (ops.size - n) + 1 by omega]
      refine ⟨fun h0 => (by rw [h0] at hr0; cases hr0), fun j hj => ?_⟩
      rcases hcase j hj with ⟨i, f, hi, ho, rfl⟩ | ⟨_, hj2⟩
      · exact hfire i f hi ho
      · rcases Nat.lt_or_ge n ops.size with hlt | hge
        · obtain ⟨k0, hk0⟩ : ∃ k0, ops.size - n = k0 + 1 := ⟨ops.size - n - 1, by omega⟩
          simp only [ordGB, hk0, Region.seqB, Bool.and_eq_true, decide_eq_true_eq] at hB'
          rw [hB'.1] at hj2
          obtain rfl : j = n := by simpa using hj2
          exact absurd hj (tail_waitsP hs (hall f0 (List.mem_of_getElem? hf0)).1 (hfp f0 (List.mem_of_getElem? hf0)) inv (mem_ready.1 hr0).1 j (Nat.le_refl _))
        · simp only [ordGB, show ops.size - n = 0 by omega, Region.seqB] at hB'
          rw [List.isEmpty_iff.1 hB'] at hj2; cases hj2
    | cons p rest =>
      obtain ⟨i, t⟩ := p
      have hB' := hB
      cases ho : ops[i]? with
      | none => simp [ordGB, ho] at hB
      | some o =>
      simp only [ordGB, Bool.and_eq_true, decide_eq_true_eq, ho] at hB'
      obtain ⟨⟨⟨⟨⟨h1, h2⟩, h3⟩, h4⟩, h5⟩, h7⟩ := hB'
      have h1 : i ∈ Region.ready md ops listed := by simpa using h1
      have h4 : ∀ f ∈ fs, i ≠ f.1 := fun f hf => by simpa using List.all_eq_true.1 h4 f hf
      have hap := apartS_out h5
      have hr' : i ∈ Region.ready md ops (setS fs os listed) := ready_S fs os listed (fun _ _ f hf _ => h4 f (List.mem_of_getElem? hf)) h1
      have hrd' : ∀ (j : Nat) (f : Nat × Tmp × Obj), fs[j]? = some f → f.1 ∈ Region.ready md ops (listed.setIfInBounds i true) := fun j f hj => ready_mono (hrd j f hj) (Ne.symm (h4 f (List.mem_of_getElem? hj)))
      rw [show m + 1 + (ops.size - n) = m + (ops.size - n) + 1 by omega]
      cases t with
      | true =>
        obtain ⟨o', v, ho', hy, h⟩ := h
        obtain rfl : o = o' := by rw [ho] at ho'; cases ho'; rfl
        simp only [if_true] at h2
        obtain ⟨e1, e2⟩ := execOp_putS (ops := ops) o (fun cs e => Region.noSelect_spec hsel i o cs e ho) fs os a (fun f hf => (hap f hf).1)
        have hy' : YieldsIf P ops (fun y => pu.contains i = true ∨ Below x.heap.size x y) o v (putS fs os a) := (YieldsIf.stayP hy (Or.inr hb)).of_same e1 e2
        have hrec := ih rest C (listed.setIfInBounds i true) os (a.put o.dst v) w x (by simp at hm; omega) hheld hfr (by rw [setS_set]; exact inv.set hr' (Array.getElem?_eq_some_iff.1 ho).1) hrd' h7 h hb
        rw [setS_set, putS_put fs os a (fun f hf => (hap f hf).2)] at hrec
        exact wpR_firstP ho (Region.noSelect_spec hsel) (fun hpu l hl hun j hj => tail_waitsP hs h3 hpu hl hun j hj) (fun c a w => hQ2 c a o.dst v w) _ _ _ x inv (free_S (Region.free_spec ho h2) fs os) hr' hy' hrec
      | false =>
        simp only [Bool.false_eq_true, if_false, decide_eq_true_eq] at h2
        refine ⟨fun h0 => (by rw [h0] at hr'; cases hr'), fun j hj => ?_⟩
        rcases hcase j hj with ⟨i', f, hi, ho', rfl⟩ | ⟨_, hj2⟩
        · exact hfire i' f hi ho'
        · rw [h2] at hj2
          obtain rfl : j = i := by simpa using hj2
          refine wpOp_putS ho (fun cs e => Region.noSelect_spec hsel j o cs e ho) hQ fs os hap (fun a' w' h' => ?_) (h x hb)
          refine ⟨fun _ => h'.1, ?_⟩
          have hrec := ih rest _ (listed.setIfInBounds j true) os a' w' w' (by simp at hm; omega) ⟨hheld.1, fun k b f hk hf => ?_, hheld.2.2⟩ (fun b hb' => ⟨hfr b (Nat.le_trans h'.1.size hb'), Or.inr hb'⟩) (by rw [setS_set]; exact inv.set hr' (Array.getElem?_eq_some_iff.1 ho).1) hrd' h7 h'.2 (Below.refl _ _)
          · rw [setS_set] at hrec; exact hrec
          · obtain ⟨h8, h9⟩ := hheld.2.1 k b f hk hf
            have hlt := lt_of_block h9
            exact ⟨⟨h8, Or.inl hlt⟩, (h'.1.block b hlt).trans h9⟩

/-- a closed fact -/
def floatsB (md : Region.Mode) (ops : Array Oper) (n : Nat) (pu : List Nat) (fs : List (Nat × Tmp × Obj)) (ord : List (Nat × Bool)) : Bool :=
  Region.noSelect ops && decide (n ≤ ops.size) && decide (ord.length + fs.length = n) && sinkP md ops n pu && (fs.all fun f => (Region.ready md ops (Array.replicate ops.size false)).contains f.1 && !pu.contains f.1) && ordGB md ops n fs ord (Array.replicate ops.size false)

theorem setS_none : ∀ (fs : List (Nat × Tmp × Obj)) (l : Array Bool), setS fs (fs.map fun _ => none) l = l
  | [], _ => rfl
  | _ :: fs, l => setS_none fs l
theorem putS_none : ∀ (fs : List (Nat × Tmp × Obj)) (a : Act), putS fs (fs.map fun _ => none) a = a
  | [], _ => rfl
  | _ :: fs, a => putS_none fs a
theorem pendS_none : ∀ (fs : List (Nat × Tmp × Obj)), pendS (fs.map fun _ => none) = fs.length
  | [] => rfl
  | f :: fs => by
    have := pendS_none fs
    unfold pendS at *
    rw [List.map_cons, List.countP_cons, this]
    rfl

/-- THE BEGINNING -/
theorem wp_region_floats {id : Nat} {a : Act} {w : World} (n : Nat) (pu : List Nat) (fs : List (Nat × Tmp × Obj)) (ord : List (Nat × Bool))
    (hm : P.follows .mixedOrders = true) (hB : floatsB .any ops n pu fs ord = true) (hfs : MadeS P ops n fs)
    (hQ : ∀ c a d u w, Q (.panic c) a w → Q (.panic c) (a.put (some d) u) w) (hQ2 : ∀ c a o u w, Q (.panic c) (a.put o u) w → Q (.panic c) a w)
    (h : wpG P ops Q n pu fs (fun b => w.heap.size ≤ b) ord a w.drew) : (Code.region id ops true).wp P Q a w := by
  simp only [floatsB, Bool.and_eq_true, decide_eq_true_eq] at hB
  obtain ⟨⟨⟨⟨⟨hsel, hn⟩, hl⟩, hs⟩, hr⟩, ho⟩ := hB
  have hr' : ∀ f ∈ fs, f.1 ∈ Region.ready .any ops (Array.replicate ops.size false) ∧ pu.contains f.1 = false := fun f hf => by
    have := List.all_eq_true.1 hr f hf
    simp only [Bool.and_eq_true, Bool.not_eq_true'] at this
    exact ⟨by simpa using this.1, this.2⟩
  have := wpR_of_G (P := P) (Q := Q) (md := .any) hfs (fun f hf => (hr' f hf).2) hsel hs hn hQ hQ2 (ord.length + fs.length) ord _ (Array.replicate ops.size false) (fs.map fun _ => none) a w.drew w.drew (by rw [pendS_none])
    ⟨by simp, fun j b f h1 _ => by rw [List.getElem?_map] at h1; cases hx : fs[j]? <;> simp [hx] at h1, fun i j b h1 _ => by rw [List.getElem?_map] at h1; cases hx : fs[i]? <;> simp [hx] at h1⟩
    (fun b hb => hb) (by rw [setS_none]; exact ⟨by simp, fun j oj _ hl => (by rw [getD_replicate_false] at hl; cases hl), fun t h1 h2 => absurd h2 (by omega)⟩) (fun j f hj => (hr' f (List.mem_of_getElem? hj)).1) ho h (Below.refl _ _)
  rw [setS_none, putS_none, hl, show n + (ops.size - n) = ops.size by omega] at this
  exact wp_region_any hm (wpAny_of_R _ _ _ _ this)

/-- an operation that merely reads -/
theorem wpG_yield {n i : Nat} {pu : List Nat} {fs : List (Nat × Tmp × Obj)} {C : Nat → Prop} {rest : List (Nat × Bool)} {o : Oper} {v : Value} {a : Act} {w : World} (hi : ops.toList[i]? = some o) (hpu : pu.contains i = false)
    (hw : Region.wanted o (yielded ops a.tmps) = true) (hy : ∀ x, Below w.heap.size w x → (execOp a.eval o).run P x = .ok (.value v) x)
    (h : wpG P ops Q n pu fs C rest (a.put o.dst v) w) : wpG P ops Q n pu fs C ((i, true) :: rest) a w :=
  ⟨o, v, by rw [← Array.getElem?_toList]; exact hi, Or.inl ⟨hw, fun x hx => hy x (hx.resolve_left (by rw [hpu]; decide))⟩, h⟩

/-- an operation that reads nothing -/
theorem wpG_pure {n i : Nat} {pu : List Nat} {fs : List (Nat × Tmp × Obj)} {C : Nat → Prop} {rest : List (Nat × Bool)} {o : Oper} {v : Value} {a : Act} {w : World} (hi : ops.toList[i]? = some o)
    (hw : Region.wanted o (yielded ops a.tmps) = true) (hy : ∀ x, (execOp a.eval o).run P x = .ok (.value v) x)
    (h : wpG P ops Q n pu fs C rest (a.put o.dst v) w) : wpG P ops Q n pu fs C ((i, true) :: rest) a w :=
  ⟨o, v, by rw [← Array.getElem?_toList]; exact hi, Or.inl ⟨hw, fun x _ => hy x⟩, h⟩

theorem wpG_skip {n i : Nat} {pu : List Nat} {fs : List (Nat × Tmp × Obj)} {C : Nat → Prop} {rest : List (Nat × Bool)} {o : Oper} {a : Act} {w : World} (hi : ops.toList[i]? = some o)
    (hw : Region.wanted o (yielded ops a.tmps) = false)
    (h : wpG P ops Q n pu fs C rest (a.put o.dst undef) w) : wpG P ops Q n pu fs C ((i, true) :: rest) a w :=
  ⟨o, undef, by rw [← Array.getElem?_toList]; exact hi, Or.inr ⟨hw, rfl⟩, h⟩

theorem wpG_step {n i : Nat} {pu : List Nat} {fs : List (Nat × Tmp × Obj)} {C : Nat → Prop} {rest : List (Nat × Bool)} {o : Oper} {a : Act} {w : World} (hi : ops.toList[i]? = some o) (hg : o.guard = none)
    (h : ∀ x, Below w.heap.size w x → ∀ K : Act → World → Prop, (∀ a' w', Below x.heap.size x w' → wpG P ops Q n pu fs (fun b => C b ∧ (b < x.heap.size ∨ w'.heap.size ≤ b)) rest a' w' → K a' w') → o.wp P a x K Q) :
    wpG P ops Q n pu fs C ((i, false) :: rest) a w := by
  have hw : Region.wanted o (yielded ops a.tmps) = true := by simp [Region.wanted, hg]
  rw [Array.getElem?_toList] at hi
  intro x hx
  unfold wpOp
  simp only [hi, hw, if_true]
  exact .inl (h x hx _ fun a' w' h1 h2 => ⟨h1, h2⟩)

/-- a call whose guard holds -/
theorem wpG_stepw {n i : Nat} {pu : List Nat} {fs : List (Nat × Tmp × Obj)} {C : Nat → Prop} {rest : List (Nat × Bool)} {o : Oper} {a : Act} {w : World} (hi : ops.toList[i]? = some o) (hw : Region.wanted o (yielded ops a.tmps) = true)
    (h : ∀ x, Below w.heap.size w x → ∀ K : Act → World → Prop, (∀ a' w', Below x.heap.size x w' → wpG P ops Q n pu fs (fun b => C b ∧ (b < x.heap.size ∨ w'.heap.size ≤ b)) rest a' w' → K a' w') → o.wp P a x K Q) :
    wpG P ops Q n pu fs C ((i, false) :: rest) a w := by
  rw [Array.getElem?_toList] at hi
  intro x hx
  unfold wpOp
  simp only [hi, hw, if_true]
  exact .inl (h x hx _ fun a' w' h1 h2 => ⟨h1, h2⟩)

theorem wpG_nil2 {n k1 k2 : Nat} {pu : List Nat} {d1 d2 : Tmp} {Z1 Z2 : Obj} {C : Nat → Prop} {a : Act} {w : World} {l : List Oper} (hl : ops.toList.drop n = l)
    (h : ∀ b1 b2 w', C b1 → C b2 → b1 ≠ b2 → Below w.heap.size w w' → w'.heap[b1]? = some Z1 → w'.heap[b2]? = some Z2 → wpList P ops Q l ((a.put (some d1) (.pointer (some ⟨b1, 0, none⟩))).put (some d2) (.pointer (some ⟨b2, 0, none⟩))) w') :
    wpG P ops Q n pu [(k1, d1, Z1), (k2, d2, Z2)] C [] a w := by
  subst hl
  intro bs w' hlen h1 h2 hb
  match bs, hlen with
  | [b1, b2], _ =>
    obtain ⟨c1, e1⟩ := h1 0 b1 _ rfl rfl
    obtain ⟨c2, e2⟩ := h1 1 b2 _ rfl rfl
    exact h b1 b2 w' c1 c2 (fun e => by have := h2 0 1 b1 rfl (by rw [e]; rfl); omega) hb e1 e2

theorem wpG_nil0 {n : Nat} {pu : List Nat} {C : Nat → Prop} {a : Act} {w : World} {l : List Oper} (hl : ops.toList.drop n = l) (h : ∀ w', Below w.heap.size w w' → wpList P ops Q l a w') : wpG P ops Q n pu [] C [] a w := by
  subst hl
  intro bs w' hlen _ _ hb
  obtain rfl : bs = [] := List.length_eq_zero_iff.1 hlen
  exact h w' hb

theorem wpG_nil1 {n k1 : Nat} {pu : List Nat} {d1 : Tmp} {Z1 : Obj} {C : Nat → Prop} {a : Act} {w : World} {l : List Oper} (hl : ops.toList.drop n = l)
    (h : ∀ b1 w', C b1 → Below w.heap.size w w' → w'.heap[b1]? = some Z1 → wpList P ops Q l (a.put (some d1) (.pointer (some ⟨b1, 0, none⟩))) w') :
    wpG P ops Q n pu [(k1, d1, Z1)] C [] a w := by
  subst hl
  intro bs w' hlen h1 h2 hb
  match bs, hlen with
  | [b1], _ =>
    obtain ⟨c1, e1⟩ := h1 0 b1 _ rfl rfl
    exact h b1 w' c1 hb e1

end
end Go.Proofs.YthommhfppeonpaaGreatDoor

namespace Go.Proofs.YthommhfppeonpaaGreatDoor
open Go.RowKit

/-- what stands in the three blocks that Add and its kin lay, and in the list of its two arguments -/
theorem cells4 (w : World) (o p q r : Array Value) (t u v x : TypeId) :
    (∀ i, ((((w.alloc (.cells o t)).alloc (.cells p u)).alloc (.cells q v)).alloc (.cells r x)).cell? ⟨w.heap.size, i, none⟩ = o[i]?) ∧
    (∀ i, ((((w.alloc (.cells o t)).alloc (.cells p u)).alloc (.cells q v)).alloc (.cells r x)).cell? ⟨w.heap.size + 1, i, none⟩ = p[i]?) ∧
    (∀ i, ((((w.alloc (.cells o t)).alloc (.cells p u)).alloc (.cells q v)).alloc (.cells r x)).cell? ⟨w.heap.size + 1 + 1, i, none⟩ = q[i]?) ∧
    (∀ i, ((((w.alloc (.cells o t)).alloc (.cells p u)).alloc (.cells q v)).alloc (.cells r x)).cell? ⟨w.heap.size + 1 + 1 + 1, i, none⟩ = r[i]?) ∧
    (∀ i, ((((w.alloc (.cells o t)).alloc (.cells p u)).alloc (.cells q v)).alloc (.cells r x)).frozen? ⟨w.heap.size + 1 + 1, i, none⟩ = false) := by
  obtain ⟨h1, h2, h3⟩ := cells3 w o p q t u v
  refine ⟨fun i => ?_, fun i => ?_, fun i => ?_, fun i => ?_, fun i => ?_⟩
  · rw [World.cell?_alloc_past _ _ _ (by simp; omega)]; exact h1 i
  · rw [World.cell?_alloc_past _ _ _ (by simp)]; exact h2 i
  · rw [World.cell?_alloc_past _ _ _ (by simp)]; exact h3 i
  · rw [World.cell?_alloc_at _ _ _ _ (by simp)]
  · rw [World.frozen?_alloc_past _ _ _ (by simp), World.frozen?_alloc_at _ _ _ _ (by simp)]

set_option maxRecDepth 100000 in
set_option maxHeartbeats 1000000 in
theorem add_same (s : Bool) (z1 z2 : Int) (a1 a2 : Option Addr) (n1 n2 c1 c2 : Nat) (w : World) (h1 : LG w.heap.size w s a1 n1 c1 z1) (h2 : LG w.heap.size w s a2 n2 c2 z2)
    (hfit : (digs (z1 + z2).natAbs).length ≤ 600) :
    Calls Tryz.prog 77 #[.agg #[.bool s, .slice a1 n1 c1], .agg #[.bool s, .slice a2 n2 c2]] w (RetL w (z1 + z2)) := by
  have H1 := Lib.hid h1; have H2 := Lib.hid h2; have Hfit := Lib.hid hfit; clear h1 h2 hfit
  go_enter Tryz.func77, Tryz.ntmps77
  go_wp2_with fail
  have hq := below4 w (.cells #[.bool s, .slice a1 n1 c1] 110) (.cells #[.bool s, .slice a2 n2 c2] 110) (.cells #[.bool false, .slice none 0 0] 110) (.cells #[.bool s, .slice a1 n1 c1, .bool s, .slice a2 n2 c2] 110)
  have hc := cells4 w #[.bool s, .slice a1 n1 c1] #[.bool s, .slice a2 n2 c2] #[.bool false, .slice none 0 0] #[.bool s, .slice a1 n1 c1, .bool s, .slice a2 n2 c2] 110 110 110 110
  have Hq := Lib.hid hq; have Hc := Lib.hid hc; clear hq hc
  refine (all_two (w.heap.size + 1 + 1 + 1) s s z1 z2 a1 a2 n1 n2 c1 c2 _ (H1.out.go Hq.out) (H2.out.go Hq.out) (by simp) (Hc.out.2.2.2.1 0) (Hc.out.2.2.2.1 1) (Hc.out.2.2.2.1 2) (Hc.out.2.2.2.1 3)).mono ?_
  rintro e w1 ⟨rfl, hb1⟩
  have j0 := (hb1.cell (p := ⟨w.heap.size, 0, none⟩) (by simp; omega)).trans (Hc.out.1 0)
  have j1 := (hb1.cell (p := ⟨w.heap.size, 1, none⟩) (by simp; omega)).trans (Hc.out.1 1)
  have j2 := (hb1.cell (p := ⟨w.heap.size + 1, 0, none⟩) (by simp)).trans (Hc.out.2.1 0)
  have j3 := (hb1.cell (p := ⟨w.heap.size + 1, 1, none⟩) (by simp)).trans (Hc.out.2.1 1)
  have j4 := (hb1.cell (p := ⟨w.heap.size + 1 + 1, 0, none⟩) (by simp)).trans (Hc.out.2.2.1 0)
  have j5 := (hb1.cell (p := ⟨w.heap.size + 1 + 1, 1, none⟩) (by simp)).trans (Hc.out.2.2.1 1)
  have j6 := (hb1.frozen (p := ⟨w.heap.size + 1 + 1, 0, none⟩) (by simp)).trans (Hc.out.2.2.2.2 0)
  have j7 := (hb1.frozen (p := ⟨w.heap.size + 1 + 1, 1, none⟩) (by simp)).trans (Hc.out.2.2.2.2 1)
  simp at j0 j1 j2 j3 j4 j5
  have hb1' := Hq.out.trans (hb1.mono (by simp; omega))
  have hs1 := hb1.size
  simp at hs1
  go_wp2_with fail
  go_quiet (fail)
  have hn1 := H1.out.2.2; have hn2 := H2.out.2.2
  have g1 := (H1.out.go hb1').2.1
  have g2 := (H2.out.go hb1').2.1
  go_wp2_with fail
  have m1 : w.heap.size < w1.heap.size := by omega
  have m2 : w.heap.size + 1 + 1 < w1.heap.size := by omega
  have hz12 : z1.natAbs + z2.natAbs = (z1 + z2).natAbs := by
    have e1 := H1.out.1; have e2 := H2.out.1
    cases s <;> simp at e1 e2 <;> omega
  have hfit2 : (digs (z1.natAbs + z2.natAbs)).length ≤ 600 := by rw [hz12]; exact Hfit.out
  have hzs : (if s then -((z1.natAbs + z2.natAbs : Nat) : Int) else ((z1.natAbs + z2.natAbs : Nat) : Int)) = z1 + z2 := by
    have e1 := H1.out.1; have e2 := H2.out.1
    cases s <;> simp at e1 e2 ⊢ <;> omega
  have Hfit2 := Lib.hid hfit2; have Hzs := Lib.hid hzs; clear hfit2 hz12 hzs
  go_region_with (first
    | (go_at_call 105; refine (plus_any z1.natAbs z2.natAbs a1 a2 n1 n2 c1 c2 _ (by exact g1) (by exact g2) (by omega) (by omega)).mono ?_; rintro e w2 ⟨a, n, c, rfl, hsl, hb2, hf⟩; have hb2' : Below w1.heap.size w1 w2 := below_undrew hb2; have q0 := (hb2'.cell (p := ⟨w.heap.size, 0, none⟩) m1).trans j0; have q4 := (hb2'.cell (p := ⟨w.heap.size + 1 + 1, 0, none⟩) m2).trans j4; have q5 := (hb2'.cell (p := ⟨w.heap.size + 1 + 1, 1, none⟩) m2).trans j5; have q6 := (hb2'.frozen (p := ⟨w.heap.size + 1 + 1, 0, none⟩) m2).trans j6; have q7 := (hb2'.frozen (p := ⟨w.heap.size + 1 + 1, 1, none⟩) m2).trans j7; have hs2 := hb2'.size; have m3 : w.heap.size + 1 + 1 < w2.heap.size := (by omega); clear hb2 hf)
    | (go_at_call 104; go_must (refine (told_ok s (z1.natAbs + z2.natAbs) a n c _ (by exact hsl) (by rw [hsl.len]; exact Hfit2.out)).mono ?_; rintro e w3 ⟨s3, a3, n3, c3, rfl, hlg, hb3, hf3⟩; have hb3' : Below w2.heap.size w2 w3 := (by first | exact hb3 | exact below_undrew hb3); have q40 := (hb3'.cell (p := ⟨w.heap.size + 1 + 1, 0, none⟩) m3).trans q4; have q50 := (hb3'.cell (p := ⟨w.heap.size + 1 + 1, 1, none⟩) m3).trans q5; have q60 := (hb3'.frozen (p := ⟨w.heap.size + 1 + 1, 0, none⟩) m3).trans q6; have q70 := (hb3'.frozen (p := ⟨w.heap.size + 1 + 1, 1, none⟩) m3).trans q7; clear hb3)))
  all_goals
    rw [Hzs.out] at hlg
    go_wp2
    refine bodyPost_ret (v := .tuple #[.agg #[.bool s3, .slice a3 n3 c3], .int .i64 0]) ?_ rfl ?_
    · simp [results, Tryz.results77, go_sem, q40, q50]
    · exact retL_mk hlg (hb1'.trans ((hb2'.trans (hb3'.mono hs2)).mono (by omega))) hf3 _ (by omega) (by omega) _ _
end Go.Proofs.YthommhfppeonpaaGreatDoor

namespace Go.Proofs.YthommhfppeonpaaGreatDoor
open Go.RowKit

/-- what stands in the four blocks that a function of two long integers lays, behind a call -/
structure Kept4 (w : World) (s1 s2 : Bool) (a1 a2 : Option Addr) (n1 n2 c1 c2 : Nat) (w1 : World) : Prop where
  j0 : w1.cell? ⟨w.heap.size, 0, none⟩ = some (.bool s1)
  j1 : w1.cell? ⟨w.heap.size, 1, none⟩ = some (.slice a1 n1 c1)
  j2 : w1.cell? ⟨w.heap.size + 1, 0, none⟩ = some (.bool s2)
  j3 : w1.cell? ⟨w.heap.size + 1, 1, none⟩ = some (.slice a2 n2 c2)
  j4 : w1.cell? ⟨w.heap.size + 1 + 1, 0, none⟩ = some (.bool false)
  j5 : w1.cell? ⟨w.heap.size + 1 + 1, 1, none⟩ = some (.slice none 0 0)
  j6 : w1.frozen? ⟨w.heap.size + 1 + 1, 0, none⟩ = false
  j7 : w1.frozen? ⟨w.heap.size + 1 + 1, 1, none⟩ = false
  below : Below w.heap.size w w1
  size : w.heap.size + 4 ≤ w1.heap.size

theorem kept4_of {w : World} {s1 s2 : Bool} {a1 a2 : Option Addr} {n1 n2 c1 c2 : Nat} {t : TypeId} {r : Array Value} {w1 : World}
    (hb1 : Below ((((w.alloc (.cells #[.bool s1, .slice a1 n1 c1] t)).alloc (.cells #[.bool s2, .slice a2 n2 c2] t)).alloc (.cells #[.bool false, .slice none 0 0] t)).alloc (.cells r t)).heap.size ((((w.alloc (.cells #[.bool s1, .slice a1 n1 c1] t)).alloc (.cells #[.bool s2, .slice a2 n2 c2] t)).alloc (.cells #[.bool false, .slice none 0 0] t)).alloc (.cells r t)) w1) :
    Kept4 w s1 s2 a1 a2 n1 n2 c1 c2 w1 := by
  have hc := cells4 w #[.bool s1, .slice a1 n1 c1] #[.bool s2, .slice a2 n2 c2] #[.bool false, .slice none 0 0] r t t t t
  refine ⟨(hb1.cell (p := ⟨w.heap.size, 0, none⟩) (by simp; omega)).trans ((hc.1 0).trans rfl), (hb1.cell (p := ⟨w.heap.size, 1, none⟩) (by simp; omega)).trans ((hc.1 1).trans rfl),
    (hb1.cell (p := ⟨w.heap.size + 1, 0, none⟩) (by simp)).trans ((hc.2.1 0).trans rfl), (hb1.cell (p := ⟨w.heap.size + 1, 1, none⟩) (by simp)).trans ((hc.2.1 1).trans rfl),
    (hb1.cell (p := ⟨w.heap.size + 1 + 1, 0, none⟩) (by simp)).trans ((hc.2.2.1 0).trans rfl), (hb1.cell (p := ⟨w.heap.size + 1 + 1, 1, none⟩) (by simp)).trans ((hc.2.2.1 1).trans rfl),
    (hb1.frozen (p := ⟨w.heap.size + 1 + 1, 0, none⟩) (by simp)).trans (hc.2.2.2.2 0), (hb1.frozen (p := ⟨w.heap.size + 1 + 1, 1, none⟩) (by simp)).trans (hc.2.2.2.2 1),
    (below4 w _ _ _ _).trans (hb1.mono (by simp; omega)), by have := hb1.size; simpa using this⟩

set_option maxRecDepth 100000 in
set_option maxHeartbeats 1000000 in
theorem both_times (s1 s2 g : Bool) (z1 z2 : Int) (a1 a2 : Option Addr) (n1 n2 c1 c2 : Nat) (w : World) (h1 : LG w.heap.size w s1 a1 n1 c1 z1) (h2 : LG w.heap.size w s2 a2 n2 c2 z2)
    (hfit : (digs (z1.natAbs * z2.natAbs)).length ≤ 600) (z : Int) (hz : z = if g then -((z1.natAbs * z2.natAbs : Nat) : Int) else ((z1.natAbs * z2.natAbs : Nat) : Int)) :
    Calls Tryz.prog 108 #[.agg #[.bool s1, .slice a1 n1 c1], .agg #[.bool s2, .slice a2 n2 c2], .bool g, .func (.func 109) #[] #[]] w
      (RetL w z) := by
  have Hz := Lib.hid hz; clear hz
  have H1 := Lib.hid h1; have H2 := Lib.hid h2; have Hfit := Lib.hid hfit; clear h1 h2 hfit
  have hn1 := H1.out.2.2; have hn2 := H2.out.2.2
  go_enter Tryz.func108, Tryz.ntmps108
  go_wp2_with fail
  have hq := below4 w (.cells #[.bool s1, .slice a1 n1 c1] 110) (.cells #[.bool s2, .slice a2 n2 c2] 110) (.cells #[.bool false, .slice none 0 0] 110) (.cells #[.bool s1, .slice a1 n1 c1, .bool s2, .slice a2 n2 c2] 110)
  have hc := cells4 w #[.bool s1, .slice a1 n1 c1] #[.bool s2, .slice a2 n2 c2] #[.bool false, .slice none 0 0] #[.bool s1, .slice a1 n1 c1, .bool s2, .slice a2 n2 c2] 110 110 110 110
  have Hq := Lib.hid hq; have Hc := Lib.hid hc; clear hq hc
  refine (all_two (w.heap.size + 1 + 1 + 1) s1 s2 z1 z2 a1 a2 n1 n2 c1 c2 _ (H1.out.go Hq.out) (H2.out.go Hq.out) (by simp) (Hc.out.2.2.2.1 0) (Hc.out.2.2.2.1 1) (Hc.out.2.2.2.1 2) (Hc.out.2.2.2.1 3)).mono ?_
  rintro e w1 ⟨rfl, hb1⟩
  obtain ⟨j0, j1, j2, j3, j4, j5, j6, j7, hb1', hs1⟩ := kept4_of hb1
  clear hb1
  go_wp2_with fail
  refine (times_any z1.natAbs z2.natAbs a1 a2 n1 n2 c1 c2 _ (H1.out.go hb1').2.1 (H2.out.go hb1').2.1 (by omega) (by omega)).mono ?_
  rintro e w2 ⟨a, n, c, rfl, hsl, hb2, hf2⟩
  have m2 : w.heap.size + 1 + 1 < w1.heap.size := by omega
  have q4 := (hb2.cell (p := ⟨w.heap.size + 1 + 1, 0, none⟩) m2).trans j4
  have q5 := (hb2.cell (p := ⟨w.heap.size + 1 + 1, 1, none⟩) m2).trans j5
  have q6 := (hb2.frozen (p := ⟨w.heap.size + 1 + 1, 0, none⟩) m2).trans j6
  have q7 := (hb2.frozen (p := ⟨w.heap.size + 1 + 1, 1, none⟩) m2).trans j7
  have hs2 := hb2.size
  go_wp2_with fail
  refine (told_ok g (z1.natAbs * z2.natAbs) a n c _ hsl (by rw [hsl.len]; exact Hfit.out)).mono ?_
  rintro e w3 ⟨s3, a3, n3, c3, rfl, hlg, hb3, hf3⟩
  rw [← Hz.out] at hlg
  have m3 : w.heap.size + 1 + 1 < w2.heap.size := by omega
  have q40 := (hb3.cell (p := ⟨w.heap.size + 1 + 1, 0, none⟩) m3).trans q4
  have q50 := (hb3.cell (p := ⟨w.heap.size + 1 + 1, 1, none⟩) m3).trans q5
  have q60 := (hb3.frozen (p := ⟨w.heap.size + 1 + 1, 0, none⟩) m3).trans q6
  have q70 := (hb3.frozen (p := ⟨w.heap.size + 1 + 1, 1, none⟩) m3).trans q7
  go_wp2
  refine bodyPost_ret (v := .tuple #[.agg #[.bool s3, .slice a3 n3 c3], .int .i64 0]) ?_ rfl ?_
  · simp [results, Tryz.results108, go_sem, q40, q50]
  · exact retL_mk hlg (hb1'.trans ((hb2.trans (hb3.mono hs2)).mono (by omega))) hf3 _ (by omega) (by omega) _ _

theorem heap3_size (w : World) (o p q : Obj) : (((w.alloc o).alloc p).alloc q).heap.size = w.heap.size + 3 := by simp

set_option maxRecDepth 100000 in
set_option maxHeartbeats 1000000 in
theorem mul_any (s1 s2 : Bool) (z1 z2 : Int) (a1 a2 : Option Addr) (n1 n2 c1 c2 : Nat) (w : World) (h1 : LG w.heap.size w s1 a1 n1 c1 z1) (h2 : LG w.heap.size w s2 a2 n2 c2 z2)
    (hfit : (digs (z1 * z2).natAbs).length ≤ 600) :
    Calls Tryz.prog 78 #[.agg #[.bool s1, .slice a1 n1 c1], .agg #[.bool s2, .slice a2 n2 c2]] w (RetL w (z1 * z2)) := by
  have H1 := Lib.hid h1; have H2 := Lib.hid h2; clear h1 h2
  have hz : (if (s1 != s2) then -((z1.natAbs * z2.natAbs : Nat) : Int) else ((z1.natAbs * z2.natAbs : Nat) : Int)) = z1 * z2 := by
    have e1 := H1.out.1; have e2 := H2.out.1
    have ea : (z1.natAbs : Int) = if z1 < 0 then -z1 else z1 := by split <;> omega
    have eb : (z2.natAbs : Int) = if z2 < 0 then -z2 else z2 := by split <;> omega
    rw [Int.natCast_mul, ea, eb]
    by_cases p1 : z1 < 0 <;> by_cases p2 : z2 < 0 <;> simp [p1, p2] at e1 e2 <;> subst e1 e2 <;> simp [p1, p2, Int.neg_mul, Int.mul_neg]
  have Hz := Lib.hid hz; clear hz
  have hfit' : (digs (z1.natAbs * z2.natAbs)).length ≤ 600 := by rw [← Int.natAbs_mul]; exact hfit
  have Hfit := Lib.hid hfit'; clear hfit hfit'
  go_enter Tryz.func78, Tryz.ntmps78
  go_wp2_with fail
  have hq := below3 w (.cells #[.bool s1, .slice a1 n1 c1] 110) (.cells #[.bool s2, .slice a2 n2 c2] 110) (.cells #[.bool false, .slice none 0 0] 110)
  have Hq := Lib.hid hq; clear hq
  refine (both_times s1 s2 (s1 != s2) z1 z2 a1 a2 n1 n2 c1 c2 _ (H1.out.go Hq.out) (H2.out.go Hq.out) Hfit.out _ Hz.out.symm).mono ?_
  rintro e w1 ⟨s3, a3, n3, c3, rfl, hlg, hb1, hf1⟩
  have hc := cells3 w #[.bool s1, .slice a1 n1 c1] #[.bool s2, .slice a2 n2 c2] #[.bool false, .slice none 0 0] 110 110 110
  have q4 := (hb1.cell (p := ⟨w.heap.size + 1 + 1, 0, none⟩) (by simp)).trans ((hc.2.2 0).trans rfl)
  have q5 := (hb1.cell (p := ⟨w.heap.size + 1 + 1, 1, none⟩) (by simp)).trans ((hc.2.2 1).trans rfl)
  have hfz : ∀ i, (((w.alloc (.cells #[.bool s1, .slice a1 n1 c1] 110)).alloc (.cells #[.bool s2, .slice a2 n2 c2] 110)).alloc (.cells #[.bool false, .slice none 0 0] 110)).frozen? ⟨w.heap.size + 1 + 1, i, none⟩ = false := fun i => World.frozen?_alloc_at _ _ _ _ (by simp)
  have q6 := (hb1.frozen (p := ⟨w.heap.size + 1 + 1, 0, none⟩) (by simp)).trans (hfz 0)
  have q7 := (hb1.frozen (p := ⟨w.heap.size + 1 + 1, 1, none⟩) (by simp)).trans (hfz 1)
  clear hc hfz
  have hb1' := Hq.out.trans (hb1.mono (by simp; omega))
  rw [heap3_size] at hf1
  clear hb1
  go_wp2
  refine bodyPost_ret (v := .tuple #[.agg #[.bool s3, .slice a3 n3 c3], .int .i64 0]) ?_ rfl ?_
  · simp [results, Tryz.results78, go_sem, q4, q5]
  · exact retL_mk hlg hb1' hf1 _ (by omega) (by omega) _ _

end Go.Proofs.YthommhfppeonpaaGreatDoor

namespace Go.Proofs.YthommhfppeonpaaGreatDoor
open Go.RowKit

set_option maxHeartbeats 400000 in
theorem mustL_ok (s : Bool) (a : Option Addr) (n c : Nat) (w : World) :
    Calls Tryz.prog 76 #[.agg #[.bool s, .slice a n c], .int .i64 0] w (RetB w (.agg #[.bool s, .slice a n c])) := by
  go_enter Tryz.func76, Tryz.ntmps76
  go_wp2
  refine bodyPost_ret (v := .agg #[.bool s, .slice a n c]) ?_ rfl ?_
  · simp [results, Tryz.results76, go_sem]
  · exact ⟨rfl, by first | exact below_two _ _ | exact ((below_two _ _).setCell (by simp) _).setCell (by simp) _⟩

set_option maxHeartbeats 400000 in
theorem mustI_ok (r : Int) (w : World) :
    Calls Tryz.prog 79 #[.int .i64 r, .int .i64 0] w (RetB w (.int .i64 r)) := by
  go_enter Tryz.func79, Tryz.ntmps79
  go_wp2
  go_ret
  exact ⟨rfl, Below.refl _ _⟩

theorem heap3_kept {w w1 : World} {o p : Obj} {q : Array Value} {t : TypeId} (hb : Below (((w.alloc o).alloc p).alloc (.cells q t)).heap.size (((w.alloc o).alloc p).alloc (.cells q t)) w1) :
    (∀ i, w1.cell? ⟨w.heap.size + 1 + 1, i, none⟩ = q[i]?) ∧ (∀ i, w1.frozen? ⟨w.heap.size + 1 + 1, i, none⟩ = false) ∧ Below w.heap.size w w1 ∧ w.heap.size + 3 ≤ w1.heap.size := by
  refine ⟨fun i => ?_, fun i => ?_, (below3 w o p _).trans (hb.mono (by simp; omega)), by have := hb.size; simpa using this⟩
  · rw [hb.cell (p := ⟨w.heap.size + 1 + 1, i, none⟩) (by simp)]; exact World.cell?_alloc_at _ _ _ _ (by simp)
  · rw [hb.frozen (p := ⟨w.heap.size + 1 + 1, i, none⟩) (by simp)]; exact World.frozen?_alloc_at _ _ _ _ (by simp)

/-- a long integer, by way of a block of the call's own -/
theorem retL1_mk {w w3 : World} {s : Bool} {a : Option Addr} {n c B : Nat} {z : Int} (hlg : LG w3.heap.size w3 s a n c z) (hb : Below w.heap.size w w3) (hf : Fresh B a n) (blk : Nat) (hblk : blk < B) (hw : w.heap.size ≤ blk) (u v : Value) :
    RetL1 w z (.returned (.agg #[.bool s, .slice a n c])) ((w3.setCell ⟨blk, 0, none⟩ u).setCell ⟨blk, 1, none⟩ v) := by
  have hne : ∀ b off, a = some ⟨b, off, none⟩ → 0 < n → b ≠ blk := fun b off e h0 => by have := hf b off e h0; omega
  refine ⟨s, a, n, c, rfl, ?_, (hb.setCell hw _).setCell hw _, hf.mono (by omega)⟩
  have := (hlg.setCell ⟨blk, 0, none⟩ u hne).setCell ⟨blk, 1, none⟩ v hne
  simpa using this

set_option maxHeartbeats 800000 in
theorem ymul_any (s1 s2 : Bool) (z1 z2 : Int) (a1 a2 : Option Addr) (n1 n2 c1 c2 : Nat) (w : World) (h1 : LG w.heap.size w s1 a1 n1 c1 z1) (h2 : LG w.heap.size w s2 a2 n2 c2 z2)
    (hfit : (digs (z1 * z2).natAbs).length ≤ 600) :
    Calls Tryz.prog 41 #[.agg #[.bool s1, .slice a1 n1 c1], .agg #[.bool s2, .slice a2 n2 c2]] w (RetL1 w (z1 * z2)) := by
  have H1 := Lib.hid h1; have H2 := Lib.hid h2; have Hfit := Lib.hid hfit; clear h1 h2 hfit
  go_enter Tryz.func41, Tryz.ntmps41
  go_wp2_with fail
  have hq := below3 w (.cells #[.bool s1, .slice a1 n1 c1] 110) (.cells #[.bool s2, .slice a2 n2 c2] 110) (.cells #[.bool false, .slice none 0 0] 110)
  have Hq := Lib.hid hq; clear hq
  refine (mul_any s1 s2 z1 z2 a1 a2 n1 n2 c1 c2 _ (H1.out.go Hq.out) (H2.out.go Hq.out) Hfit.out).mono ?_
  rintro e w1 ⟨s3, a3, n3, c3, rfl, hlg, hb1, hf1⟩
  go_wp2_with fail
  refine (mustL_ok s3 a3 n3 c3 w1).mono ?_
  rintro e w2 ⟨rfl, hb2⟩
  have hlg2 := hlg.go hb2
  have hbb := hb1.trans (hb2.mono hb1.size)
  obtain ⟨k1, k2, k3, k4⟩ := heap3_kept hbb
  have q4 := (k1 0).trans rfl
  have q5 := (k1 1).trans rfl
  have q6 := k2 0
  have q7 := k2 1
  rw [heap3_size] at hf1
  clear hlg k1 k2 hb1 hb2 hbb
  go_wp2
  refine bodyPost_ret (v := .agg #[.bool s3, .slice a3 n3 c3]) ?_ rfl ?_
  · simp [results, Tryz.results41, go_sem, q4, q5]
  · exact retL1_mk hlg2 k3 hf1 _ (by omega) (by omega) _ _

end Go.Proofs.YthommhfppeonpaaGreatDoor

namespace Go.Proofs.YthommhfppeonpaaGreatDoor
open Go.RowKit

/-- where a long integer lies: its sign and its slice -/
structure LP where
  s : Bool
  a : Option Addr
  n : Nat
  c : Nat

def LP.cells (p : LP) : List Value := [.bool p.s, .slice p.a p.n p.c]
def flat (ps : List LP) : List Value := ps.flatMap LP.cells
def LP.none : LP := ⟨false, Option.none, 0, 0⟩
def LP.at (N : Nat) (w : World) (p : LP) (z : Int) : Prop := LG N w p.s p.a p.n p.c z
/-- it lies in no block below B -/
def LP.above (p : LP) (B : Nat) : Prop := ∀ b off, p.a = some ⟨b, off, Option.none⟩ → 0 < p.n → B ≤ b
/-- it does not lie in block g -/
def LP.off (p : LP) (g : Nat) : Prop := ∀ b off, p.a = some ⟨b, off, Option.none⟩ → 0 < p.n → b ≠ g

theorem length_flat (ps : List LP) : (flat ps).length = ps.length * 2 := by
  induction ps with
  | nil => rfl
  | cons p ps ih => simp only [flat, List.flatMap_cons, List.length_append, List.length_cons] at ih ⊢; rw [ih]; simp [LP.cells]; omega
theorem flat_append (ps qs : List LP) : flat (ps ++ qs) = flat ps ++ flat qs := List.flatMap_append
theorem flat_get (ps : List LP) (j : Nat) (h : j < ps.length) : (flat ps)[j * 2]? = some (.bool (ps.getD j LP.none).s) ∧ (flat ps)[j * 2 + 1]? = some (.slice (ps.getD j LP.none).a (ps.getD j LP.none).n (ps.getD j LP.none).c) := by
  induction ps generalizing j with
  | nil => simp at h
  | cons p ps ih =>
    cases j with
    | zero => simp [flat, LP.cells]
    | succ j =>
      have := ih j (by simpa using h)
      simp only [flat, List.flatMap_cons, LP.cells] at this ⊢
      rw [show (j + 1) * 2 = (j * 2) + 2 by omega, show (j * 2) + 2 + 1 = (j * 2 + 1) + 2 by omega]
      simpa using this
theorem flat_set (ps : List LP) (j : Nat) (h : j < ps.length) (p : LP) : flat (ps.set j p) = ((flat ps).set (j * 2) (.bool p.s)).set (j * 2 + 1) (.slice p.a p.n p.c) := by
  induction ps generalizing j with
  | nil => simp at h
  | cons q ps ih =>
    cases j with
    | zero => simp [flat, LP.cells]
    | succ j =>
      have := ih j (by simpa using h)
      simp only [flat, List.set_cons_succ, List.flatMap_cons, LP.cells] at this ⊢
      rw [this, show (j + 1) * 2 = (j * 2) + 2 by omega, show (j * 2) + 2 + 1 = (j * 2 + 1) + 2 by omega]
      simp

theorem LG.grown {N : Nat} {w w' : World} {row : Option Nat} {s : Bool} {a : Option Addr} {n c : Nat} {z : Int} (h : LG N w s a n c z) (hg : w.grownBy w' row) (hne : ∀ b off, a = some ⟨b, off, none⟩ → 0 < n → some b ≠ row) : LG N w' s a n c z := by
  refine ⟨h.1, ⟨h.2.1.1, h.2.1.2.1, fun h0 => ?_⟩, h.2.2⟩
  obtain ⟨b, off, e, hlt, hc⟩ := h.2.1.2.2 h0
  exact ⟨b, off, e, hlt, fun j hj => hg.cell (hc j hj) (hne b off e h0)⟩

/-- a row of long integers of the call's own, in block g; all of it below N -/
def RowL (N base : Nat) (w : World) (g cap : Nat) (zs : List Int) : Prop :=
  ∃ ps : List LP, base ≤ g ∧ g < N ∧ w.ownsRow base 110 2 (.slice (some ⟨g, 0, none⟩) zs.length cap) zs.length (flat ps) ∧ ps.length = zs.length ∧
    ∀ j, j < zs.length → LP.at N w (ps.getD j LP.none) (zs.getD j 0) ∧ (ps.getD j LP.none).off g ∧ (ps.getD j LP.none).above base

theorem RowL.base_le {N base w g cap zs} (h : RowL N base w g cap zs) : base ≤ g := let ⟨_, h, _⟩ := h; h
theorem RowL.lt {N base w g cap zs} (h : RowL N base w g cap zs) : g < N := let ⟨_, _, h, _⟩ := h; h

theorem ownsRow_base {w : World} {base base' : Nat} {e : TypeId} {size : Nat} {v : Value} {n : Nat} {xs : List Value} (h : w.ownsRow base e size v n xs) (hb : base' ≤ base) : w.ownsRow base' e size v n xs :=
  ⟨h.1, h.2.imp id fun ⟨g, cap, cur, e, q, r⟩ => ⟨g, cap, cur, e, Nat.le_trans hb q, r⟩⟩

theorem RowL.rebase {N base base' w g cap zs} (h : RowL N base w g cap zs) (hb : base' ≤ base) : RowL N base' w g cap zs := by
  obtain ⟨ps, h1, h2, h3, h4, h5⟩ := h
  exact ⟨ps, Nat.le_trans hb h1, h2, ownsRow_base h3 hb, h4, fun j hj => ⟨(h5 j hj).1, (h5 j hj).2.1, fun b off e h0 => Nat.le_trans hb ((h5 j hj).2.2 b off e h0)⟩⟩

theorem RowL.mono {N N' base w g cap zs} (h : RowL N base w g cap zs) (hN : N ≤ N') : RowL N' base w g cap zs := by
  obtain ⟨ps, h1, h2, h3, h4, h5⟩ := h
  exact ⟨ps, h1, by omega, h3, h4, fun j hj => ⟨LG.mono (h5 j hj).1 hN, (h5 j hj).2⟩⟩

theorem RowL.keep {N base w w' g cap zs} (h : RowL N base w g cap zs) (hb : Below N w w') : RowL N base w' g cap zs := by
  obtain ⟨ps, h1, h2, h3, h4, h5⟩ := h
  refine ⟨ps, h1, h2, ?_, h4, fun j hj => ⟨LG.below (h5 j hj).1 hb (Nat.le_refl _), (h5 j hj).2⟩⟩
  obtain ⟨l, r⟩ := h3
  refine ⟨l, r.imp id ?_⟩
  rintro ⟨g', cap', cur, e, q1, q2, q3⟩
  have : g' = g := by injection e with e1 e2 e3; injection e1 with e1; injection e1 with e1; exact e1.symm
  exact ⟨g', cap', cur, e, q1, (hb.block g' (by omega)).trans q2, q3⟩

theorem RowL.go {base w w' g cap zs} (h : RowL w.heap.size base w g cap zs) (hb : Below w.heap.size w w') : RowL w'.heap.size base w' g cap zs := (h.keep hb).mono hb.size

/-- one of its long integers -/
theorem RowL.get {N base w g cap zs} (h : RowL N base w g cap zs) {j : Nat} (hj : j < zs.length) :
    ∃ s a n c, w.cell? ⟨g, j * 2, none⟩ = some (.bool s) ∧ w.cell? ⟨g, j * 2 + 1, none⟩ = some (.slice a n c) ∧ LG N w s a n c (zs.getD j 0) ∧ Fresh base a n := by
  obtain ⟨ps, h1, h2, h3, h4, h5⟩ := h
  obtain ⟨f1, f2⟩ := flat_get ps j (by omega)
  rcases (owns_cells h3).2 with ⟨e, _⟩ | ⟨g', cap', e, q1, q2, q3⟩
  · cases e
  · obtain rfl : g' = g := by injection e with e1 e2 e3; injection e1 with e1; injection e1 with e1; exact e1.symm
    have hl := length_flat ps
    have a1 := q3.cell (j := j * 2) (by omega)
    have a2 := q3.cell (j := j * 2 + 1) (by omega)
    rw [List.getElem?_eq_getElem (by omega)] at f1 f2
    injection f1 with f1; injection f2 with f2
    exact ⟨_, _, _, _, a1.trans (by rw [f1]), a2.trans (by rw [f2]), (h5 j hj).1, (h5 j hj).2.2⟩

theorem RowL.free {N base w g cap zs} (h : RowL N base w g cap zs) (j : Nat) : w.frozen? ⟨g, j, none⟩ = false := by
  obtain ⟨ps, h1, h2, h3, h4, h5⟩ := h
  rcases (owns_cells h3).2 with ⟨e, _⟩ | ⟨g', cap', e, q1, q2, q3⟩
  · cases e
  · obtain rfl : g' = g := by injection e with e1 e2 e3; injection e1 with e1; injection e1 with e1; exact e1.symm
    exact q3.free j

/-- one of its long integers is written -/
theorem RowL.set {base w g cap zs} (h : RowL w.heap.size base w g cap zs) {j : Nat} (hj : j < zs.length) {s : Bool} {a : Option Addr} {n c : Nat} {z : Int} (hz : LG w.heap.size w s a n c z)
    (hoff : ∀ b off, a = some ⟨b, off, none⟩ → 0 < n → b ≠ g) (hab : Fresh base a n) : RowL ((w.setCell ⟨g, j * 2, none⟩ (.bool s)).setCell ⟨g, j * 2 + 1, none⟩ (.slice a n c)).heap.size base ((w.setCell ⟨g, j * 2, none⟩ (.bool s)).setCell ⟨g, j * 2 + 1, none⟩ (.slice a n c)) g cap (zs.set j z) := by
  obtain ⟨ps, h1, h2, h3, h4, h5⟩ := h
  have hkeep : ∀ {p : LP} {y : Int}, p.at w.heap.size w y → p.off g → p.at ((w.setCell ⟨g, j * 2, none⟩ (.bool s)).setCell ⟨g, j * 2 + 1, none⟩ (.slice a n c)).heap.size ((w.setCell ⟨g, j * 2, none⟩ (.bool s)).setCell ⟨g, j * 2 + 1, none⟩ (.slice a n c)) y := by
    intro p y h1 h2
    have := (LG.setCell h1 ⟨g, j * 2, none⟩ (.bool s) h2).setCell ⟨g, j * 2 + 1, none⟩ (.slice a n c) h2
    unfold LP.at
    simpa using this
  refine ⟨ps.set j ⟨s, a, n, c⟩, h1, by simpa using h2, ?_, by simpa using h4, fun i hi => ?_⟩
  · rcases h3.2 with ⟨e, _⟩ | ⟨g', cap', cur, e, q1, q2, q3, q4, q5, q6⟩
    · cases e
    · obtain rfl : g' = g := by injection e with e1 e2 e3; injection e1 with e1; injection e1 with e1; exact e1.symm
      obtain rfl : cap' = cap := by injection e with e1 e2 e3; exact e3.symm
      have hl := length_flat ps
      have b1 : j * 2 + 1 < zs.length * 2 := by omega
      refine ⟨by rw [length_flat]; simp [h4], Or.inr ⟨g', cap', (cur.setIfInBounds (j * 2) (.bool s)).setIfInBounds (j * 2 + 1) (.slice a n c), by simp, q1, ?_, by simpa using q3, q4, by simpa using q5, ?_⟩⟩
      · exact obj_setCell (obj_setCell q2 (j * 2) (.bool s)) (j * 2 + 1) (.slice a n c)
      · rw [flat_set ps j (by omega), ← q6]
        simp only [Array.toList_setIfInBounds, List.length_set]
        rw [List.take_set, List.take_set]
  · rw [List.length_set] at hi
    simp only [List.getD_eq_getElem?_getD, List.getElem?_set]
    by_cases e : j = i
    · subst e
      rw [if_pos rfl, if_pos (by omega), if_pos rfl, if_pos (by omega)]
      exact ⟨hkeep (p := ⟨s, a, n, c⟩) hz hoff, hoff, hab⟩
    · rw [if_neg e, if_neg e, ← List.getD_eq_getElem?_getD, ← List.getD_eq_getElem?_getD]
      exact ⟨hkeep (h5 i hi).1 (h5 i hi).2.1, (h5 i hi).2⟩

/-- a row of one -/
theorem RowL.one {w : World} {s : Bool} {a : Option Addr} {n c : Nat} {z : Int} (hz : LG w.heap.size w s a n c z) {base : Nat} (hb : base ≤ w.heap.size) (hab : Fresh base a n) :
    RowL (w.alloc (.cells #[.bool s, .slice a n c] 110)).heap.size base (w.alloc (.cells #[.bool s, .slice a n c] 110)) w.heap.size 1 [z] := by
  refine ⟨[⟨s, a, n, c⟩], hb, by simp, ?_, rfl, fun j hj => ?_⟩
  · refine ⟨rfl, Or.inr ⟨w.heap.size, 1, _, rfl, hb, heap_alloc_new _ _, Nat.le_refl _, by unfold maxLen; omega, rfl, rfl⟩⟩
  · obtain rfl : j = 0 := by simpa using hj
    refine ⟨?_, ?_, hab⟩
    · exact LG.go hz ((Below.refl _ _).alloc (Nat.le_refl _) _)
    · intro b off e h0
      obtain ⟨b', off', e', hlt, _⟩ := hz.2.1.2.2 h0
      have : b = b' := by rw [e'] at e; injection e with e; injection e with e; exact e.symm
      omega

/-- behind an append of others -/
theorem RowL.append {base : Nat} {w w' : World} {g cap : Nat} {zs ys : List Int} (h : RowL w.heap.size base w g cap zs) (qs : List LP) (hq : qs.length = ys.length) (hqs : ∀ j, j < ys.length → (qs.getD j LP.none).at w.heap.size w (ys.getD j 0) ∧ (qs.getD j LP.none).off g ∧ (qs.getD j LP.none).above base)
    {g' cap' : Nat} {ps : List LP} (hps : ps.length = zs.length ∧ ∀ j, j < zs.length → LP.at w.heap.size w (ps.getD j LP.none) (zs.getD j 0) ∧ (ps.getD j LP.none).off g ∧ (ps.getD j LP.none).above base)
    (hown : w'.ownsRow base 110 2 (.slice (some ⟨g', 0, none⟩) (zs.length + ys.length) cap') (zs.length + ys.length) (flat ps ++ flat qs)) (hgrow : w.grownBy w' (some g)) (hat : g = g' ∨ g' = w.heap.size) (hlt : g' < w'.heap.size) :
    RowL w'.heap.size base w' g' cap' (zs ++ ys) := by
  have hkeep : ∀ {p : LP} {y : Int}, p.at w.heap.size w y → p.off g → p.at w'.heap.size w' y ∧ p.off g' := by
    intro p y h1 h2
    refine ⟨(LG.grown h1 hgrow (fun b off e h0 => by have := h2 b off e h0; simpa using this)).mono hgrow.size, fun b off e h0 => ?_⟩
    rcases hat with rfl | rfl
    · exact h2 b off e h0
    · obtain ⟨b', off', e', hlt, _⟩ := h1.2.1.2.2 h0
      have : b = b' := by rw [e'] at e; injection e with e; injection e with e; exact e.symm
      omega
  refine ⟨ps ++ qs, ?_, hlt, by rw [flat_append, List.length_append]; exact hown, by rw [List.length_append, List.length_append, hps.1, hq], fun j hj => ?_⟩
  · rcases hat with rfl | rfl
    · exact h.base_le
    · exact Nat.le_trans h.base_le (Nat.le_of_lt h.lt)
  · rw [List.length_append] at hj
    by_cases hj2 : j < zs.length
    · have := hps.2 j hj2
      simp only [List.getD_eq_getElem?_getD] at this ⊢
      rw [List.getElem?_append_left (by omega), List.getElem?_append_left (by omega)]
      exact ⟨(hkeep this.1 this.2.1).1, (hkeep this.1 this.2.1).2, this.2.2⟩
    · have := hqs (j - zs.length) (by omega)
      simp only [List.getD_eq_getElem?_getD] at this ⊢
      rw [List.getElem?_append_right (by omega), List.getElem?_append_right (by omega), hps.1]
      exact ⟨(hkeep this.1 this.2.1).1, (hkeep this.1 this.2.1).2, this.2.2⟩

theorem Tryz.infoLong : (Tryz.prog.info? 110).map (fun i => (i.zero, i.size, i.bytes)) = some (some (.agg #[.bool false, .slice none 0 0]), 2, 32) := by kernel_rfl

/-- append of one long integer to a row of the call's own -/
theorem wpList_append_one {ops : Array Oper} {rest : List Oper} {o : Oper} {a : Act} {Q : Exit → Act → World → Prop} (hgd : o.guard = none) (s x : Operand)
    (ho : o.op = .call { callee := .builtin .append, args := #[s, x], argTypes := #[106, 106] }) {base N : Nat} {w3 : World} {g cap : Nat} {zs : List Int}
    (hs : a.eval s = .slice (some ⟨g, 0, none⟩) N cap) (hN : N = zs.length) (hrow : RowL w3.heap.size base w3 g cap zs) {sg : Bool} {av : Option Addr} {n c : Nat} {z : Int} (hl : LG w3.heap.size w3 sg av n c z)
    (hoff : ∀ b off, av = some ⟨b, off, none⟩ → 0 < n → b ≠ g) (hab : Fresh base av n) (hx : a.eval x = .slice (some ⟨w3.heap.size, 0, none⟩) 1 1) (hlen : zs.length ≤ 1000000)
    (h : ∀ g' cap' w', RowL w'.heap.size base w' g' cap' (zs ++ [z]) → (∀ B w0, B ≤ base → Below B w0 w3 → Below B w0 w') → wpList Tryz.prog ops Q rest (a.put o.dst (.slice (some ⟨g', 0, none⟩) (N + 1) cap')) w') :
    wpList Tryz.prog ops Q (o :: rest) a (w3.alloc (.cells #[.bool sg, .slice av n c] 110)) := by
  subst hN
  have hrow' := hrow.go ((Below.refl _ _).alloc (Nat.le_refl _) (.cells #[.bool sg, .slice av n c] 110))
  obtain ⟨ps, h1, h2, h3, h4, h5⟩ := id hrow'
  obtain ⟨i, hi1, hi2, hi3, hi4⟩ := info_of Tryz.infoLong
  refine wpList_plain hgd fun K hK => ?_
  refine wp_append_lies _ s x 106 ho base 110 i _ 2 32 Tryz.underlying106 hi1 hi2 hi3 hi4 rfl (by omega) _ zs.length (flat ps) hs h3
    ⟨w3.heap.size, 0, none⟩ 1 1 [.bool sg, .slice av n c] hx rfl (World.news_of_block (cs := #[.bool sg, .slice av n c]) (t := 110) (fr := (0, 0)) (heap_alloc_new w3 _)) (by simp [Value.oneCell'])
    (by omega) (by unfold maxLen; omega) (by omega) (by omega) _ rfl ?_
  intro g' cap' w' hown hgrow hat hlt
  have hat' : g = g' ∨ g' = (w3.alloc (.cells #[.bool sg, .slice av n c] 110)).heap.size := hat.imp (fun e => by simpa [Value.ownBlock] using e) id
  refine hK _ _ (h g' cap' w' ?_ ?_)
  · refine RowL.append hrow' [⟨sg, av, n, c⟩] rfl (fun j hj => ?_) (ps := ps) ⟨h4, h5⟩ hown hgrow hat' hlt
    obtain rfl : j = 0 := by simpa using hj
    exact ⟨LG.go hl ((Below.refl _ _).alloc (Nat.le_refl _) _), hoff, hab⟩
  · intro B w0 hB hb
    have hsz := hrow.lt
    exact (hb.alloc (by omega) _).grown hgrow (by simp; omega) (fun k hk => by simp [Value.ownBlock] at hk; omega)

theorem oneCell_flat (ps : List LP) : ∀ u ∈ flat ps, u.oneCell' = true := by
  intro u hu
  obtain ⟨p, _, hp⟩ := List.mem_flatMap.1 hu
  simp only [LP.cells, List.mem_cons, List.not_mem_nil, or_false] at hp
  rcases hp with rfl | rfl <;> rfl
theorem LG.lt_of {N : Nat} {w : World} {s : Bool} {a : Option Addr} {n c : Nat} {z : Int} (h : LG N w s a n c z) {b off : Nat} (e : a = some ⟨b, off, none⟩) (h0 : 0 < n) : b < N := by
  obtain ⟨b', off', e', hlt, _⟩ := h.2.1.2.2 h0
  subst e
  simp at e'
  omega

/-- append of another row to a row of the call's own -/
theorem wpList_append_row {w : World} {ops : Array Oper} {rest : List Oper} {o : Oper} {a : Act} {Q : Exit → Act → World → Prop} (hgd : o.guard = none) (s x : Operand)
    (ho : o.op = .call { callee := .builtin .append, args := #[s, x], argTypes := #[106, 106] }) {base N : Nat} {g cap : Nat} {zs : List Int}
    (hs : a.eval s = .slice (some ⟨g, 0, none⟩) N cap) (hN : N = zs.length) (hrow : RowL w.heap.size base w g cap zs)
    {M N2 base2 g2 cap2 : Nat} {ys : List Int} (hx : a.eval x = .slice (some ⟨g2, 0, none⟩) M cap2) (hM : M = ys.length) (hsrc : RowL N2 base2 w g2 cap2 ys) (hN2 : N2 ≤ g) (hb2 : base ≤ base2) (hpos : 0 < ys.length) (hlen : zs.length + ys.length ≤ 1000000)
    (h : ∀ g' cap' w', RowL w'.heap.size base w' g' cap' (zs ++ ys) → g ≤ g' → (∀ B w0, B ≤ g → Below B w0 w → Below B w0 w') → wpList Tryz.prog ops Q rest (a.put o.dst (.slice (some ⟨g', 0, none⟩) (N + M) cap')) w') :
    wpList Tryz.prog ops Q (o :: rest) a w := by
  subst hN hM
  obtain ⟨ps, h1, h2, h3, h4, h5⟩ := id hrow
  obtain ⟨qs, k1, k2, k3, k4, k5⟩ := id hsrc
  obtain ⟨i, hi1, hi2, hi3, hi4⟩ := info_of Tryz.infoLong
  have hcells : ∀ j u, (flat qs)[j]? = some u → w.cell? ((⟨g2, 0, none⟩ : Addr).add j) = some u := k3.cells (g := g2) rfl
  refine wpList_plain hgd fun K hK => ?_
  refine wp_append_lies _ s x 106 ho base 110 i _ 2 32 Tryz.underlying106 hi1 hi2 hi3 hi4 rfl (by omega) _ zs.length (flat ps) hs h3
    ⟨g2, 0, none⟩ ys.length cap2 (flat qs) hx (by rw [length_flat, k4]) hcells (oneCell_flat qs)
    hpos (by unfold maxLen; omega) (by omega) (by omega) _ rfl ?_
  intro g' cap' w' hown hgrow hat hlt
  have hat' : g = g' ∨ g' = w.heap.size := hat.imp (fun e => by simpa [Value.ownBlock] using e) id
  refine hK _ _ (h g' cap' w' ?_ (by omega) ?_)
  · refine RowL.append hrow qs k4 (fun j hj => ⟨LG.mono (k5 j hj).1 (by omega), fun b off e h0 => ?_, fun b off e h0 => Nat.le_trans hb2 ((k5 j hj).2.2 b off e h0)⟩) (ps := ps) ⟨h4, h5⟩ hown hgrow hat' hlt
    have := LG.lt_of (k5 j hj).1 e h0
    omega
  · intro B w0 hB hb
    exact hb.grown hgrow (by omega) (fun k hk => by simp [Value.ownBlock] at hk; omega)

end Go.Proofs.YthommhfppeonpaaGreatDoor

namespace Go.Proofs.YthommhfppeonpaaGreatDoor
open Go.RowKit

structure OnlyB (b : Nat) (w w' : World) : Prop where
  os : w'.os = w.os
  tape : w'.tape = w.tape
  output : w'.output = w.output
  size : w'.heap.size = w.heap.size
  block : ∀ k, k ≠ b → w'.heap[k]? = w.heap[k]?

theorem OnlyB.refl (b : Nat) (w : World) : OnlyB b w w := ⟨rfl, rfl, rfl, rfl, fun _ _ => rfl⟩
theorem OnlyB.set {b : Nat} {w w' : World} (h : OnlyB b w w') (i : Nat) (u : Value) : OnlyB b w (w'.setCell ⟨b, i, none⟩ u) :=
  ⟨h.os, h.tape, h.output, by simp [h.size], fun k hk => (Below.heap_setCell _ _ _ _ hk).trans (h.block k hk)⟩
theorem OnlyB.below {b B : Nat} {w w' : World} (h : OnlyB b w w') (hB : B ≤ b) : Below B w w' := ⟨h.os, h.tape, h.output, by rw [h.size]; exact Nat.le_refl _, fun k hk => h.block k (by omega)⟩
theorem OnlyB.cell {b : Nat} {w w' : World} (h : OnlyB b w w') {p : Addr} (hp : p.block ≠ b) : w'.cell? p = w.cell? p := World.cell?_of_block (w := w) (h.block p.block hp)
theorem OnlyB.frozen {b : Nat} {w w' : World} (h : OnlyB b w w') {p : Addr} (hp : p.block ≠ b) : w'.frozen? p = w.frozen? p := World.frozen?_of_block (w := w) (h.block p.block hp)

theorem SL.only {N : Nat} {w w' : World} {a : Option Addr} {n c b : Nat} {zs : List Int} (h : SL N w a n c zs) (ho : OnlyB b w w') (hne : ∀ b' off, a = some ⟨b', off, none⟩ → 0 < n → b' ≠ b) : SL N w' a n c zs := by
  refine ⟨h.1, h.2.1, fun h0 => ?_⟩
  obtain ⟨b', off, e, hlt, hc⟩ := h.2.2 h0
  exact ⟨b', off, e, hlt, fun j hj => (ho.cell (p := ⟨b', off + j, none⟩) (hne b' off e h0)).trans (hc j hj)⟩
theorem LG.only {N : Nat} {w w' : World} {s : Bool} {a : Option Addr} {n c b : Nat} {z : Int} (h : LG N w s a n c z) (ho : OnlyB b w w') (hne : ∀ b' off, a = some ⟨b', off, none⟩ → 0 < n → b' ≠ b) : LG N w' s a n c z :=
  ⟨h.1, h.2.1.only ho hne, h.2.2⟩

theorem RowL.only {N base : Nat} {w w' : World} {g cap b : Nat} {zs : List Int} (h : RowL N base w g cap zs) (ho : OnlyB b w w') (hb : b < base ∨ N ≤ b) : RowL N base w' g cap zs := by
  obtain ⟨ps, h1, h2, h3, h4, h5⟩ := h
  refine ⟨ps, h1, h2, ?_, h4, fun j hj => ⟨LG.only (h5 j hj).1 ho (fun b' off e h0 => ?_), (h5 j hj).2⟩⟩
  · obtain ⟨l, r⟩ := h3
    refine ⟨l, r.imp id ?_⟩
    rintro ⟨g', cap', cur, e, q1, q2, q3⟩
    have : g' = g := by injection e with e1 e2 e3; injection e1 with e1; injection e1 with e1; exact e1.symm
    exact ⟨g', cap', cur, e, q1, (ho.block g' (by omega)).trans q2, q3⟩
  · have a1 := (h5 j hj).2.2 b' off e h0
    have a2 := LG.lt_of (h5 j hj).1 e h0
    omega

/-- from here on the world is any one of which these facts hold -/
theorem gen_only {b : Nat} {w W : World} {cs : Array Value} {T : TypeId} (G : World → Prop) (hobj : W.heap[b]? = some (.cells cs T (0, 0))) (ho : OnlyB b w W)
    (h : ∀ w', w'.heap[b]? = some (.cells cs T (0, 0)) → OnlyB b w w' → G w') : G W := h W hobj ho

/-- what stands in a block that is known whole -/
theorem obj_cell {w : World} {b : Nat} {cs : Array Value} {T : TypeId} (h : w.heap[b]? = some (.cells cs T (0, 0))) (i : Nat) : w.cell? ⟨b, i, none⟩ = cs[i]? := by simp [World.cell?, h]
theorem obj_free {w : World} {b : Nat} {cs : Array Value} {T : TypeId} (h : w.heap[b]? = some (.cells cs T (0, 0))) (i : Nat) : w.frozen? ⟨b, i, none⟩ = false := by simp [World.frozen?, h]

end Go.Proofs.YthommhfppeonpaaGreatDoor

namespace Go.Proofs.YthommhfppeonpaaGreatDoor
open Go.RowKit

section
variable {B : Nat} {P : Program} {ops : Array Oper} {Q : Exit → Act → World → Prop} {md : Region.Mode}

/-- Whatever order is picked from here on; behind each operation before number n what was there is as it was. -/
def wpRB (B : Nat) (P : Program) (md : Region.Mode) (ops : Array Oper) (Q : Exit → Act → World → Prop) (n : Nat) : Nat → Array Bool → Act → World → Prop
  | 0, listed, a, w => Region.ready md ops listed = [] ∧ Q .normal a w
  | fuel + 1, listed, a, w =>
    (Region.ready md ops listed = [] → Q .normal a w) ∧
    ∀ i ∈ Region.ready md ops listed, wpOp P ops Q i (fun a' w' => (i < n → Below B w w') ∧ wpRB B P md ops Q n fuel (listed.setIfInBounds i true) a' w') a w

theorem wpAny_of_RB {n : Nat} : ∀ (fuel : Nat) (listed : Array Bool) (a : Act) (w : World), wpRB B P md ops Q n fuel listed a w → wpAny P md ops Q fuel listed a w
  | 0, _, _, _, h => h
  | fuel + 1, _, _, _, h => ⟨h.1, fun i hi => wpOp_mono (fun a' w' h' => wpAny_of_RB fuel _ a' w' h'.2) (h.2 i hi)⟩

theorem YieldsIf.stayB {o : Oper} {v : Value} {a : Act} {w w' : World} (h : YieldsIf P ops (fun x => Below B w x) o v a) (hb : Below B w w') :
    YieldsIf P ops (fun x => Below B w' x) o v a :=
  h.imp (fun ⟨h1, h2⟩ => ⟨h1, fun x hx => h2 x (hb.trans hx)⟩) id

theorem wpR_firstB {n i : Nat} {oi : Oper} {v : Value} (hi : ops[i]? = some oi) (hsel : ∀ (j : Nat) (o : Oper) cs b, ops[j]? = some o → o.op ≠ .select cs b)
    (hs : Region.sinkB md ops n = true) (hc : Region.chainB md ops n = true) (hn : n < ops.size) (hin : i < n)
    (hQ : ∀ c a w, Q (.panic c) (a.put oi.dst v) w → Q (.panic c) a w) :
    ∀ (fuel : Nat) (listed : Array Bool) (a : Act) (w : World), HeadInv md ops n listed →
      (∀ j oj, ops[j]? = some oj → j ≠ i → listed.getD j true = false → (∀ e ∈ oj.after, Region.binds md e = true → e.on ≠ i) → oi.apart ops oj = true) →
      i ∈ Region.ready md ops listed → YieldsIf P ops (fun x => Below B w x) oi v a →
      wpRB B P md ops Q n fuel (listed.setIfInBounds i true) (a.put oi.dst v) w → wpRB B P md ops Q n (fuel + 1) listed a w := by
  intro fuel
  induction fuel with
  | zero =>
    intro listed a w _ _ hr hy H
    refine ⟨fun h => (by rw [h] at hr; cases hr), fun j hj => ?_⟩
    by_cases hji : j = i
    · subst hji; exact hy.wpOp hi (Below.refl _ _) ⟨fun _ => Below.refl _ _, H⟩
    · have := ready_mono hj hji
      rw [H.1] at this
      cases this
  | succ fuel ih =>
    intro listed a w inv hfree hr hy H
    have hun := (mem_ready.1 hr).1
    refine ⟨fun h => (by rw [h] at hr; cases hr), fun j hj => ?_⟩
    have hjn : j < n := by
      rcases Nat.lt_or_ge j n with h | h
      · exact h
      · exact absurd hj (tail_waits hs hc hn inv _ i rfl hin hun j h)
    by_cases hji : j = i
    · subst hji; exact hy.wpOp hi (Below.refl _ _) ⟨fun _ => Below.refl _ _, H⟩
    · have h1 := H.2 j (ready_mono hj hji)
      obtain ⟨hjun, oj, hoj, hall⟩ := mem_ready.1 hj
      have hnot : ∀ e ∈ oj.after, Region.binds md e = true → e.on ≠ i := fun e he hb heq => by
        have h1 := hall e he hb
        rw [heq, getD_both hun] at h1
        cases h1
      have h2 := wpOp_putIf hoj (hfree j oj hoj hji hjun hnot) (fun cs b => hsel i oi cs b hi) (fun cs b => hsel j oj cs b hoj) hQ hy h1
      have hfree' : ∀ k ok, ops[k]? = some ok → k ≠ i → (listed.setIfInBounds j true).getD k true = false →
          (∀ e ∈ ok.after, Region.binds md e = true → e.on ≠ i) → oi.apart ops ok = true := fun k ok hk hki hun hno => by
        refine hfree k ok hk hki ?_ hno
        by_cases hjk : j = k
        · subst hjk; exact hjun
        · rw [getD_set_ne true hjk] at hun; exact hun
      refine wpOp_mono (fun a' w' h3 => ⟨h3.2.1, ih (listed.setIfInBounds j true) a' w' (inv.set hj hjn) hfree' (ready_mono hr (Ne.symm hji)) (YieldsIf.stayB h3.1 (h3.2.1 hjn)) ?_⟩) h2
      rw [Array.setIfInBounds_comm _ _ hji]
      exact h3.2.2

/-- the walk in the chosen order -/
def wpOrdB (B : Nat) (P : Program) (ops : Array Oper) (Q : Exit → Act → World → Prop) (n : Nat) : List (Nat × Bool) → Act → World → Prop
  | [], a, w => wpList P ops Q (ops.toList.drop n) a w
  | (i, true) :: rest, a, w => ∃ o v, ops[i]? = some o ∧ YieldsIf P ops (fun x => Below B w x) o v a ∧ (∀ c a w, Q (.panic c) (a.put o.dst v) w → Q (.panic c) a w) ∧ wpOrdB B P ops Q n rest (a.put o.dst v) w
  | (i, false) :: rest, a, w => wpOp P ops Q i (fun a' w' => Below B w w' ∧ wpOrdB B P ops Q n rest a' w') a w

theorem wpR_of_seqB {n : Nat} {Q' : Exit → Act → World → Prop} : ∀ (l : List Oper) (k : Nat) (listed : Array Bool) (a : Act) (w : World), n ≤ k → (∀ j, l[j]? = ops[k + j]?) →
    Region.seqB md ops l.length k listed = true → wpList P ops Q' l a w → wpRB B P md ops Q' n l.length listed a w
  | [], _, _, _, _, _, _, hB, h => ⟨by simpa [Region.seqB] using hB, h⟩
  | o :: l, k, listed, a, w, hk, hl, hB, h => by
    have h0 : ops[k]? = some o := by simpa using (hl 0).symm
    simp only [List.length_cons, Region.seqB, Bool.and_eq_true, decide_eq_true_eq] at hB
    refine ⟨fun h1 => (by rw [hB.1] at h1; cases h1), fun i hi => ?_⟩
    rw [hB.1] at hi
    have hik : i = k := by simpa using hi
    subst hik
    have hw : wpOp P ops Q' i (wpList P ops Q' l) a w := by unfold wpOp; simp only [h0]; exact h
    exact wpOp_mono (fun a' w' h' => ⟨fun hlt => absurd hlt (by omega), wpR_of_seqB l (i + 1) _ a' w' (by omega) (fun j => by have := hl (j + 1); simpa [Nat.add_assoc, Nat.add_comm 1 j] using this) hB.2 h'⟩) hw

theorem wpR_of_ordB {n : Nat} (hsel : Region.noSelect ops = true) (hs : Region.sinkB md ops n = true) (hc : Region.chainB md ops n = true) (hn : n < ops.size) :
    ∀ (ord : List (Nat × Bool)) (listed : Array Bool) (a : Act) (w : World), HeadInv md ops n listed → ordB md ops n ord listed = true → wpOrdB B P ops Q n ord a w →
      wpRB B P md ops Q n (ord.length + (ops.size - n)) listed a w
  | [], listed, a, w, _, hB, h => by
    have := wpR_of_seqB (B := B) (md := md) (n := n) (Q' := Q) (ops.toList.drop n) n listed a w (Nat.le_refl _) (fun j => by simp [List.getElem?_drop]) (by simpa [ordB] using hB) h
    simpa using this
  | (i, true) :: rest, listed, a, w, inv, hB, h => by
    obtain ⟨o, v, ho, hy, hQ, h⟩ := h
    simp only [ordB, if_true, Bool.and_eq_true, decide_eq_true_eq] at hB
    obtain ⟨⟨⟨h1, h2⟩, h3⟩, h4⟩ := hB
    have hr : i ∈ Region.ready md ops listed := by simpa using h1
    have := wpR_firstB ho (Region.noSelect_spec hsel) hs hc hn h3 hQ _ listed a w inv (Region.free_spec ho h2) hr hy (wpR_of_ordB hsel hs hc hn rest _ _ w (inv.set hr h3) h4 h)
    rw [List.length_cons, show rest.length + 1 + (ops.size - n) = rest.length + (ops.size - n) + 1 by omega]
    exact this
  | (i, false) :: rest, listed, a, w, inv, hB, h => by
    simp only [ordB, Bool.false_eq_true, if_false, Bool.and_eq_true, decide_eq_true_eq] at hB
    obtain ⟨⟨h1, h3⟩, h4⟩ := hB
    have hr : i ∈ Region.ready md ops listed := by rw [h1]; simp
    rw [List.length_cons, show rest.length + 1 + (ops.size - n) = rest.length + (ops.size - n) + 1 by omega]
    refine ⟨fun h0 => (by rw [h0] at h1; cases h1), fun j hj => ?_⟩
    rw [h1] at hj
    obtain rfl : j = i := by simpa using hj
    exact wpOp_mono (fun a' w' h' => ⟨fun _ => h'.1, wpR_of_ordB hsel hs hc hn rest _ a' w' (inv.set hr h3) h4 h'.2⟩) h

/-- THE BEGINNING -/
theorem wp_region_eagerB {id : Nat} {a : Act} {w : World} (n : Nat) (ord : List (Nat × Bool)) (hm : P.follows .mixedOrders = true) (hB : eagerB .any ops n ord = true)
    (h : wpOrdB B P ops Q n ord a w.drew) : (Code.region id ops true).wp P Q a w := by
  simp only [eagerB, Bool.and_eq_true, decide_eq_true_eq] at hB
  obtain ⟨⟨⟨⟨⟨hsel, hn⟩, hl⟩, hs⟩, hc⟩, ho⟩ := hB
  have inv0 : HeadInv .any ops n (Array.replicate ops.size false) :=
    ⟨by simp, fun j oj _ hl => (by rw [getD_replicate_false] at hl; cases hl), fun t _ ht => getD_in (by simpa using ht) (getD_replicate_false _ _)⟩
  have := wpR_of_ordB (P := P) (Q := Q) hsel hs hc hn ord _ a w.drew inv0 ho h
  rw [hl, show n + (ops.size - n) = ops.size by omega] at this
  exact wp_region_any hm (wpAny_of_RB _ _ _ _ this)

/-- an operation that merely yields -/
theorem wpOrd_yieldB {n i : Nat} {rest : List (Nat × Bool)} {o : Oper} {v : Value} {a : Act} {w : World} (hi : ops.toList[i]? = some o) (hQ : ∀ c a w, Q (.panic c) (a.put o.dst v) w → Q (.panic c) a w)
    (hw : Region.wanted o (yielded ops a.tmps) = true) (hy : ∀ x, Below B w x → (execOp a.eval o).run P x = .ok (.value v) x)
    (h : wpOrdB B P ops Q n rest (a.put o.dst v) w) : wpOrdB B P ops Q n ((i, true) :: rest) a w :=
  ⟨o, v, by rw [← Array.getElem?_toList]; exact hi, Or.inl ⟨hw, hy⟩, hQ, h⟩

/-- an operation whose guard is false -/
theorem wpOrd_skipB {n i : Nat} {rest : List (Nat × Bool)} {o : Oper} {a : Act} {w : World} (hi : ops.toList[i]? = some o) (hQ : ∀ c a w, Q (.panic c) (a.put o.dst undef) w → Q (.panic c) a w)
    (hw : Region.wanted o (yielded ops a.tmps) = false)
    (h : wpOrdB B P ops Q n rest (a.put o.dst undef) w) : wpOrdB B P ops Q n ((i, true) :: rest) a w :=
  ⟨o, undef, by rw [← Array.getElem?_toList]; exact hi, Or.inr ⟨hw, rfl⟩, hQ, h⟩

/-- an operation that comes up alone: a call, a new variable -/
theorem wpOrd_stepB {n i : Nat} {rest : List (Nat × Bool)} {o : Oper} {a : Act} {w : World} (hi : ops.toList[i]? = some o) (hg : o.guard = none)
    (h : ∀ K : Act → World → Prop, (∀ a' w', Below B w w' → wpOrdB B P ops Q n rest a' w' → K a' w') → o.wp P a w K Q) : wpOrdB B P ops Q n ((i, false) :: rest) a w := by
  have hw : Region.wanted o (yielded ops a.tmps) = true := by simp [Region.wanted, hg]
  rw [Array.getElem?_toList] at hi
  show wpOp P ops Q i _ a w
  unfold wpOp
  simp only [hi, hw, if_true]
  exact .inl (h _ fun a' w' h1 h2 => ⟨h1, h2⟩)

theorem wpOrd_nilB {n : Nat} {a : Act} {w : World} {l : List Oper} (hl : ops.toList.drop n = l) (h : wpList P ops Q l a w) : wpOrdB B P ops Q n [] a w := by
  subst hl; exact h

end
end Go.Proofs.YthommhfppeonpaaGreatDoor

namespace Go.Proofs.YthommhfppeonpaaGreatDoor
open Go.RowKit

section
variable {B : Nat} {P : Program} {ops : Array Oper} {Q : Exit → Act → World → Prop} {md : Region.Mode}

/-- a read is taken first -/
theorem wpR_firstK {i : Nat} {oi : Oper} {v : Value} (hi : ops[i]? = some oi) (hsel : ∀ (j : Nat) (o : Oper) cs b, ops[j]? = some o → o.op ≠ .select cs b)
    (hQ : ∀ c a w, Q (.panic c) (a.put oi.dst v) w → Q (.panic c) a w) :
    ∀ (fuel : Nat) (listed : Array Bool) (a : Act) (w : World),
      (∀ j oj, ops[j]? = some oj → j ≠ i → listed.getD j true = false → (∀ e ∈ oj.after, Region.binds md e = true → e.on ≠ i) → oi.apart ops oj = true) →
      i ∈ Region.ready md ops listed → YieldsIf P ops (fun x => Below B w x) oi v a →
      wpRB B P md ops Q ops.size fuel (listed.setIfInBounds i true) (a.put oi.dst v) w → wpRB B P md ops Q ops.size (fuel + 1) listed a w := by
  intro fuel
  induction fuel with
  | zero =>
    intro listed a w _ hr hy H
    refine ⟨fun h => (by rw [h] at hr; cases hr), fun j hj => ?_⟩
    by_cases hji : j = i
    · subst hji; exact hy.wpOp hi (Below.refl _ _) ⟨fun _ => Below.refl _ _, H⟩
    · have := ready_mono hj hji
      rw [H.1] at this
      cases this
  | succ fuel ih =>
    intro listed a w hfree hr hy H
    have hun := (mem_ready.1 hr).1
    refine ⟨fun h => (by rw [h] at hr; cases hr), fun j hj => ?_⟩
    by_cases hji : j = i
    · subst hji; exact hy.wpOp hi (Below.refl _ _) ⟨fun _ => Below.refl _ _, H⟩
    · have h1 := H.2 j (ready_mono hj hji)
      obtain ⟨hjun, oj, hoj, hall⟩ := mem_ready.1 hj
      have hjn : j < ops.size := (Array.getElem?_eq_some_iff.1 hoj).1
      have hnot : ∀ e ∈ oj.after, Region.binds md e = true → e.on ≠ i := fun e he hb heq => by
        have h1 := hall e he hb
        rw [heq, getD_both hun] at h1
        cases h1
      have h2 := wpOp_putIf hoj (hfree j oj hoj hji hjun hnot) (fun cs b => hsel i oi cs b hi) (fun cs b => hsel j oj cs b hoj) hQ hy h1
      have hfree' : ∀ k ok, ops[k]? = some ok → k ≠ i → (listed.setIfInBounds j true).getD k true = false →
          (∀ e ∈ ok.after, Region.binds md e = true → e.on ≠ i) → oi.apart ops ok = true := fun k ok hk hki hun hno => by
        refine hfree k ok hk hki ?_ hno
        by_cases hjk : j = k
        · subst hjk; exact hjun
        · rw [getD_set_ne true hjk] at hun; exact hun
      refine wpOp_mono (fun a' w' h3 => ⟨h3.2.1, ih (listed.setIfInBounds j true) a' w' hfree' (ready_mono hr (Ne.symm hji)) (YieldsIf.stayB h3.1 (h3.2.1 hjn)) ?_⟩) h2
      rw [Array.setIfInBounds_comm _ _ hji]
      exact h3.2.2

/-- the reads, and then any order; what lies below B stays -/
def wpRd (B : Nat) (P : Program) (ops : Array Oper) (Q : Exit → Act → World → Prop) : List Nat → Nat → Array Bool → Act → World → Prop
  | [], m, listed, a, w => wpRB B P .any ops Q ops.size m listed a w
  | i :: rest, m, listed, a, w => ∃ o v, ops[i]? = some o ∧ YieldsIf P ops (fun x => Below B w x) o v a ∧ wpRd B P ops Q rest m (listed.setIfInBounds i true) (a.put o.dst v) w

def readsB (ops : Array Oper) : List Nat → Array Bool → Bool
  | [], _ => true
  | i :: rest, listed => (Region.ready .any ops listed).contains i && Region.free .any ops listed i && readsB ops rest (listed.setIfInBounds i true)

theorem wpR_of_reads (hsel : Region.noSelect ops = true) (hQ2 : ∀ c a o u w, Q (.panic c) (a.put o u) w → Q (.panic c) a w) :
    ∀ (is : List Nat) (m : Nat) (listed : Array Bool) (a : Act) (w : World), readsB ops is listed = true → wpRd B P ops Q is m listed a w → wpRB B P .any ops Q ops.size (is.length + m) listed a w
  | [], m, listed, a, w, _, h => by rw [List.length_nil, Nat.zero_add]; exact h
  | i :: is, m, listed, a, w, hB, h => by
    simp only [readsB, Bool.and_eq_true] at hB
    obtain ⟨⟨h1, h2⟩, h3⟩ := hB
    obtain ⟨o, v, ho, hy, h⟩ := h
    have h1 : i ∈ Region.ready .any ops listed := by simpa using h1
    have hrec := wpR_of_reads hsel hQ2 is m (listed.setIfInBounds i true) (a.put o.dst v) w h3 h
    rw [show (i :: is).length + m = (is.length + m) + 1 by rw [List.length_cons]; omega]
    exact wpR_firstK ho (Region.noSelect_spec hsel) (fun c a w => hQ2 c a o.dst v w) _ _ _ w (Region.free_spec ho h2) h1 hy hrec

/-- THE BEGINNING -/
theorem wp_region_reads {id : Nat} {a : Act} {w : World} (B : Nat) (is : List Nat) (m : Nat)
    (hm : P.follows .mixedOrders = true) (hsz : ops.size = is.length + m) (hsel : Region.noSelect ops = true) (hB : readsB ops is (Array.replicate ops.size false) = true)
    (hQ2 : ∀ c a o u w, Q (.panic c) (a.put o u) w → Q (.panic c) a w)
    (h : wpRd B P ops Q is m (Array.replicate ops.size false) a w.drew) : (Code.region id ops true).wp P Q a w := by
  have := wpR_of_reads hsel hQ2 is m (Array.replicate ops.size false) a w.drew hB h
  rw [← hsz] at this
  exact wp_region_any hm (wpAny_of_RB _ _ _ _ this)

theorem wpRd_yield {i m : Nat} {rest : List Nat} {o : Oper} {v : Value} {listed : Array Bool} {a : Act} {w : World} (hi : ops.toList[i]? = some o)
    (hw : Region.wanted o (yielded ops a.tmps) = true) (hy : ∀ x, Below B w x → (execOp a.eval o).run P x = .ok (.value v) x)
    (h : wpRd B P ops Q rest m (listed.setIfInBounds i true) (a.put o.dst v) w) : wpRd B P ops Q (i :: rest) m listed a w :=
  ⟨o, v, by rw [← Array.getElem?_toList]; exact hi, Or.inl ⟨hw, hy⟩, h⟩

theorem wpRd_nil {m : Nat} {listed : Array Bool} {a : Act} {w : World} (h : wpRB B P .any ops Q ops.size m listed a w) : wpRd B P ops Q [] m listed a w := h

/-- one comes up alone -/
theorem wpR_one {n fuel i : Nat} {o : Oper} {listed : Array Bool} {a : Act} {w : World} (hr : Region.ready md ops listed = [i]) (hi : ops.toList[i]? = some o) (hg : o.guard = none)
    (h : ∀ K : Act → World → Prop, (∀ a' w', Below B w w' → wpRB B P md ops Q n fuel (listed.setIfInBounds i true) a' w' → K a' w') → o.wp P a w K Q) : wpRB B P md ops Q n (fuel + 1) listed a w := by
  have hw : Region.wanted o (yielded ops a.tmps) = true := by simp [Region.wanted, hg]
  rw [Array.getElem?_toList] at hi
  refine ⟨fun h0 => (by rw [hr] at h0; cases h0), fun j hj => ?_⟩
  rw [hr] at hj
  obtain rfl : j = i := by simpa using hj
  unfold wpOp
  simp only [hi, hw, if_true]
  exact .inl (h _ fun a' w' h1 h2 => ⟨fun _ => h1, h2⟩)

/-- one of two comes up -/
theorem wpR_two {n fuel i j : Nat} {o o' : Oper} {listed : Array Bool} {a : Act} {w : World} (hr : Region.ready md ops listed = [i, j]) (hi : ops.toList[i]? = some o) (hj : ops.toList[j]? = some o') (hg : o.guard = none) (hg' : o'.guard = none)
    (h : ∀ K : Act → World → Prop, (∀ a' w', Below B w w' → wpRB B P md ops Q n fuel (listed.setIfInBounds i true) a' w' → K a' w') → o.wp P a w K Q)
    (h' : ∀ K : Act → World → Prop, (∀ a' w', Below B w w' → wpRB B P md ops Q n fuel (listed.setIfInBounds j true) a' w' → K a' w') → o'.wp P a w K Q) : wpRB B P md ops Q n (fuel + 1) listed a w := by
  have hw : Region.wanted o (yielded ops a.tmps) = true := by simp [Region.wanted, hg]
  have hw' : Region.wanted o' (yielded ops a.tmps) = true := by simp [Region.wanted, hg']
  rw [Array.getElem?_toList] at hi hj
  refine ⟨fun h0 => (by rw [hr] at h0; cases h0), fun k hk => ?_⟩
  rw [hr] at hk
  simp only [List.mem_cons, List.not_mem_nil, or_false] at hk
  rcases hk with rfl | rfl
  · unfold wpOp
    simp only [hi, hw, if_true]
    exact .inl (h _ fun a' w' h1 h2 => ⟨fun _ => h1, h2⟩)
  · unfold wpOp
    simp only [hj, hw', if_true]
    exact .inl (h' _ fun a' w' h1 h2 => ⟨fun _ => h1, h2⟩)

theorem put_comm {d1 d2 : Tmp} (h : d1 ≠ d2) (u v : Value) (a : Act) : (a.put (some d2) u).put (some d1) v = (a.put (some d1) v).put (some d2) u := by
  simp only [Act.put]
  rw [Array.setIfInBounds_comm _ _ (Ne.symm h)]

/-- two variables are made, in either order -/
theorem wpR_allocs {n fuel i j : Nat} {d1 d2 : Tmp} {Z1 Z2 : Obj} {o o' : Oper} {listed : Array Bool} {a : Act} {w : World} (hij : i ≠ j) (hr : Region.ready md ops listed = [i, j]) (hri : Region.ready md ops (listed.setIfInBounds i true) = [j]) (hrj : Region.ready md ops (listed.setIfInBounds j true) = [i])
    (hi : ops.toList[i]? = some o) (hj : ops.toList[j]? = some o') (hg : o.guard = none) (hg' : o'.guard = none) (hd : o.dst = some d1) (hd' : o'.dst = some d2) (hne : d1 ≠ d2)
    (hBw : B ≤ w.heap.size) (run : ∀ (a : Act) (w : World), (execOp a.eval o).run P w = .ok (.value (.pointer (some ⟨w.heap.size, 0, none⟩))) (w.alloc Z1)) (run' : ∀ (a : Act) (w : World), (execOp a.eval o').run P w = .ok (.value (.pointer (some ⟨w.heap.size, 0, none⟩))) (w.alloc Z2))
    (h : ∀ (b1 b2 : Nat) (w' : World), w.heap.size ≤ b1 → w.heap.size ≤ b2 → b1 ≠ b2 → w'.heap[b1]? = some Z1 → w'.heap[b2]? = some Z2 → Below w.heap.size w w' →
      wpRB B P md ops Q n fuel ((listed.setIfInBounds i true).setIfInBounds j true) ((a.put (some d1) (.pointer (some ⟨b1, 0, none⟩))).put (some d2) (.pointer (some ⟨b2, 0, none⟩))) w') : wpRB B P md ops Q n (fuel + 1 + 1) listed a w := by
  have hb : ∀ (x : World) (Z : Obj), Below x.heap.size x (x.alloc Z) := fun x Z => (Below.refl _ _).alloc (Nat.le_refl _) _
  have hB : ∀ (x : World) (Z : Obj), w.heap.size ≤ x.heap.size → Below B x (x.alloc Z) := fun x Z hx => (Below.refl _ _).alloc (Nat.le_trans hBw hx) _
  refine wpR_two hr hi hj hg hg' (fun K hK => ?_) (fun K hK => ?_)
  · unfold Oper.wp
    simp only [run, Oper.upon, hd]
    refine hK _ _ (hB _ _ (Nat.le_refl _)) (wpR_one hri hj hg' (fun K hK => ?_))
    unfold Oper.wp
    simp only [run', Oper.upon, hd']
    refine hK _ _ (hB _ _ (by simp)) ?_
    exact h w.heap.size (w.alloc Z1).heap.size _ (Nat.le_refl _) (by simp) (by simp) (((hb (w.alloc Z1) Z2).block w.heap.size (by simp)).trans (heap_alloc_new w Z1)) (heap_alloc_new _ Z2) ((hb w Z1).trans ((hb (w.alloc Z1) Z2).mono (by simp)))
  · unfold Oper.wp
    simp only [run', Oper.upon, hd']
    refine hK _ _ (hB _ _ (Nat.le_refl _)) (wpR_one hrj hi hg (fun K hK => ?_))
    unfold Oper.wp
    simp only [run, Oper.upon, hd]
    refine hK _ _ (hB _ _ (by simp)) ?_
    rw [put_comm hne, Array.setIfInBounds_comm _ _ (Ne.symm hij)]
    exact h (w.alloc Z2).heap.size w.heap.size _ (by simp) (Nat.le_refl _) (by simp) (heap_alloc_new _ Z1) (((hb (w.alloc Z2) Z1).block w.heap.size (by simp)).trans (heap_alloc_new w Z2)) ((hb w Z2).trans ((hb (w.alloc Z2) Z1).mono (by simp)))

theorem wpR_end {n : Nat} {listed : Array Bool} {a : Act} {w : World} (hr : Region.ready md ops listed = []) (h : Q .normal a w) : wpRB B P md ops Q n 0 listed a w := ⟨hr, h⟩

end
end Go.Proofs.YthommhfppeonpaaGreatDoor

namespace Go.Proofs.YthommhfppeonpaaGreatDoor
open Go.RowKit

/-- where the operation went well, K; else Q -/
def onN (K : Act → World → Prop) (Q : Exit → Act → World → Prop) : Exit → Act → World → Prop
  | .normal => K
  | e => Q e

section
variable {P : Program} {ops : Array Oper} {Q : Exit → Act → World → Prop} {md : Region.Mode} {B : Nat}

theorem upon_onN (o : Oper) (a : Act) (K : Act → World → Prop) (r : Result Next) (h : o.upon P a K (onN K Q) r) : o.upon P a K Q r := by
  match r with
  | .ok (.value v) w' => exact h
  | .ok .skip w' => exact h
  | .ok (.defer d) w' => exact h
  | .ok (.enter f args) w' => exact Calls.mono (by exact h) (fun e w' he => by cases e <;> exact he)
  | .ok (.row row args) w' => exact h
  | .halt (.panic v) w' => exact h

theorem wp_of_list {o : Oper} {a : Act} {w : World} {K : Act → World → Prop} (hg : o.guard = none) (h : wpList P ops (onN K Q) [o] a w) : o.wp P a w K Q ∨ (o.asks P a w ∧ LetsOut Q) := by
  have hw : Region.wanted o (yielded ops a.tmps) = true := by simp [Region.wanted, hg]
  unfold wpList at h
  rw [if_pos hw] at h
  rcases h with h | h
  · exact Or.inl (upon_onN o a K _ h)
  · exact Or.inr h

theorem wpR_oneL {n fuel i : Nat} {o : Oper} {listed : Array Bool} {a : Act} {w : World} (hr : Region.ready md ops listed = [i]) (hi : ops.toList[i]? = some o) (hg : o.guard = none)
    (h : ∀ K : Act → World → Prop, (∀ a' w', Below B w w' → wpRB B P md ops Q n fuel (listed.setIfInBounds i true) a' w' → K a' w') → wpList P ops (onN K Q) [o] a w) : wpRB B P md ops Q n (fuel + 1) listed a w := by
  have hw : Region.wanted o (yielded ops a.tmps) = true := by simp [Region.wanted, hg]
  rw [Array.getElem?_toList] at hi
  refine ⟨fun h0 => (by rw [hr] at h0; cases h0), fun j hj => ?_⟩
  rw [hr] at hj
  obtain rfl : j = i := by simpa using hj
  unfold wpOp
  simp only [hi, hw, if_true]
  exact wp_of_list hg (h _ fun a' w' h1 h2 => ⟨fun _ => h1, h2⟩)

theorem wpR_twoL {n fuel i j : Nat} {o o' : Oper} {listed : Array Bool} {a : Act} {w : World} (hr : Region.ready md ops listed = [i, j]) (hi : ops.toList[i]? = some o) (hj : ops.toList[j]? = some o') (hg : o.guard = none) (hg' : o'.guard = none)
    (h : ∀ K : Act → World → Prop, (∀ a' w', Below B w w' → wpRB B P md ops Q n fuel (listed.setIfInBounds i true) a' w' → K a' w') → wpList P ops (onN K Q) [o] a w)
    (h' : ∀ K : Act → World → Prop, (∀ a' w', Below B w w' → wpRB B P md ops Q n fuel (listed.setIfInBounds j true) a' w' → K a' w') → wpList P ops (onN K Q) [o'] a w) : wpRB B P md ops Q n (fuel + 1) listed a w := by
  have hw : Region.wanted o (yielded ops a.tmps) = true := by simp [Region.wanted, hg]
  have hw' : Region.wanted o' (yielded ops a.tmps) = true := by simp [Region.wanted, hg']
  rw [Array.getElem?_toList] at hi hj
  refine ⟨fun h0 => (by rw [hr] at h0; cases h0), fun k hk => ?_⟩
  rw [hr] at hk
  simp only [List.mem_cons, List.not_mem_nil, or_false] at hk
  rcases hk with rfl | rfl
  · unfold wpOp
    simp only [hi, hw, if_true]
    exact wp_of_list hg (h _ fun a' w' h1 h2 => ⟨fun _ => h1, h2⟩)
  · unfold wpOp
    simp only [hj, hw', if_true]
    exact wp_of_list hg' (h' _ fun a' w' h1 h2 => ⟨fun _ => h1, h2⟩)

/-- a slice of given values is made -/
theorem wpList_lit {rest : List Oper} {o : Oper} {a : Act} {w : World} (hg : o.guard = none) (v : Value) (Z : Obj) (hrun : (execOp a.eval o).run P w = .ok (.value v) (w.alloc Z)) (h : wpList P ops Q rest (a.put o.dst v) (w.alloc Z)) : wpList P ops Q (o :: rest) a w := by
  have hw : Region.wanted o (yielded ops a.tmps) = true := by simp [Region.wanted, hg]
  unfold wpList
  rw [if_pos hw]
  refine Or.inl ?_
  unfold Oper.wp
  rw [hrun]
  exact h
end
end Go.Proofs.YthommhfppeonpaaGreatDoor

namespace Go.Proofs.YthommhfppeonpaaGreatDoor
open Go.RowKit

/-- a call that gives back a row of long integers -/
def RetR (w : World) (zs : List Int) (e : Ending) (w' : World) : Prop :=
  ∃ g cap, e = .returned (.slice (some ⟨g, 0, none⟩) zs.length cap) ∧ RowL w'.heap.size w.heap.size w' g cap zs ∧ Below w.heap.size w w'

/-- the powers of a number -/
def pw (a : Int) (k : Nat) : List Int := (List.range (k + 1)).map fun i => a ^ i

theorem length_pw (a : Int) (k : Nat) : (pw a k).length = k + 1 := by simp [pw]
theorem pw_get (a : Int) (k j : Nat) (h : j ≤ k) : (pw a k).getD j 0 = a ^ j := by
  simp [pw, List.getD_eq_getElem?_getD, List.getElem?_range (show j < k + 1 by omega)]
theorem pw_succ (a : Int) (k : Nat) : pw a (k + 1) = pw a k ++ [a ^ k * a] := by
  unfold pw
  rw [List.range_succ, List.map_append]
  simp [Int.pow_succ]

theorem pw_fit {x : Int} {k M : Nat} (h : k ≤ M) (hf : (digs (x ^ M).natAbs).length ≤ 600) : (digs (x ^ k).natAbs).length ≤ 600 := by
  rw [Int.natAbs_pow] at hf ⊢
  rcases Nat.eq_zero_or_pos x.natAbs with h0 | h0
  · rw [h0]
    have e : (0 : Nat) ^ k < 1000000000 ^ 1 := by
      rcases Nat.eq_zero_or_pos k with hk | hk
      · subst hk; simp
      · rw [Nat.zero_pow hk]; simp
    exact Nat.le_trans (length_digs_le e) (by omega)
  · exact Nat.le_trans (length_digs_mono (Nat.pow_le_pow_right h0 h)) hf

set_option maxRecDepth 100000 in
set_option maxHeartbeats 800000 in
theorem powers_any (x m : Int) (w : World) (hx : 0 ≤ x) (hx2 : x ≤ 9223372036854775807) (M : Nat) (hm : m = (M : Int)) (hM : M ≤ 1000000) (hfit : (digs (x ^ M).natAbs).length ≤ 600) :
    Calls Tryz.prog 43 #[.int .i64 x, .int .i64 m] w (RetR w (pw x M)) := by
  subst hm
  have Hfit := Lib.hid hfit; clear hfit
  go_enter Tryz.func43, Tryz.ntmps43
  go_wp2_with fail
  refine (of_any 1 w (by omega) (by omega)).mono ?_
  rintro e w1 ⟨s, a, n, c, rfl, hlg, hb1, hf1⟩
  go_wp2_with fail
  go_loopw [5, 10] (fun lv kv wr => ∃ (k g cap : Nat), k ≤ M ∧ kv = .int .i64 k ∧ lv = .slice (some ⟨g, 0, none⟩) (k + 1) cap ∧ RowL wr.heap.size w.heap.size wr g cap (pw x k) ∧ Below w.heap.size w wr) (fun _ kv _ => M - (intOf kv).toNat)
  case atStart =>
    refine ⟨0, _, _, Nat.zero_le _, rfl, rfl, ?_, hb1.alloc hb1.size _⟩
    have := RowL.one hlg (base := w.heap.size) hb1.size hf1
    simpa [pw] using this
  case round =>
    obtain ⟨k, g, cap, hk, rfl, rfl, hrow, hbw⟩ := hrel
    by_cases hkm : k < M
    · obtain ⟨s1, a1, n1, c1, k1, k2, hl1, _⟩ := hrow.get (j := k) (by rw [length_pw]; omega)
      rw [pw_get _ _ _ (Nat.le_refl _)] at hl1
      have Hl1 := Lib.hid hl1; have Hrow := Lib.hid hrow
      have i1 : (0 : Int) ≤ (k : Int) := by omega
      have i2 : (k : Int) < (k : Int) + 1 := by omega
      have hfk : (digs (x ^ k * x).natAbs).length ≤ 600 := by rw [← Int.pow_succ]; exact pw_fit (by omega) Hfit.out
      have Hfk := Lib.hid hfk
      clear hl1 hlg hfk
      go_wp2_with fail
      have hglt := Hrow.out.lt
      refine wp_region_eager 9 [(0, true), (1, true), (2, true), (3, true), (4, true), (5, true), (6, false), (7, false), (8, false)] (by kernel_rfl) (by kernel_rfl) ?_
      iterate 6
        refine wpOrd_yield (v := ?_) rfl (fun _ _ _ h => h) (by rfl) ?_ ?_
        rotate_left
        · intro x hx
          have q1 := (hx.cell (p := ⟨g, k * 2, none⟩) hglt).trans k1
          have q2 := (hx.cell (p := ⟨g, k * 2 + 1, none⟩) hglt).trans k2
          go_simp
          with_reducible rfl
        simp only [Act.put, List.setIfInBounds_toArray, List.set_cons_zero, List.set_cons_succ]
      refine wpOrd_step rfl rfl (fun K hK => ?_)
      go_simp
      refine (of_any x _ (by omega) hx2).mono ?_
      rintro e w2 ⟨s2, a2, n2, c2, rfl, hl2, hb2, hf2⟩
      refine hK _ _ hb2 ?_
      clear hK K
      have hb2u : Below wr.heap.size wr w2 := below_undrew (k := 1) hb2
      try simp only [Act.put, List.setIfInBounds_toArray, List.set_cons_zero, List.set_cons_succ]
      refine wpOrd_step rfl rfl (fun K hK => ?_)
      go_simp
      refine (ymul_any s1 s2 (x ^ k) x a1 a2 n1 n2 c1 c2 _ (Hl1.out.go hb2u) hl2 Hfk.out).mono ?_
      rintro e w3 ⟨s3, a3, n3, c3, rfl, hl3, hb3, hf3⟩
      refine hK _ _ hb3 ?_
      clear hK K
      have hbz : Below wr.heap.size wr w3 := hb2u.trans (hb3.mono hb2u.size)
      try simp only [Act.put, List.setIfInBounds_toArray, List.set_cons_zero, List.set_cons_succ]
      refine wpOrd_step rfl rfl (fun K hK => ?_)
      go_simp
      refine hK _ _ ((Below.refl _ _).alloc (Nat.le_refl _) _) ?_
      clear hK K
      try simp only [Act.put, List.setIfInBounds_toArray, List.set_cons_zero, List.set_cons_succ]
      refine wpOrd_nil rfl ?_
      refine wpList_append_one rfl (.tmp 13) (.tmp 21) rfl rfl (by rw [length_pw]) (Hrow.out.go hbz) hl3 (fun b off e h0 => by have := hf3 b off e h0; have := hb2u.size; omega) (hf3.mono (by have := hb2u.size; have := hbw.size; omega)) rfl (by rw [length_pw]; omega) ?_
      intro g' cap' w4 hrow4 hbel4
      rw [← pw_succ] at hrow4
      go_wp2
      go_roundw
      case rel => exact ⟨k + 1, g', cap', by omega, by go_num, rfl, hrow4, hbel4 _ _ (Nat.le_refl _) (hbw.trans (hbz.mono hbw.size))⟩
      case measure => simp [intOf]; omega
    · obtain rfl : k = M := by omega
      go_wp2
      go_ret
      refine ⟨g, cap, ?_, hrow, hbw⟩
      rw [length_pw]
      rfl

end Go.Proofs.YthommhfppeonpaaGreatDoor
