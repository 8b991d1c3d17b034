/-
  DERIVED. Several texts in one: Float, Floats, KRefA, KRefB, KRefC, KRefD, KRefE, KRefF, KRefG.
-/
import Derived.Test.YtpicmhbjiaegpaaGreatDoorGaa
namespace Go.Proofs.YtpicmhbjiaegpaaGreatDoor
open Go.RowKit

section
variable {P : Program} {ops : Array Oper} {Q : Exit → Act → World → Prop} {md : Region.Mode}

/-- the walk in the chosen order, the variable left aside; C: what is known of the variable's block -/
def wpF (P : Program) (ops : Array Oper) (Q : Exit → Act → World → Prop) (n : Nat) (d : Tmp) (Z : Obj) : (Nat → Prop) → List (Nat × Bool) → Act → World → Prop
  | C, [], a, w => ∀ b w', C b → Below w.heap.size w w' → w'.heap[b]? = some Z → wpList P ops Q (ops.toList.drop n) (a.put (some d) (.pointer (some ⟨b, 0, none⟩))) w'
  | C, (i, true) :: rest, a, w => ∃ o v, ops[i]? = some o ∧ YieldsIf P ops (fun x => Below w.heap.size w x) o v a ∧ wpF P ops Q n d Z C rest (a.put o.dst v) w
  | C, (i, false) :: rest, a, w => ∀ x, Below w.heap.size w x → wpOp P ops Q i (fun a' w' => Below x.heap.size x w' ∧ wpF P ops Q n d Z (fun b => C b ∧ (b < x.heap.size ∨ w'.heap.size ≤ b)) rest a' w') a x

/-- the order serves, the variable (number k) wherever it comes up -/
def ordFB (md : Region.Mode) (ops : Array Oper) (n k : Nat) (ok : Oper) : List (Nat × Bool) → Array Bool → Bool
  | [], listed => decide (Region.ready md ops listed = [k]) && Region.seqB md ops (ops.size - n) n (listed.setIfInBounds k true)
  | (i, t) :: rest, listed =>
    (if t then (Region.ready md ops listed).contains i && Region.free md ops listed i && Region.free md ops (listed.setIfInBounds k true) i
      else (Region.ready md ops listed).all (fun j => j == i || j == k) && (Region.ready md ops listed).contains i && decide (Region.ready md ops (listed.setIfInBounds k true) = [i])) &&
    decide (i < n) && decide (i ≠ k) && (match ops[i]? with | some o => ok.apart ops o | none => false) && (Region.ready md ops listed).contains k && ordFB md ops n k ok rest (listed.setIfInBounds i true)

theorem wpOp_put {j : Nat} {oj : Oper} {d : Tmp} {u : Value} (hj : ops[j]? = some oj) (h1 : d ∉ oj.looksAt ops) (h2 : oj.dst ≠ some d)
    (hsj : ∀ cs b, oj.op ≠ .select cs b) (hQ : ∀ c a w, Q (.panic c) a w → Q (.panic c) (a.put (some d) u) w) {K K' : Act → World → Prop} {a : Act} {w : World}
    (hK : ∀ a' w', K a' w' → K' (a'.put (some d) u) w') (h : wpOp P ops Q j K a w) : wpOp P ops Q j K' (a.put (some d) u) w := by
  have h1' : ∀ e, some d = some e → e ∉ oj.looksAt ops := fun e he => by cases he; exact h1
  have h2' : ∀ e, (some d : Option Tmp) = some e → oj.dst ≠ some e := fun e he => by cases he; exact h2
  unfold wpOp at *
  simp only [hj] at *
  rw [wanted_put oj a (some d) u h1']
  split
  · rename_i hw
    simp only [hw, if_true] at h
    rcases h with h | ⟨hasks, hlets⟩
    case inr => exact .inr ⟨by unfold Oper.asks at *; rw [execOp_put oj hsj a (some d) u h1']; exact hasks, hlets⟩
    refine .inl ?_
    unfold Oper.wp at *
    rw [execOp_put oj hsj a (some d) u h1']
    generalize (execOp a.eval oj).run P w = r at *
    cases r with
    | ok n w' =>
      cases n <;> simp only [Oper.upon] at h ⊢
      case value v => rw [Act.put_comm a u v h2']; exact hK _ _ h
      case skip => rw [Act.put_comm a u undef h2']; exact hK _ _ h
      case defer e =>
        rw [Act.put_defers, Act.put_comm _ u undef h2']
        exact hK _ _ h
      case enter f args =>
        refine Calls.mono h fun e w'' he => ?_
        cases e with
        | returned v =>
          show K' ((a.put (some d) u).put oj.dst v) w''
          rw [Act.put_comm a u v h2']
          exact hK _ _ he
        | panicked c => exact hQ _ _ _ he
        | outgrown => exact he
      case row row args => exact Rows.mono h fun v w'' he => by rw [Act.put_comm a u v h2']; exact hK _ _ he
    | halt x w' =>
      cases x <;> simp only [Oper.upon] at h ⊢
      case panic v => exact hQ _ _ _ h
  · rename_i hw
    simp only [hw] at h
    rw [Act.put_comm a u undef h2']
    exact hK _ _ h

theorem apart_out {x y : Oper} {d : Tmp} (hx : x.dst = some d) (h : x.apart ops y = true) : d ∉ y.looksAt ops ∧ y.dst ≠ some d :=
  let ⟨h1, h2, _⟩ := Oper.apart_spec h; ⟨h1 d hx, h2 d hx⟩

/-- behind the variable -/
theorem wpR_of_F_done {n k : Nat} {ok : Oper} {d : Tmp} {Z : Obj} (hd : ok.dst = some d) (hsel : Region.noSelect ops = true) (hs : Region.sinkB md ops n = true) (hc : Region.chainB md ops n = true) (hn : n < ops.size)
    (hQ : ∀ c a u w, Q (.panic c) a w → Q (.panic c) (a.put (some d) u) w) (hQ2 : ∀ c a o u w, Q (.panic c) (a.put o u) w → Q (.panic c) a w) (b : Nat) :
    ∀ (ord : List (Nat × Bool)) (C : Nat → Prop) (listed : Array Bool) (a : Act) (w x : World), C b → HeadInv md ops n (listed.setIfInBounds k true) → ordFB md ops n k ok ord listed = true → wpF P ops Q n d Z C ord a w →
      Below w.heap.size w x → x.heap[b]? = some Z →
      wpR P md ops Q n (ord.length + (ops.size - n)) (listed.setIfInBounds k true) (a.put (some d) (.pointer (some ⟨b, 0, none⟩))) x
  | [], C, listed, a, w, x, hC, inv, hB, h, hb, hbl => by
    simp only [ordFB, Bool.and_eq_true, decide_eq_true_eq] at hB
    have := wpR_of_seq (md := md) (n := n) (Q' := Q) (ops.toList.drop n) n (listed.setIfInBounds k true) _ x (Nat.le_refl _) (fun j => by simp [List.getElem?_drop]) (by simpa using hB.2) (h b x hC hb hbl)
    simpa using this
  | (i, true) :: rest, C, listed, a, w, x, hC, inv, hB, h, hb, hbl => by
    obtain ⟨o, v, ho, hy, h⟩ := h
    simp only [ordFB, if_true, Bool.and_eq_true, decide_eq_true_eq, ho] at hB
    obtain ⟨⟨⟨⟨⟨⟨⟨h1, h2⟩, h2'⟩, h3⟩, h4⟩, h5⟩, h6⟩, h7⟩ := hB
    have hr : i ∈ Region.ready md ops listed := by simpa using h1
    have hr' : i ∈ Region.ready md ops (listed.setIfInBounds k true) := ready_mono hr h4
    obtain ⟨p1, p2⟩ := apart_out (ops := ops) hd h5
    have hsame : YieldsIf P ops (fun y => Below x.heap.size x y) o v (a.put (some d) (.pointer (some ⟨b, 0, none⟩))) :=
      (YieldsIf.stay hy hb).of_same (execOp_put o (fun cs e => Region.noSelect_spec hsel i o cs e ho) a (some d) _ (fun e he => by cases he; exact p1)) (wanted_put o a (some d) _ (fun e he => by cases he; exact p1))
    have hrec := wpR_of_F_done hd hsel hs hc hn hQ hQ2 b rest C (listed.setIfInBounds i true) (a.put o.dst v) w x hC (by rw [Array.setIfInBounds_comm _ _ h4]; exact inv.set hr' h3) h7 h hb hbl
    rw [Array.setIfInBounds_comm _ _ h4, Act.put_comm a (x := o.dst) (y := some d) v _ (fun e he => by rw [he] at p2; exact fun h => p2 h.symm)] at hrec
    have := wpR_first ho (Region.noSelect_spec hsel) hs hc hn h3 (fun c a w => hQ2 c a o.dst v w) _ _ _ x inv (Region.free_spec ho h2') hr' hsame hrec
    rw [List.length_cons, show rest.length + 1 + (ops.size - n) = rest.length + (ops.size - n) + 1 by omega]
    exact this
  | (i, false) :: rest, C, listed, a, w, x, hC, inv, hB, h, hb, hbl => by
    cases ho : ops[i]? with
    | none => simp [ordFB, ho] at hB
    | some o =>
    simp only [ordFB, Bool.false_eq_true, if_false, Bool.and_eq_true, decide_eq_true_eq, ho] at hB
    obtain ⟨⟨⟨⟨⟨⟨⟨h1, h1'⟩, h2⟩, h3⟩, h4⟩, h5⟩, h6⟩, h7⟩ := hB
    have hr' : i ∈ Region.ready md ops (listed.setIfInBounds k true) := by rw [h2]; simp
    obtain ⟨p1, p2⟩ := apart_out (ops := ops) hd h5
    rw [List.length_cons, show rest.length + 1 + (ops.size - n) = rest.length + (ops.size - n) + 1 by omega]
    refine ⟨fun h0 => (by rw [h0] at h2; cases h2), fun j hj => ?_⟩
    rw [h2] at hj
    obtain rfl : j = i := by simpa using hj
    refine wpOp_put ho p1 p2 (fun cs e => Region.noSelect_spec hsel j o cs e ho) (fun c a w => hQ c a _ w) (fun a' w' h' => ?_) (h x hb)
    have hlt := lt_of_block hbl
    refine ⟨fun _ => h'.1, ?_⟩
    have hrec := wpR_of_F_done hd hsel hs hc hn hQ hQ2 b rest _ (listed.setIfInBounds j true) a' w' w' ⟨hC, Or.inl hlt⟩ (by rw [Array.setIfInBounds_comm _ _ h4]; exact inv.set hr' h3) h7 h'.2 (Below.refl _ _) ((h'.1.block b hlt).trans hbl)
    rw [Array.setIfInBounds_comm _ _ h4] at hrec
    exact hrec

/-- ahead of the variable -/
theorem wpR_of_F {n k : Nat} {ok : Oper} {d : Tmp} {Z : Obj} (hk : ops[k]? = some ok) (hd : ok.dst = some d) (hg : ok.guard = none) (hkn : k < n)
    (hrun : ∀ (a : Act) (w : World), (execOp a.eval ok).run P w = .ok (.value (.pointer (some ⟨w.heap.size, 0, none⟩))) (w.alloc Z))
    (hsel : Region.noSelect ops = true) (hs : Region.sinkB md ops n = true) (hc : Region.chainB md ops n = true) (hn : n < ops.size)
    (hQ : ∀ c a u w, Q (.panic c) a w → Q (.panic c) (a.put (some d) u) w) (hQ2 : ∀ c a o u w, Q (.panic c) (a.put o u) w → Q (.panic c) a w) :
    ∀ (ord : List (Nat × Bool)) (C : Nat → Prop) (listed : Array Bool) (a : Act) (w : World), (∀ b, w.heap.size ≤ b → C b) → HeadInv md ops n listed → k ∈ Region.ready md ops listed → ordFB md ops n k ok ord listed = true →
      wpF P ops Q n d Z C ord a w → wpR P md ops Q n (ord.length + (ops.size - n) + 1) listed a w := by
  intro ord
  have hbelow : ∀ w : World, Below w.heap.size w (w.alloc Z) := fun w => (Below.refl _ _).alloc (Nat.le_refl _) _
  have hnew : ∀ w : World, (w.alloc Z).heap[w.heap.size]? = some Z := fun w => heap_alloc_new _ _
  have hstep : ∀ (K : Act → World → Prop) (a : Act) (w : World), K (a.put (some d) (.pointer (some ⟨w.heap.size, 0, none⟩))) (w.alloc Z) → wpOp P ops Q k K a w := fun K a w h => by
    have hw : Region.wanted ok (yielded ops a.tmps) = true := by simp [Region.wanted, hg]
    unfold wpOp
    simp only [hk, hw, if_true, Oper.wp, hrun, Oper.upon, hd]
    exact .inl h
  induction ord with
  | nil =>
    intro C listed a w hC inv hkr hB h
    have hB' := hB
    simp only [ordFB, Bool.and_eq_true, decide_eq_true_eq] at hB
    refine ⟨fun h0 => (by rw [h0] at hkr; cases hkr), fun j hj => ?_⟩
    rw [hB.1] at hj
    obtain rfl : j = k := by simpa using hj
    refine hstep _ _ _ ⟨fun _ => hbelow w, ?_⟩
    exact wpR_of_F_done hd hsel hs hc hn hQ hQ2 w.heap.size [] C listed a w _ (hC _ (Nat.le_refl _)) (inv.set hkr hkn) hB' h (hbelow w) (hnew w)
  | cons p rest ih =>
    obtain ⟨i, t⟩ := p
    intro C listed a w hC inv hkr hB h
    have hB' := hB
    have hdone : wpOp P ops Q k (fun a' w' => (k < n → Below w.heap.size w w') ∧ wpR P md ops Q n (((i, t) :: rest).length + (ops.size - n)) (listed.setIfInBounds k true) a' w') a w :=
      hstep _ _ _ ⟨fun _ => hbelow w, wpR_of_F_done hd hsel hs hc hn hQ hQ2 w.heap.size _ C listed a w _ (hC _ (Nat.le_refl _)) (inv.set hkr hkn) hB' h (hbelow w) (hnew w)⟩
    cases t with
    | true =>
      obtain ⟨o, v, ho, hy, h⟩ := h
      simp only [ordFB, if_true, Bool.and_eq_true, decide_eq_true_eq, ho] at hB
      obtain ⟨⟨⟨⟨⟨⟨⟨h1, h2⟩, h2'⟩, h3⟩, h4⟩, h5⟩, h6⟩, h7⟩ := hB
      have hr : i ∈ Region.ready md ops listed := by simpa using h1
      have hrec := ih C (listed.setIfInBounds i true) (a.put o.dst v) w hC (inv.set hr h3) (ready_mono hkr (Ne.symm h4)) h7 h
      have := wpR_first ho (Region.noSelect_spec hsel) hs hc hn h3 (fun c a w => hQ2 c a o.dst v w) _ _ _ w inv (Region.free_spec ho h2) hr hy hrec
      rw [List.length_cons, show rest.length + 1 + (ops.size - n) + 1 = rest.length + (ops.size - n) + 1 + 1 by omega]
      exact this
    | false =>
      cases ho : ops[i]? with
      | none => simp [ordFB, ho] at hB
      | some o =>
      simp only [ordFB, Bool.false_eq_true, if_false, Bool.and_eq_true, decide_eq_true_eq, ho] at hB
      obtain ⟨⟨⟨⟨⟨⟨⟨h1, h1'⟩, h2⟩, h3⟩, h4⟩, h5⟩, h6⟩, h7⟩ := hB
      have hr : i ∈ Region.ready md ops listed := by simpa using h1'
      refine ⟨fun h0 => (by rw [h0] at hkr; cases hkr), fun j hj => ?_⟩
      have hjj := List.all_eq_true.1 h1 j hj
      simp only [Bool.or_eq_true, beq_iff_eq] at hjj
      by_cases hjk : j = k
      · subst hjk; exact hdone
      · obtain rfl : j = i := hjj.resolve_right hjk
        refine wpOp_mono (fun a' w' h' => ⟨fun _ => h'.1, ?_⟩) (h w (Below.refl _ _))
        have hrec := ih _ (listed.setIfInBounds j true) a' w' (fun b hb => ⟨hC b (Nat.le_trans h'.1.size hb), Or.inr hb⟩) (inv.set hr h3) (ready_mono hkr (Ne.symm h4)) h7 h'.2
        rw [List.length_cons, show rest.length + 1 + (ops.size - n) = rest.length + (ops.size - n) + 1 by omega]
        exact hrec

/-- a closed fact -/
def floatB (md : Region.Mode) (ops : Array Oper) (n k : Nat) (ok : Oper) (ord : List (Nat × Bool)) : Bool :=
  Region.noSelect ops && decide (n < ops.size) && decide (ord.length + 1 = n) && decide (k < n) && Region.sinkB md ops n && Region.chainB md ops n && (Region.ready md ops (Array.replicate ops.size false)).contains k && ordFB md ops n k ok ord (Array.replicate ops.size false)

/-- THE BEGINNING -/
theorem wp_region_float {id : Nat} {a : Act} {w : World} (n k : Nat) (ord : List (Nat × Bool)) (ok : Oper) (d : Tmp) (Z : Obj) (hk : ops.toList[k]? = some ok) (hd : ok.dst = some d) (hg : ok.guard = none)
    (hm : P.follows .mixedOrders = true) (hB : floatB .any ops n k ok ord = true)
    (hrun : ∀ (a : Act) (w : World), (execOp a.eval ok).run P w = .ok (.value (.pointer (some ⟨w.heap.size, 0, none⟩))) (w.alloc Z))
    (hQ : ∀ c a u w, Q (.panic c) a w → Q (.panic c) (a.put (some d) u) w) (hQ2 : ∀ c a o u w, Q (.panic c) (a.put o u) w → Q (.panic c) a w)
    (h : wpF P ops Q n d Z (fun b => w.heap.size ≤ b) ord a w.drew) : (Code.region id ops true).wp P Q a w := by
  simp only [floatB, Bool.and_eq_true, decide_eq_true_eq] at hB
  obtain ⟨⟨⟨⟨⟨⟨⟨hsel, hn⟩, hl⟩, hkn⟩, hs⟩, hc⟩, hr⟩, ho⟩ := hB
  have inv0 : HeadInv .any ops n (Array.replicate ops.size false) :=
    ⟨by simp, fun j oj _ hl => (by rw [getD_replicate_false] at hl; cases hl), fun t _ ht => getD_in (by simpa using ht) (getD_replicate_false _ _)⟩
  have := wpR_of_F (P := P) (Q := Q) (md := .any) (by rw [← Array.getElem?_toList]; exact hk) hd hg hkn hrun hsel hs hc hn hQ hQ2 ord _ _ a w.drew (fun b hb => hb) inv0 (by simpa using hr) ho h
  rw [show ord.length + (ops.size - n) + 1 = ops.size by omega] at this
  exact wp_region_any hm (wpAny_of_R _ _ _ _ this)

theorem wpF_yield {n i d : Nat} {Z : Obj} {C : Nat → Prop} {rest : List (Nat × Bool)} {o : Oper} {v : Value} {a : Act} {w : World} (hi : ops.toList[i]? = some o)
    (hw : Region.wanted o (yielded ops a.tmps) = true) (hy : ∀ x, Below w.heap.size w x → (execOp a.eval o).run P x = .ok (.value v) x)
    (h : wpF P ops Q n d Z C rest (a.put o.dst v) w) : wpF P ops Q n d Z C ((i, true) :: rest) a w :=
  ⟨o, v, by rw [← Array.getElem?_toList]; exact hi, Or.inl ⟨hw, hy⟩, h⟩

theorem wpF_step {n i d : Nat} {Z : Obj} {C : Nat → Prop} {rest : List (Nat × Bool)} {o : Oper} {a : Act} {w : World} (hi : ops.toList[i]? = some o) (hg : o.guard = none)
    (h : ∀ x, Below w.heap.size w x → ∀ K : Act → World → Prop, (∀ a' w', Below x.heap.size x w' → wpF P ops Q n d Z (fun b => C b ∧ (b < x.heap.size ∨ w'.heap.size ≤ b)) rest a' w' → K a' w') → o.wp P a x K Q) :
    wpF P ops Q n d Z C ((i, false) :: rest) a w := by
  have hw : Region.wanted o (yielded ops a.tmps) = true := by simp [Region.wanted, hg]
  rw [Array.getElem?_toList] at hi
  intro x hx
  unfold wpOp
  simp only [hi, hw, if_true]
  exact .inl (h x hx _ fun a' w' h1 h2 => ⟨h1, h2⟩)

theorem wpF_nil {n d : Nat} {Z : Obj} {C : Nat → Prop} {a : Act} {w : World} {l : List Oper} (hl : ops.toList.drop n = l)
    (h : ∀ b w', C b → Below w.heap.size w w' → w'.heap[b]? = some Z → wpList P ops Q l (a.put (some d) (.pointer (some ⟨b, 0, none⟩))) w') : wpF P ops Q n d Z C [] a w := by
  subst hl; exact h

end
end Go.Proofs.YtpicmhbjiaegpaaGreatDoor

namespace Go.Proofs.YtpicmhbjiaegpaaGreatDoor
open Go.RowKit

section
variable {P : Program} {ops : Array Oper} {Q : Exit → Act → World → Prop} {md : Region.Mode}

theorem getD_set_true (l : Array Bool) (k : Nat) : (l.setIfInBounds k true).getD k true = true := by
  rw [Array.getD_eq_getD_getElem?, Array.getElem?_setIfInBounds, if_pos rfl]
  split <;> rfl

/-- the variables: number of the operation, slot, what is made -/
def putS : List (Nat × Tmp × Obj) → List (Option Nat) → Act → Act
  | (_, d, _) :: fs, some b :: os, a => putS fs os (a.put (some d) (.pointer (some ⟨b, 0, none⟩)))
  | _ :: fs, none :: os, a => putS fs os a
  | _, _, a => a
def setS : List (Nat × Tmp × Obj) → List (Option Nat) → Array Bool → Array Bool
  | (k, _, _) :: fs, some _ :: os, l => setS fs os (l.setIfInBounds k true)
  | _ :: fs, none :: os, l => setS fs os l
  | _, _, l => l

theorem setS_set (k : Nat) : ∀ (fs : List (Nat × Tmp × Obj)) (os : List (Option Nat)) (l : Array Bool), setS fs os (l.setIfInBounds k true) = (setS fs os l).setIfInBounds k true
  | [], _, _ => by simp [setS]
  | _ :: _, [], _ => by simp [setS]
  | (k', d, Z) :: fs, none :: os, l => by simp only [setS]; exact setS_set k fs os l
  | (k', d, Z) :: fs, some b :: os, l => by
    simp only [setS]
    by_cases h : k = k'
    · subst h
      rw [← setS_set k fs os]
    · rw [Array.setIfInBounds_comm _ _ h, setS_set k fs os]

theorem putS_put {x : Option Tmp} {v : Value} : ∀ (fs : List (Nat × Tmp × Obj)) (os : List (Option Nat)) (a : Act), (∀ f ∈ fs, x ≠ some f.2.1) → putS fs os (a.put x v) = (putS fs os a).put x v
  | [], _, _, _ => by simp [putS]
  | _ :: _, [], _, _ => by simp [putS]
  | (k', d, Z) :: fs, none :: os, a, h => by simp only [putS]; exact putS_put fs os a (fun f hf => h f (List.mem_cons_of_mem _ hf))
  | (k', d, Z) :: fs, some b :: os, a, h => by
    simp only [putS]
    have := h _ (List.mem_cons_self ..)
    rw [Act.put_comm a (x := x) (y := some d) v _ (fun e he => by rw [he] at this; exact fun h => this h.symm), putS_put fs os _ (fun f hf => h f (List.mem_cons_of_mem _ hf))]

theorem putS_fire {b : Nat} : ∀ (fs : List (Nat × Tmp × Obj)) (os : List (Option Nat)) (a : Act) (j : Nat) (f : Nat × Tmp × Obj), fs[j]? = some f → os[j]? = some none → (fs.map fun f => f.2.1).Nodup →
    putS fs (os.set j (some b)) a = (putS fs os a).put (some f.2.1) (.pointer (some ⟨b, 0, none⟩))
  | [], _, _, _, _, h, _, _ => by simp at h
  | _ :: _, [], _, _, _, _, h, _ => by simp at h
  | (k', d, Z) :: fs, o :: os, a, 0, f, h1, h2, hn => by
    simp at h1 h2
    subst h1 h2
    simp only [List.set_cons_zero, putS]
    refine putS_put fs os a (fun f hf e => ?_)
    simp only [List.map_cons, List.nodup_cons] at hn
    exact hn.1 (List.mem_map.2 ⟨f, hf, by cases e; rfl⟩)
  | (k', d, Z) :: fs, o :: os, a, j + 1, f, h1, h2, hn => by
    simp only [List.getElem?_cons_succ] at h1 h2
    simp only [List.map_cons, List.nodup_cons] at hn
    simp only [List.set_cons_succ]
    cases o with
    | none => simp only [putS]; exact putS_fire fs os a j f h1 h2 hn.2
    | some c => simp only [putS]; exact putS_fire fs os _ j f h1 h2 hn.2

theorem setS_fire {b : Nat} : ∀ (fs : List (Nat × Tmp × Obj)) (os : List (Option Nat)) (l : Array Bool) (j : Nat) (f : Nat × Tmp × Obj), fs[j]? = some f → os[j]? = some none →
    setS fs (os.set j (some b)) l = (setS fs os l).setIfInBounds f.1 true
  | [], _, _, _, _, h, _ => by simp at h
  | _ :: _, [], _, _, _, _, h => by simp at h
  | (k', d, Z) :: fs, o :: os, l, 0, f, h1, h2 => by
    simp at h1 h2
    subst h1 h2
    simp only [List.set_cons_zero, setS]
    exact setS_set k' fs os l
  | (k', d, Z) :: fs, o :: os, l, j + 1, f, h1, h2 => by
    simp only [List.getElem?_cons_succ] at h1 h2
    simp only [List.set_cons_succ]
    cases o with
    | none => simp only [setS]; exact setS_fire fs os l j f h1 h2
    | some c => simp only [setS]; exact setS_fire fs os _ j f h1 h2

/-- all of them made -/
def fullS (fs : List (Nat × Tmp × Obj)) (l : Array Bool) : Array Bool := fs.foldl (fun l f => l.setIfInBounds f.1 true) l

theorem ready_S {j : Nat} : ∀ (fs : List (Nat × Tmp × Obj)) (os : List (Option Nat)) (l : Array Bool), (∀ (i b : Nat) (f : Nat × Tmp × Obj), fs[i]? = some f → os[i]? = some (some b) → j ≠ f.1) → j ∈ Region.ready md ops l → j ∈ Region.ready md ops (setS fs os l)
  | [], _, _, _, h => by simpa [setS] using h
  | _ :: _, [], _, _, h => by simpa [setS] using h
  | (k, d, Z) :: fs, none :: os, l, hn, h => by simp only [setS]; exact ready_S fs os l (fun i b f h1 h2 => hn (i + 1) b f (by simpa using h1) (by simpa using h2)) h
  | (k, d, Z) :: fs, some b :: os, l, hn, h => by
    simp only [setS]; exact ready_S fs os _ (fun i b f h1 h2 => hn (i + 1) b f (by simpa using h1) (by simpa using h2)) (ready_mono h (hn 0 b (k, d, Z) rfl rfl))

theorem setS_fired {b : Nat} : ∀ (fs : List (Nat × Tmp × Obj)) (os : List (Option Nat)) (l : Array Bool) (j : Nat) (f : Nat × Tmp × Obj), fs[j]? = some f → os[j]? = some (some b) → (setS fs os l).getD f.1 true = true
  | [], _, _, _, _, h, _ => by simp at h
  | _ :: _, [], _, _, _, _, h => by simp at h
  | (k', d, Z) :: fs, o :: os, l, 0, f, h1, h2 => by
    simp at h1 h2
    subst h1 h2
    simp only [setS, setS_set]
    exact getD_set_true _ _
  | (k', d, Z) :: fs, o :: os, l, j + 1, f, h1, h2 => by
    simp only [List.getElem?_cons_succ] at h1 h2
    cases o with
    | none => simp only [setS]; exact setS_fired fs os l j f h1 h2
    | some c => simp only [setS]; exact setS_fired fs os _ j f h1 h2

theorem fullS_set (k : Nat) : ∀ (fs : List (Nat × Tmp × Obj)) (l : Array Bool), fullS fs (l.setIfInBounds k true) = (fullS fs l).setIfInBounds k true
  | [], _ => rfl
  | (k', d, Z) :: fs, l => by
    show fullS fs ((l.setIfInBounds k true).setIfInBounds k' true) = (fullS fs (l.setIfInBounds k' true)).setIfInBounds k true
    by_cases h : k = k'
    · subst h
      rw [← fullS_set k fs]
    · rw [Array.setIfInBounds_comm _ _ h, fullS_set k fs]

theorem ready_full {j : Nat} : ∀ (fs : List (Nat × Tmp × Obj)) (os : List (Option Nat)) (l : Array Bool), (∀ f ∈ fs, j ≠ f.1) → j ∈ Region.ready md ops (setS fs os l) → j ∈ Region.ready md ops (fullS fs l)
  | [], _, _, _, h => by simpa [setS, fullS] using h
  | (k, d, Z) :: fs, [], l, hn, h => by
    show j ∈ Region.ready md ops (fullS fs (l.setIfInBounds k true))
    rw [fullS_set]
    exact ready_mono (ready_full fs [] l (fun f hf => hn f (List.mem_cons_of_mem _ hf)) (by cases fs <;> simpa [setS] using h)) (hn _ (List.mem_cons_self ..))
  | (k, d, Z) :: fs, none :: os, l, hn, h => by
    show j ∈ Region.ready md ops (fullS fs (l.setIfInBounds k true))
    rw [fullS_set]
    exact ready_mono (ready_full fs os l (fun f hf => hn f (List.mem_cons_of_mem _ hf)) h) (hn _ (List.mem_cons_self ..))
  | (k, d, Z) :: fs, some b :: os, l, hn, h => ready_full fs os _ (fun f hf => hn f (List.mem_cons_of_mem _ hf)) h

theorem setS_all : ∀ (fs : List (Nat × Tmp × Obj)) (bs : List Nat) (l : Array Bool), bs.length = fs.length → setS fs (bs.map some) l = fullS fs l
  | [], [], _, _ => rfl
  | [], b :: bs, _, h => by simp at h
  | f :: fs, [], _, h => by simp at h
  | (k, d, Z) :: fs, b :: bs, l, h => by
    show setS fs (bs.map some) (l.setIfInBounds k true) = fullS fs (l.setIfInBounds k true)
    exact setS_all fs bs _ (by simpa using h)

/-- the slots of the variables are apart from the operation -/
def apartS (ops : Array Oper) (fs : List (Nat × Tmp × Obj)) (o : Oper) : Bool :=
  fs.all fun f => match ops[f.1]? with | some ok => decide (ok.dst = some f.2.1) && ok.apart ops o | none => false

theorem apartS_out {fs : List (Nat × Tmp × Obj)} {o : Oper} (h : apartS ops fs o = true) : ∀ f ∈ fs, f.2.1 ∉ o.looksAt ops ∧ o.dst ≠ some f.2.1 := fun f hf => by
  have := List.all_eq_true.1 h f hf
  cases hk : ops[f.1]? with
  | none => simp [hk] at this
  | some ok =>
    simp only [hk, Bool.and_eq_true, decide_eq_true_eq] at this
    exact apart_out this.1 this.2

theorem execOp_putS (o : Oper) (hsel : ∀ cs b, o.op ≠ .select cs b) : ∀ (fs : List (Nat × Tmp × Obj)) (os : List (Option Nat)) (a : Act), (∀ f ∈ fs, f.2.1 ∉ o.looksAt ops) →
    execOp (putS fs os a).eval o = execOp a.eval o ∧ Region.wanted o (yielded ops (putS fs os a).tmps) = Region.wanted o (yielded ops a.tmps)
  | [], _, _, _ => by simp [putS]
  | _ :: _, [], _, _ => by simp [putS]
  | (k', d, Z) :: fs, none :: os, a, h => by simp only [putS]; exact execOp_putS o hsel fs os a (fun f hf => h f (List.mem_cons_of_mem _ hf))
  | (k', d, Z) :: fs, some b :: os, a, h => by
    simp only [putS]
    obtain ⟨h1, h2⟩ := execOp_putS o hsel fs os (a.put (some d) (.pointer (some ⟨b, 0, none⟩))) (fun f hf => h f (List.mem_cons_of_mem _ hf))
    have hd := h _ (List.mem_cons_self ..)
    exact ⟨h1.trans (execOp_put o hsel a (some d) _ (fun e he => by cases he; exact hd)), h2.trans (wanted_put o a (some d) _ (fun e he => by cases he; exact hd))⟩

theorem wpOp_putS {j : Nat} {oj : Oper} (hj : ops[j]? = some oj) (hsj : ∀ cs b, oj.op ≠ .select cs b) (hQ : ∀ c a d u w, Q (.panic c) a w → Q (.panic c) (a.put (some d) u) w) :
    ∀ (fs : List (Nat × Tmp × Obj)) (os : List (Option Nat)) {K K' : Act → World → Prop} {a : Act} {w : World}, (∀ f ∈ fs, f.2.1 ∉ oj.looksAt ops ∧ oj.dst ≠ some f.2.1) →
    (∀ a' w', K a' w' → K' (putS fs os a') w') → wpOp P ops Q j K a w → wpOp P ops Q j K' (putS fs os a) w
  | [], _, _, _, _, _, _, hK, h => by simp only [putS] at *; exact wpOp_mono hK h
  | _ :: _, [], _, _, _, _, _, hK, h => by simp only [putS] at *; exact wpOp_mono hK h
  | (k', d, Z) :: fs, none :: os, _, _, _, _, hap, hK, h => by
    simp only [putS] at *
    exact wpOp_putS hj hsj hQ fs os (fun f hf => hap f (List.mem_cons_of_mem _ hf)) hK h
  | (k', d, Z) :: fs, some b :: os, K, K', a, w, hap, hK, h => by
    simp only [putS] at *
    obtain ⟨p1, p2⟩ := hap _ (List.mem_cons_self ..)
    refine wpOp_putS (K := fun a' w' => ∃ a'', a' = a''.put (some d) (.pointer (some ⟨b, 0, none⟩)) ∧ K a'' w') hj hsj hQ fs os (fun f hf => hap f (List.mem_cons_of_mem _ hf)) (fun a' w' ⟨a'', e, h'⟩ => by subst e; exact hK a'' w' h') ?_
    exact wpOp_put hj p1 p2 hsj (fun c a w => hQ c a d _ w) (fun a' w' h' => ⟨a', rfl, h'⟩) h

/-- j waits for i at first hand -/
def directB (md : Region.Mode) (ops : Array Oper) (j i : Nat) : Bool := match ops[j]? with | some o => o.after.any fun e => Region.binds md e && e.on == i | none => false
/-- .. at first or second hand -/
def reachB (md : Region.Mode) (ops : Array Oper) (j i : Nat) : Bool :=
  directB md ops j i || (match ops[j]? with | some o => o.after.any fun e => Region.binds md e && directB md ops e.on i | none => false)
/-- each of the last operations waits for each of the first that is not listed in pu (those read nothing) -/
def sinkP (md : Region.Mode) (ops : Array Oper) (n : Nat) (pu : List Nat) : Bool :=
  (List.range ops.size).all fun j => decide (j < n) || ((List.range n).all fun i => pu.contains i || reachB md ops j i)

theorem direct_listed {i j : Nat} {listed : Array Bool} (h : directB md ops j i = true) (hl : ∀ oj, ops[j]? = some oj → ∀ e ∈ oj.after, Region.binds md e = true → listed.getD e.on false = true) : listed.getD i false = true := by
  unfold directB at h
  cases ho : ops[j]? with
  | none => simp [ho] at h
  | some o =>
    rw [ho] at h
    obtain ⟨e, he, h3⟩ := Array.any_eq_true'.1 h
    simp only [Bool.and_eq_true, beq_iff_eq] at h3
    have h4 := hl o ho e he h3.1
    rwa [h3.2] at h4

theorem tail_waitsP {n i : Nat} {pu : List Nat} (hs : sinkP md ops n pu = true) (hin : i < n) (hp : pu.contains i = false) {listed : Array Bool} (inv : HeadInv md ops ops.size listed) (hun : listed.getD i true = false) (j : Nat) (hj : n ≤ j) : j ∉ Region.ready md ops listed := fun hr => by
  obtain ⟨_, oj, hoj, hall⟩ := mem_ready.1 hr
  have hlt : j < ops.size := (Array.getElem?_eq_some_iff.1 hoj).1
  have h1 := List.all_eq_true.1 hs j (List.mem_range.2 hlt)
  simp only [Bool.or_eq_true, decide_eq_true_eq] at h1
  rcases h1 with h1 | h1
  · omega
  have h2 := List.all_eq_true.1 h1 i (List.mem_range.2 hin)
  rw [hp, Bool.false_or] at h2
  unfold reachB at h2
  have hl : ∀ o, ops[j]? = some o → ∀ e ∈ o.after, Region.binds md e = true → listed.getD e.on false = true := fun o ho e he hb => by
    rw [hoj] at ho; cases ho; exact hall e he hb
  have hli : listed.getD i false = true := by
    rcases Bool.or_eq_true _ _ ▸ h2 with h2 | h2
    · exact direct_listed h2 hl
    · rw [hoj] at h2
      obtain ⟨e, he, h3⟩ := Array.any_eq_true'.1 h2
      simp only [Bool.and_eq_true] at h3
      exact direct_listed h3.2 (fun o ho => inv.closed e.on o ho (hall e he h3.1))
  rw [getD_both hun] at hli
  cases hli

theorem YieldsIf.stayP {pure : Bool} {o : Oper} {v : Value} {a : Act} {w w' : World} (h : YieldsIf P ops (fun x => pure = true ∨ Below w.heap.size w x) o v a) (hb : pure = true ∨ Below w.heap.size w w') :
    YieldsIf P ops (fun x => pure = true ∨ Below w'.heap.size w' x) o v a :=
  h.imp (fun ⟨h1, h2⟩ => ⟨h1, fun x hx => h2 x (by
    rcases hb with hb | hb
    · exact Or.inl hb
    · rcases hx with hx | hx
      · exact Or.inl hx
      · exact Or.inr (hb.trans (hx.mono hb.size)))⟩) id

theorem wpR_firstP {n i : Nat} {oi : Oper} {v : Value} {pure : Bool} (hi : ops[i]? = some oi) (hsel : ∀ (j : Nat) (o : Oper) cs b, ops[j]? = some o → o.op ≠ .select cs b)
    (hwait : pure = false → ∀ listed : Array Bool, HeadInv md ops ops.size listed → listed.getD i true = false → ∀ j, n ≤ j → j ∉ Region.ready md ops listed)
    (hQ : ∀ c a w, Q (.panic c) (a.put oi.dst v) w → Q (.panic c) a w) :
    ∀ (fuel : Nat) (listed : Array Bool) (a : Act) (w : World), HeadInv md ops ops.size listed →
      (∀ j oj, ops[j]? = some oj → j ≠ i → listed.getD j true = false → (∀ e ∈ oj.after, Region.binds md e = true → e.on ≠ i) → oi.apart ops oj = true) →
      i ∈ Region.ready md ops listed → YieldsIf P ops (fun x => pure = true ∨ Below w.heap.size w x) oi v a →
      wpR P md ops Q n fuel (listed.setIfInBounds i true) (a.put oi.dst v) w → wpR P md ops Q n (fuel + 1) listed a w := by
  intro fuel
  induction fuel with
  | zero =>
    intro listed a w _ _ hr hy H
    refine ⟨fun h => (by rw [h] at hr; cases hr), fun j hj => ?_⟩
    by_cases hji : j = i
    · subst hji; exact hy.wpOp hi (Or.inr (Below.refl _ _)) ⟨fun _ => Below.refl _ _, H⟩
    · have := ready_mono hj hji
      rw [H.1] at this
      cases this
  | succ fuel ih =>
    intro listed a w inv hfree hr hy H
    have hun := (mem_ready.1 hr).1
    refine ⟨fun h => (by rw [h] at hr; cases hr), fun j hj => ?_⟩
    by_cases hji : j = i
    · subst hji; exact hy.wpOp hi (Or.inr (Below.refl _ _)) ⟨fun _ => Below.refl _ _, H⟩
    · have h1 := H.2 j (ready_mono hj hji)
      obtain ⟨hjun, oj, hoj, hall⟩ := mem_ready.1 hj
      have hnot : ∀ e ∈ oj.after, Region.binds md e = true → e.on ≠ i := fun e he hb heq => by
        have h1 := hall e he hb
        rw [heq, getD_both hun] at h1
        cases h1
      have h2 := wpOp_putIf hoj (hfree j oj hoj hji hjun hnot) (fun cs b => hsel i oi cs b hi) (fun cs b => hsel j oj cs b hoj) hQ hy h1
      have hfree' : ∀ k ok, ops[k]? = some ok → k ≠ i → (listed.setIfInBounds j true).getD k true = false →
          (∀ e ∈ ok.after, Region.binds md e = true → e.on ≠ i) → oi.apart ops ok = true := fun k ok hk hki hun hno => by
        refine hfree k ok hk hki ?_ hno
        by_cases hjk : j = k
        · subst hjk; exact hjun
        · rw [getD_set_ne true hjk] at hun; exact hun
      have hstay : ∀ w', (j < n → Below w.heap.size w w') → (pure = true ∨ Below w.heap.size w w') := fun w' hw => by
        cases hpu : pure with
        | true => exact Or.inl rfl
        | false =>
          refine Or.inr (hw ?_)
          rcases Nat.lt_or_ge j n with h | h
          · exact h
          · exact absurd hj (hwait hpu listed inv hun j h)
      refine wpOp_mono (fun a' w' h3 => ⟨h3.2.1, ih (listed.setIfInBounds j true) a' w' (inv.set hj (Array.getElem?_eq_some_iff.1 hoj).1) hfree' (ready_mono hr (Ne.symm hji)) (YieldsIf.stayP h3.1 (hstay w' h3.2.1)) ?_⟩) h2
      rw [Array.setIfInBounds_comm _ _ hji]
      exact h3.2.2

/-- the walk in the chosen order, the variables left aside; C: what is known of the variables' blocks -/
def wpG (P : Program) (ops : Array Oper) (Q : Exit → Act → World → Prop) (n : Nat) (pu : List Nat) (fs : List (Nat × Tmp × Obj)) : (Nat → Prop) → List (Nat × Bool) → Act → World → Prop
  | C, [], a, w => ∀ (bs : List Nat) w', bs.length = fs.length → (∀ (j b : Nat) (f : Nat × Tmp × Obj), bs[j]? = some b → fs[j]? = some f → C b ∧ w'.heap[b]? = some f.2.2) → (∀ (i j b : Nat), bs[i]? = some b → bs[j]? = some b → i = j) → Below w.heap.size w w' →
      wpList P ops Q (ops.toList.drop n) (putS fs (bs.map some) a) w'
  | C, (i, true) :: rest, a, w => ∃ o v, ops[i]? = some o ∧ YieldsIf P ops (fun x => pu.contains i = true ∨ Below w.heap.size w x) o v a ∧ wpG P ops Q n pu fs C rest (a.put o.dst v) w
  | C, (i, false) :: rest, a, w => ∀ x, Below w.heap.size w x → wpOp P ops Q i (fun a' w' => Below x.heap.size x w' ∧ wpG P ops Q n pu fs (fun b => C b ∧ (b < x.heap.size ∨ w'.heap.size ≤ b)) rest a' w') a x

/-- the order serves, the variables wherever they come up -/
def ordGB (md : Region.Mode) (ops : Array Oper) (n : Nat) (fs : List (Nat × Tmp × Obj)) : List (Nat × Bool) → Array Bool → Bool
  | [], listed => Region.seqB md ops (ops.size - n) n (fullS fs listed)
  | (i, t) :: rest, listed =>
    (Region.ready md ops listed).contains i && (if t then Region.free md ops listed i else decide (Region.ready md ops (fullS fs listed) = [i])) &&
    decide (i < n) && (fs.all fun f => decide (i ≠ f.1)) && (match ops[i]? with | some o => apartS ops fs o | none => false) && ordGB md ops n fs rest (listed.setIfInBounds i true)

/-- what holds of the variables that are made -/
def HeldS (C : Nat → Prop) (x : World) (fs : List (Nat × Tmp × Obj)) (os : List (Option Nat)) : Prop :=
  os.length = fs.length ∧ (∀ (j b : Nat) (f : Nat × Tmp × Obj), os[j]? = some (some b) → fs[j]? = some f → C b ∧ x.heap[b]? = some f.2.2) ∧ (∀ (i j b : Nat), os[i]? = some (some b) → os[j]? = some (some b) → i = j)

theorem free_S {i : Nat} {oi : Oper} {listed : Array Bool} (h : ∀ j oj, ops[j]? = some oj → j ≠ i → listed.getD j true = false → (∀ e ∈ oj.after, Region.binds md e = true → e.on ≠ i) → oi.apart ops oj = true) :
    ∀ (fs : List (Nat × Tmp × Obj)) (os : List (Option Nat)), ∀ j oj, ops[j]? = some oj → j ≠ i → (setS fs os listed).getD j true = false → (∀ e ∈ oj.after, Region.binds md e = true → e.on ≠ i) → oi.apart ops oj = true
  | [], _ => by simpa [setS] using h
  | _ :: _, [] => by simpa [setS] using h
  | (k, d, Z) :: fs, none :: os => by simp only [setS]; exact free_S h fs os
  | (k, d, Z) :: fs, some b :: os => fun j oj hj hji hu he => by
    simp only [setS, setS_set] at hu
    refine free_S h fs os j oj hj hji ?_ he
    by_cases hjk : k = j
    · subst hjk; rw [getD_set_true] at hu; cases hu
    · rwa [getD_set_ne true hjk] at hu

/-- how many are not made yet -/
def pendS (os : List (Option Nat)) : Nat := os.countP fun o => o.isNone

theorem pendS_fire {b : Nat} : ∀ (os : List (Option Nat)) (j : Nat), os[j]? = some none → pendS (os.set j (some b)) + 1 = pendS os
  | [], _, h => by simp at h
  | o :: os, 0, h => by
    simp at h; subst h
    simp [pendS]
  | o :: os, j + 1, h => by
    have := pendS_fire (b := b) os j (by simpa using h)
    unfold pendS at *
    rw [List.set_cons_succ, List.countP_cons, List.countP_cons]
    omega

theorem pendS_zero : ∀ (os : List (Option Nat)), pendS os = 0 → ∃ bs : List Nat, os = bs.map some
  | [], _ => ⟨[], rfl⟩
  | none :: os, h => by simp [pendS] at h
  | some b :: os, h => by
    obtain ⟨bs, e⟩ := pendS_zero os (by simpa [pendS] using h)
    exact ⟨b :: bs, by rw [e]; rfl⟩

theorem pendS_pos : ∀ (os : List (Option Nat)), pendS os ≠ 0 → ∃ j : Nat, os[j]? = some none
  | [], h => by simp [pendS] at h
  | none :: os, h => ⟨0, rfl⟩
  | some b :: os, h => by
    obtain ⟨j, e⟩ := pendS_pos os (by simpa [pendS] using h)
    exact ⟨j + 1, by simpa using e⟩

/-- what is given of the variables -/
def MadeS (P : Program) (ops : Array Oper) (n : Nat) (fs : List (Nat × Tmp × Obj)) : Prop :=
  (fs.map fun f => f.2.1).Nodup ∧ (fs.map fun f => f.1).Nodup ∧ ∀ f ∈ fs, f.1 < n ∧ ∃ ok, ops[f.1]? = some ok ∧ ok.dst = some f.2.1 ∧ ok.guard = none ∧ ∀ (a : Act) (w : World), (execOp a.eval ok).run P w = .ok (.value (.pointer (some ⟨w.heap.size, 0, none⟩))) (w.alloc f.2.2)

theorem nodup_get {fs : List (Nat × Tmp × Obj)} (h : (fs.map fun f => f.1).Nodup) {i j : Nat} {f g : Nat × Tmp × Obj} (hi : fs[i]? = some f) (hj : fs[j]? = some g) (e : f.1 = g.1) : i = j := by
  have h1 : i < (fs.map fun f => f.1).length := by have := (List.getElem?_eq_some_iff.1 hi).1; simpa using this
  have h2 : (fs.map fun f => f.1)[i]? = (fs.map fun f => f.1)[j]? := by
    rw [List.getElem?_map, List.getElem?_map, hi, hj]; simp [e]
  exact (List.getElem?_inj h1 h).1 h2

theorem wpR_of_G {n : Nat} {pu : List Nat} {fs : List (Nat × Tmp × Obj)} (hfs : MadeS P ops n fs) (hfp : ∀ f ∈ fs, pu.contains f.1 = false) (hsel : Region.noSelect ops = true) (hs : sinkP md ops n pu = true) (hn : n ≤ ops.size)
    (hQ : ∀ c a d u w, Q (.panic c) a w → Q (.panic c) (a.put (some d) u) w) (hQ2 : ∀ c a o u w, Q (.panic c) (a.put o u) w → Q (.panic c) a w) :
    ∀ (m : Nat) (ord : List (Nat × Bool)) (C : Nat → Prop) (listed : Array Bool) (os : List (Option Nat)) (a : Act) (w x : World), m = ord.length + pendS os → HeldS C x fs os → (∀ b, x.heap.size ≤ b → C b) → HeadInv md ops ops.size (setS fs os listed) →
      (∀ (j : Nat) (f : Nat × Tmp × Obj), fs[j]? = some f → f.1 ∈ Region.ready md ops listed) → ordGB md ops n fs ord listed = true → wpG P ops Q n pu fs C ord a w →
      Below w.heap.size w x → wpR P md ops Q n (m + (ops.size - n)) (setS fs os listed) (putS fs os a) x := by
  obtain ⟨hnd, hnk, hall⟩ := hfs
  intro m
  induction m with
  | zero =>
    intro ord C listed os a w x hm hheld hfr inv hrd hB h hb
    obtain ⟨bs, rfl⟩ := pendS_zero os (by omega)
    obtain rfl : ord = [] := List.length_eq_zero_iff.1 (by omega)
    have hlen : bs.length = fs.length := by simpa using hheld.1
    rw [setS_all fs bs listed hlen]
    have := wpR_of_seq (md := md) (n := n) (Q' := Q) (ops.toList.drop n) n (fullS fs listed) _ x (Nat.le_refl _) (fun j => by simp [List.getElem?_drop]) (by simpa [ordGB] using hB)
      (h bs x hlen (fun j b f h1 h2 => hheld.2.1 j b f (by simp [h1]) h2) (fun i j b h1 h2 => hheld.2.2 i j b (by simp [h1]) (by simp [h2])) hb)
    simpa using this
  | succ m ih =>
    intro ord C listed os a w x hm hheld hfr inv hrd hB h hb
    -- a variable comes up
    have hfire : ∀ (j : Nat) (f : Nat × Tmp × Obj), fs[j]? = some f → os[j]? = some none →
        wpOp P ops Q f.1 (fun a' w' => (f.1 < n → Below x.heap.size x w') ∧ wpR P md ops Q n (m + (ops.size - n)) ((setS fs os listed).setIfInBounds f.1 true) a' w') (putS fs os a) x := by
      intro j f hj ho
      obtain ⟨hkn, ok, hok, hd, hg, hrun⟩ := hall f (List.mem_of_getElem? hj)
      have hbelow : Below x.heap.size x (x.alloc f.2.2) := (Below.refl _ _).alloc (Nat.le_refl _) _
      have hw : Region.wanted ok (yielded ops (putS fs os a).tmps) = true := by simp [Region.wanted, hg]
      unfold wpOp
      simp only [hok, hw, if_true, Oper.wp, hrun, Oper.upon, hd]
      refine .inl ⟨fun _ => hbelow, ?_⟩
      have hrs : f.1 ∈ Region.ready md ops (setS fs os listed) := ready_S fs os listed (fun i b g h1 h2 e => by
        obtain rfl := nodup_get hnk h1 hj e.symm
        rw [ho] at h2; cases h2) (hrd j f hj)
      have hrec := ih ord C listed (os.set j (some x.heap.size)) a w (x.alloc f.2.2) (by have := pendS_fire (b := x.heap.size) os j ho; omega) ?_ (fun b hb' => hfr b (Nat.le_trans hbelow.size hb')) (by rw [setS_fire fs os listed j f hj ho]; exact inv.set hrs (Array.getElem?_eq_some_iff.1 hok).1) hrd hB h (hb.trans (hbelow.mono hb.size))
      · rwa [setS_fire fs os listed j f hj ho, putS_fire fs os a j f hj ho hnd] at hrec
      · refine ⟨by simpa using hheld.1, fun i b g h1 h2 => ?_, fun i i' b h1 h2 => ?_⟩
        · rw [List.getElem?_set] at h1
          split at h1
          · rename_i e; subst e
            split at h1
            · cases h1
              rw [hj] at h2; cases h2
              exact ⟨hfr _ (Nat.le_refl _), heap_alloc_new _ _⟩
            · cases h1
          · obtain ⟨h3, h4⟩ := hheld.2.1 i b g h1 h2
            exact ⟨h3, (hbelow.block b (lt_of_block h4)).trans h4⟩
        · have hlt : ∀ (i b : Nat), os[i]? = some (some b) → b < x.heap.size := fun i b h3 => by
            have h5 : i < fs.length := by rw [← hheld.1]; exact (List.getElem?_eq_some_iff.1 h3).1
            exact lt_of_block (hheld.2.1 i b fs[i] h3 (List.getElem?_eq_getElem h5)).2
          rw [List.getElem?_set] at h1 h2
          split at h1 <;> split at h2
          · omega
          · split at h1
            · cases h1; have := hlt _ _ h2; omega
            · cases h1
          · split at h2
            · cases h2; have := hlt _ _ h1; omega
            · cases h2
          · exact hheld.2.2 i i' b h1 h2
    -- what comes up is one of the variables, or of the others
    have hcase : ∀ j ∈ Region.ready md ops (setS fs os listed), (∃ (i : Nat) (f : Nat × Tmp × Obj), fs[i]? = some f ∧ os[i]? = some none ∧ j = f.1) ∨ ((∀ f ∈ fs, j ≠ f.1) ∧ j ∈ Region.ready md ops (fullS fs listed)) := by
      intro j hj
      by_cases hk : ∃ f ∈ fs, j = f.1
      · obtain ⟨f, hf, rfl⟩ := hk
        obtain ⟨i, hi⟩ := List.getElem?_of_mem hf
        have hlt : i < os.length := by rw [hheld.1]; exact (List.getElem?_eq_some_iff.1 hi).1
        cases ho : os[i]? with
        | none => rw [List.getElem?_eq_none_iff] at ho; omega
        | some o =>
          cases o with
          | none => exact Or.inl ⟨i, f, hi, ho, rfl⟩
          | some b =>
            have h1 := setS_fired fs os listed i f hi ho
            have h2 := (mem_ready.1 hj).1
            rw [h1] at h2; cases h2
      · have hk' : ∀ f ∈ fs, j ≠ f.1 := fun f hf e => hk ⟨f, hf, e⟩
        exact Or.inr ⟨hk', ready_full fs os listed hk' hj⟩
    have hpend : pendS os ≠ 0 → ∃ (i : Nat) (f : Nat × Tmp × Obj), fs[i]? = some f ∧ os[i]? = some none ∧ f.1 ∈ Region.ready md ops (setS fs os listed) := fun hp => by
      obtain ⟨i, ho⟩ := pendS_pos os hp
      have hlt : i < fs.length := by rw [← hheld.1]; exact (List.getElem?_eq_some_iff.1 ho).1
      refine ⟨i, fs[i], List.getElem?_eq_getElem hlt, ho, ready_S fs os listed (fun i' b g h1 h2 e => ?_) (hrd i _ (List.getElem?_eq_getElem hlt))⟩
      obtain rfl := nodup_get hnk h1 (List.getElem?_eq_getElem hlt) e.symm
      rw [ho] at h2; cases h2
    cases ord with
    | nil =>
      have hp : pendS os ≠ 0 := by simp at hm; omega
      obtain ⟨i0, f0, hf0, ho0, hr0⟩ := hpend hp
      have hB' := hB
      rw [show m + 1 + (ops.size - n) = m + (ops.size - n) + 1 by omega]
      refine ⟨fun h0 => (by rw [h0] at hr0; cases hr0), fun j hj => ?_⟩
      rcases hcase j hj with ⟨i, f, hi, ho, rfl⟩ | ⟨_, hj2⟩
      · exact hfire i f hi ho
      · rcases Nat.lt_or_ge n ops.size with hlt | hge
        · obtain ⟨k0, hk0⟩ : ∃ k0, ops.size - n = k0 + 1 := ⟨ops.size - n - 1, by omega⟩
          simp only [ordGB, hk0, Region.seqB, Bool.and_eq_true, decide_eq_true_eq] at hB'
          rw [hB'.1] at hj2
          obtain rfl : j = n := by simpa using hj2
          exact absurd hj (tail_waitsP hs (hall f0 (List.mem_of_getElem? hf0)).1 (hfp f0 (List.mem_of_getElem? hf0)) inv (mem_ready.1 hr0).1 j (Nat.le_refl _))
        · simp only [ordGB, show ops.size - n = 0 by omega, Region.seqB] at hB'
          rw [List.isEmpty_iff.1 hB'] at hj2; cases hj2
    | cons p rest =>
      obtain ⟨i, t⟩ := p
      have hB' := hB
      cases ho : ops[i]? with
      | none => simp [ordGB, ho] at hB
      | some o =>
      simp only [ordGB, Bool.and_eq_true, decide_eq_true_eq, ho] at hB'
      obtain ⟨⟨⟨⟨⟨h1, h2⟩, h3⟩, h4⟩, h5⟩, h7⟩ := hB'
      have h1 : i ∈ Region.ready md ops listed := by simpa using h1
      have h4 : ∀ f ∈ fs, i ≠ f.1 := fun f hf => by simpa using List.all_eq_true.1 h4 f hf
      have hap := apartS_out h5
      have hr' : i ∈ Region.ready md ops (setS fs os listed) := ready_S fs os listed (fun _ _ f hf _ => h4 f (List.mem_of_getElem? hf)) h1
      have hrd' : ∀ (j : Nat) (f : Nat × Tmp × Obj), fs[j]? = some f → f.1 ∈ Region.ready md ops (listed.setIfInBounds i true) := fun j f hj => ready_mono (hrd j f hj) (Ne.symm (h4 f (List.mem_of_getElem? hj)))
      rw [show m + 1 + (ops.size - n) = m + (ops.size - n) + 1 by omega]
      cases t with
      | true =>
        obtain ⟨o', v, ho', hy, h⟩ := h
        obtain rfl : o = o' := by rw [ho] at ho'; cases ho'; rfl
        simp only [if_true] at h2
        obtain ⟨e1, e2⟩ := execOp_putS (ops := ops) o (fun cs e => Region.noSelect_spec hsel i o cs e ho) fs os a (fun f hf => (hap f hf).1)
        have hy' : YieldsIf P ops (fun y => pu.contains i = true ∨ Below x.heap.size x y) o v (putS fs os a) := (YieldsIf.stayP hy (Or.inr hb)).of_same e1 e2
        have hrec := ih rest C (listed.setIfInBounds i true) os (a.put o.dst v) w x (by simp at hm; omega) hheld hfr (by rw [setS_set]; exact inv.set hr' (Array.getElem?_eq_some_iff.1 ho).1) hrd' h7 h hb
        rw [setS_set, putS_put fs os a (fun f hf => (hap f hf).2)] at hrec
        exact wpR_firstP ho (Region.noSelect_spec hsel) (fun hpu l hl hun j hj => tail_waitsP hs h3 hpu hl hun j hj) (fun c a w => hQ2 c a o.dst v w) _ _ _ x inv (free_S (Region.free_spec ho h2) fs os) hr' hy' hrec
      | false =>
        simp only [Bool.false_eq_true, if_false, decide_eq_true_eq] at h2
        refine ⟨fun h0 => (by rw [h0] at hr'; cases hr'), fun j hj => ?_⟩
        rcases hcase j hj with ⟨i', f, hi, ho', rfl⟩ | ⟨_, hj2⟩
        · exact hfire i' f hi ho'
        · rw [h2] at hj2
          obtain rfl : j = i := by simpa using hj2
          refine wpOp_putS ho (fun cs e => Region.noSelect_spec hsel j o cs e ho) hQ fs os hap (fun a' w' h' => ?_) (h x hb)
          refine ⟨fun _ => h'.1, ?_⟩
          have hrec := ih rest _ (listed.setIfInBounds j true) os a' w' w' (by simp at hm; omega) ⟨hheld.1, fun k b f hk hf => ?_, hheld.2.2⟩ (fun b hb' => ⟨hfr b (Nat.le_trans h'.1.size hb'), Or.inr hb'⟩) (by rw [setS_set]; exact inv.set hr' (Array.getElem?_eq_some_iff.1 ho).1) hrd' h7 h'.2 (Below.refl _ _)
          · rw [setS_set] at hrec; exact hrec
          · obtain ⟨h8, h9⟩ := hheld.2.1 k b f hk hf
            have hlt := lt_of_block h9
            exact ⟨⟨h8, Or.inl hlt⟩, (h'.1.block b hlt).trans h9⟩

/-- a closed fact -/
def floatsB (md : Region.Mode) (ops : Array Oper) (n : Nat) (pu : List Nat) (fs : List (Nat × Tmp × Obj)) (ord : List (Nat × Bool)) : Bool :=
  Region.noSelect ops && decide (n ≤ ops.size) && decide (ord.length + fs.length = n) && sinkP md ops n pu && (fs.all fun f => (Region.ready md ops (Array.replicate ops.size false)).contains f.1 && !pu.contains f.1) && ordGB md ops n fs ord (Array.replicate ops.size false)

theorem setS_none : ∀ (fs : List (Nat × Tmp × Obj)) (l : Array Bool), setS fs (fs.map fun _ => none) l = l
  | [], _ => rfl
  | _ :: fs, l => setS_none fs l
theorem putS_none : ∀ (fs : List (Nat × Tmp × Obj)) (a : Act), putS fs (fs.map fun _ => none) a = a
  | [], _ => rfl
  | _ :: fs, a => putS_none fs a
theorem pendS_none : ∀ (fs : List (Nat × Tmp × Obj)), pendS (fs.map fun _ => none) = fs.length
  | [] => rfl
  | f :: fs => by
    have := pendS_none fs
    unfold pendS at *
    rw [List.map_cons, List.countP_cons, this]
    rfl

/-- THE BEGINNING -/
theorem wp_region_floats {id : Nat} {a : Act} {w : World} (n : Nat) (pu : List Nat) (fs : List (Nat × Tmp × Obj)) (ord : List (Nat × Bool))
    (hm : P.follows .mixedOrders = true) (hB : floatsB .any ops n pu fs ord = true) (hfs : MadeS P ops n fs)
    (hQ : ∀ c a d u w, Q (.panic c) a w → Q (.panic c) (a.put (some d) u) w) (hQ2 : ∀ c a o u w, Q (.panic c) (a.put o u) w → Q (.panic c) a w)
    (h : wpG P ops Q n pu fs (fun b => w.heap.size ≤ b) ord a w.drew) : (Code.region id ops true).wp P Q a w := by
  simp only [floatsB, Bool.and_eq_true, decide_eq_true_eq] at hB
  obtain ⟨⟨⟨⟨⟨hsel, hn⟩, hl⟩, hs⟩, hr⟩, ho⟩ := hB
  have hr' : ∀ f ∈ fs, f.1 ∈ Region.ready .any ops (Array.replicate ops.size false) ∧ pu.contains f.1 = false := fun f hf => by
    have := List.all_eq_true.1 hr f hf
    simp only [Bool.and_eq_true, Bool.not_eq_true'] at this
    exact ⟨by simpa using this.1, this.2⟩
  have := wpR_of_G (P := P) (Q := Q) (md := .any) hfs (fun f hf => (hr' f hf).2) hsel hs hn hQ hQ2 (ord.length + fs.length) ord _ (Array.replicate ops.size false) (fs.map fun _ => none) a w.drew w.drew (by rw [pendS_none])
    ⟨by simp, fun j b f h1 _ => by rw [List.getElem?_map] at h1; cases hx : fs[j]? <;> simp [hx] at h1, fun i j b h1 _ => by rw [List.getElem?_map] at h1; cases hx : fs[i]? <;> simp [hx] at h1⟩
    (fun b hb => hb) (by rw [setS_none]; exact ⟨by simp, fun j oj _ hl => (by rw [getD_replicate_false] at hl; cases hl), fun t h1 h2 => absurd h2 (by omega)⟩) (fun j f hj => (hr' f (List.mem_of_getElem? hj)).1) ho h (Below.refl _ _)
  rw [setS_none, putS_none, hl, show n + (ops.size - n) = ops.size by omega] at this
  exact wp_region_any hm (wpAny_of_R _ _ _ _ this)

/-- an operation that merely reads -/
theorem wpG_yield {n i : Nat} {pu : List Nat} {fs : List (Nat × Tmp × Obj)} {C : Nat → Prop} {rest : List (Nat × Bool)} {o : Oper} {v : Value} {a : Act} {w : World} (hi : ops.toList[i]? = some o) (hpu : pu.contains i = false)
    (hw : Region.wanted o (yielded ops a.tmps) = true) (hy : ∀ x, Below w.heap.size w x → (execOp a.eval o).run P x = .ok (.value v) x)
    (h : wpG P ops Q n pu fs C rest (a.put o.dst v) w) : wpG P ops Q n pu fs C ((i, true) :: rest) a w :=
  ⟨o, v, by rw [← Array.getElem?_toList]; exact hi, Or.inl ⟨hw, fun x hx => hy x (hx.resolve_left (by rw [hpu]; decide))⟩, h⟩

/-- an operation that reads nothing -/
theorem wpG_pure {n i : Nat} {pu : List Nat} {fs : List (Nat × Tmp × Obj)} {C : Nat → Prop} {rest : List (Nat × Bool)} {o : Oper} {v : Value} {a : Act} {w : World} (hi : ops.toList[i]? = some o)
    (hw : Region.wanted o (yielded ops a.tmps) = true) (hy : ∀ x, (execOp a.eval o).run P x = .ok (.value v) x)
    (h : wpG P ops Q n pu fs C rest (a.put o.dst v) w) : wpG P ops Q n pu fs C ((i, true) :: rest) a w :=
  ⟨o, v, by rw [← Array.getElem?_toList]; exact hi, Or.inl ⟨hw, fun x _ => hy x⟩, h⟩

theorem wpG_skip {n i : Nat} {pu : List Nat} {fs : List (Nat × Tmp × Obj)} {C : Nat → Prop} {rest : List (Nat × Bool)} {o : Oper} {a : Act} {w : World} (hi : ops.toList[i]? = some o)
    (hw : Region.wanted o (yielded ops a.tmps) = false)
    (h : wpG P ops Q n pu fs C rest (a.put o.dst undef) w) : wpG P ops Q n pu fs C ((i, true) :: rest) a w :=
  ⟨o, undef, by rw [← Array.getElem?_toList]; exact hi, Or.inr ⟨hw, rfl⟩, h⟩

theorem wpG_step {n i : Nat} {pu : List Nat} {fs : List (Nat × Tmp × Obj)} {C : Nat → Prop} {rest : List (Nat × Bool)} {o : Oper} {a : Act} {w : World} (hi : ops.toList[i]? = some o) (hg : o.guard = none)
    (h : ∀ x, Below w.heap.size w x → ∀ K : Act → World → Prop, (∀ a' w', Below x.heap.size x w' → wpG P ops Q n pu fs (fun b => C b ∧ (b < x.heap.size ∨ w'.heap.size ≤ b)) rest a' w' → K a' w') → o.wp P a x K Q) :
    wpG P ops Q n pu fs C ((i, false) :: rest) a w := by
  have hw : Region.wanted o (yielded ops a.tmps) = true := by simp [Region.wanted, hg]
  rw [Array.getElem?_toList] at hi
  intro x hx
  unfold wpOp
  simp only [hi, hw, if_true]
  exact .inl (h x hx _ fun a' w' h1 h2 => ⟨h1, h2⟩)

/-- a call whose guard holds -/
theorem wpG_stepw {n i : Nat} {pu : List Nat} {fs : List (Nat × Tmp × Obj)} {C : Nat → Prop} {rest : List (Nat × Bool)} {o : Oper} {a : Act} {w : World} (hi : ops.toList[i]? = some o) (hw : Region.wanted o (yielded ops a.tmps) = true)
    (h : ∀ x, Below w.heap.size w x → ∀ K : Act → World → Prop, (∀ a' w', Below x.heap.size x w' → wpG P ops Q n pu fs (fun b => C b ∧ (b < x.heap.size ∨ w'.heap.size ≤ b)) rest a' w' → K a' w') → o.wp P a x K Q) :
    wpG P ops Q n pu fs C ((i, false) :: rest) a w := by
  rw [Array.getElem?_toList] at hi
  intro x hx
  unfold wpOp
  simp only [hi, hw, if_true]
  exact .inl (h x hx _ fun a' w' h1 h2 => ⟨h1, h2⟩)

theorem wpG_nil2 {n k1 k2 : Nat} {pu : List Nat} {d1 d2 : Tmp} {Z1 Z2 : Obj} {C : Nat → Prop} {a : Act} {w : World} {l : List Oper} (hl : ops.toList.drop n = l)
    (h : ∀ b1 b2 w', C b1 → C b2 → b1 ≠ b2 → Below w.heap.size w w' → w'.heap[b1]? = some Z1 → w'.heap[b2]? = some Z2 → wpList P ops Q l ((a.put (some d1) (.pointer (some ⟨b1, 0, none⟩))).put (some d2) (.pointer (some ⟨b2, 0, none⟩))) w') :
    wpG P ops Q n pu [(k1, d1, Z1), (k2, d2, Z2)] C [] a w := by
  subst hl
  intro bs w' hlen h1 h2 hb
  match bs, hlen with
  | [b1, b2], _ =>
    obtain ⟨c1, e1⟩ := h1 0 b1 _ rfl rfl
    obtain ⟨c2, e2⟩ := h1 1 b2 _ rfl rfl
    exact h b1 b2 w' c1 c2 (fun e => by have := h2 0 1 b1 rfl (by rw [e]; rfl); omega) hb e1 e2

theorem wpG_nil0 {n : Nat} {pu : List Nat} {C : Nat → Prop} {a : Act} {w : World} {l : List Oper} (hl : ops.toList.drop n = l) (h : ∀ w', Below w.heap.size w w' → wpList P ops Q l a w') : wpG P ops Q n pu [] C [] a w := by
  subst hl
  intro bs w' hlen _ _ hb
  obtain rfl : bs = [] := List.length_eq_zero_iff.1 hlen
  exact h w' hb

theorem wpG_nil1 {n k1 : Nat} {pu : List Nat} {d1 : Tmp} {Z1 : Obj} {C : Nat → Prop} {a : Act} {w : World} {l : List Oper} (hl : ops.toList.drop n = l)
    (h : ∀ b1 w', C b1 → Below w.heap.size w w' → w'.heap[b1]? = some Z1 → wpList P ops Q l (a.put (some d1) (.pointer (some ⟨b1, 0, none⟩))) w') :
    wpG P ops Q n pu [(k1, d1, Z1)] C [] a w := by
  subst hl
  intro bs w' hlen h1 h2 hb
  match bs, hlen with
  | [b1], _ =>
    obtain ⟨c1, e1⟩ := h1 0 b1 _ rfl rfl
    exact h b1 w' c1 hb e1

end
end Go.Proofs.YtpicmhbjiaegpaaGreatDoor

namespace Go.Proofs.YtpicmhbjiaegpaaGreatDoor
open Go.RowKit

/-- what holds ahead of each round of made's second loop -/
def MadeRel (s : Bool) (zs : List Int) (q : Nat) (w : World) (v : Value) (wr : World) : Prop :=
  ∃ (k : Nat) (va : Option Addr) (vc : Nat), v = .int .i64 k ∧ k ≤ q ∧ wr.ownsRow (w.heap.size + 2) 3 1 (.slice va k vc) k ((zs.take k).map (Value.int .i64)) ∧
    wr.heap[w.heap.size]? = some (.cells #[.bool false, .slice none 0 0] 148 (0, 0)) ∧
    wr.heap[w.heap.size + 1]? = some (.cells #[.bool s, .slice va k vc] 148 (0, 0)) ∧ Below w.heap.size w wr ∧ w.heap.size + 2 ≤ wr.heap.size

/-- a call that gives back a long integer in memory of its own, free to be written -/
def RetM (w : World) (z : Int) (e : Ending) (w' : World) : Prop :=
  ∃ s a n c, e = .returned (.agg #[.bool s, .slice a n c]) ∧ LG w'.heap.size w' s a n c z ∧ Below w.heap.size w w' ∧ Fresh w.heap.size a n ∧ (n = 0 ∨ ∃ g, a = some ⟨g, 0, none⟩ ∧ Blk w' g (digs z.natAbs)) ∧ (a = none → c = 0)

theorem made_end {s : Bool} {zs : List Int} {q vc : Nat} {va : Option Addr} {w wr : World} {z : Int} (hs : s = decide (z < 0)) (hz : digs z.natAbs = zs.take q) (hq : q ≤ 600)
    (hown : wr.ownsRow (w.heap.size + 2) 3 1 (.slice va q vc) q ((zs.take q).map (Value.int .i64))) (hb : Below w.heap.size w wr) :
    RetM w z (.returned (.agg #[.bool s, .slice va q vc])) ((wr.setCell ⟨w.heap.size, 0, none⟩ (.bool s)).setCell ⟨w.heap.size, 1, none⟩ (.slice va q vc)) := by
  have hsl := owns_sl hown
  have hf : Fresh (w.heap.size + 2) va q := by
    rcases (owns_cells hown).2 with ⟨e, h0⟩ | ⟨g, cap, e, hg, hcap, hcells⟩
    · rw [h0]; exact Fresh.zero _ _
    · injection e with e1 e2 e3
      rw [e1]; exact Fresh.mk hg _
  have hne : ∀ b off, va = some ⟨b, off, none⟩ → 0 < q → b ≠ w.heap.size := fun b off e h0 => by have := hf b off e h0; omega
  refine ⟨s, va, q, vc, rfl, ⟨hs, ?_, hq⟩, (hb.setCell (Nat.le_refl _) _).setCell (Nat.le_refl _) _, hf.mono (by omega), ?_, ?_⟩
  rotate_left
  · rcases (owns_cells hown).2 with ⟨e, h0⟩ | ⟨g, cap, e, hg, hcap, hcells⟩
    · exact Or.inl h0
    · injection e with e1 e2 e3
      refine Or.inr ⟨g, e1, ?_⟩
      rw [hz]
      exact (hcells.other ⟨w.heap.size, 0, none⟩ (by simp; omega) _).other ⟨w.heap.size, 1, none⟩ (by simp; omega) _
  · rcases (owns_cells hown).2 with ⟨e, h0⟩ | ⟨g, cap, e, hg, hcap, hcells⟩
    · injection e with e1 e2 e3
      exact fun _ => e3
    · injection e with e1 e2 e3
      intro h; rw [h] at e1; cases e1
  rw [hz]
  have := (hsl.setCell ⟨w.heap.size, 0, none⟩ (.bool s) hne).setCell ⟨w.heap.size, 1, none⟩ (.slice va q vc) hne
  simpa using this

theorem grown_undrew {w w' : World} {r : Option Nat} (h : w.drew.grownBy w' r) : w.grownBy w' r := ⟨h.1, h.2, h.3, h.4, h.5⟩

theorem take_snoc_getD {zs : List Int} {j : Nat} (h : j < zs.length) : zs.take j ++ [zs[j]?.getD 0] = zs.take (j + 1) := by
  rw [List.take_add_one, List.getElem?_eq_getElem h]; rfl

set_option maxRecDepth 100000 in
set_option maxHeartbeats 800000 in
theorem made_own (s : Bool) (zs : List Int) (z : Int) (a : Option Addr) (n c : Nat) (w : World) (h : SL w.heap.size w a n c zs) (hd : Dig zs) (hn : n ≤ 1000000) (hm : (digs (val zs).toNat).length ≤ 600) (hz : z = if s then -val zs else val zs) :
    Calls Tryz.prog 105 #[.bool s, .slice a n c] w (RetM w z) := by
  have Hd := Lib.hid hd; have H := Lib.hid h; have hcap := h.cap; have Hz := Lib.hid hz; clear hd h hz
  have Hl := Lib.hid H.out.len
  go_enter Tryz.func105, Tryz.ntmps105
  go_wp2_with fail
  go_loop [5] (fun v => ∃ k : Nat, k ≤ n ∧ val (zs.take k) = val zs ∧ v = .int .i64 k) (fun v => (intOf v).toNat)
  case atStart => exact ⟨n, Nat.le_refl _, by rw [H.out.len, List.take_length], rfl⟩
  case round =>
    obtain ⟨k, hk, ht, rfl⟩ := hrel
    have Ht := Lib.hid ht; clear ht
    -- the end of the first loop
    by_cases h0 : k = 0
    · subst h0
      have hv : val zs = 0 := by rw [← Ht.out]; rfl
      have hz0 : z = 0 := by rw [Hz.out, hv]; cases s <;> rfl
      have Hz0 := Lib.hid hz0; clear hz0 hv
      cases s
      all_goals
        go_wp2_with fail
        go_loopw [7] (fun v wr => MadeRel false zs 0 w v wr) (fun v _ => (0 : Nat) - (intOf v).toNat)
        case atStart =>
          obtain ⟨e1, e2⟩ := heap_two w (.cells #[.bool false, .slice none 0 0] 148) (.cells #[.bool false, .slice none 0 0] 148)
          exact ⟨0, none, 0, rfl, Nat.le_refl _, World.ownsRow_nil _ _ _ _, e1, e2, ((Below.refl _ _).alloc (Nat.le_refl _) _).alloc (by simp) _, by simp⟩
        case round =>
          obtain ⟨k, va, vc, rfl, hk0, hown, hc1, hc2, hbw, hsz⟩ := hrel
          obtain rfl : k = 0 := by omega
          have j10 : wr.cell? ⟨w.heap.size, 0, none⟩ = some (.bool false) := by simp [World.cell?, hc1]
          have j11 : wr.cell? ⟨w.heap.size, 1, none⟩ = some (.slice none 0 0) := by simp [World.cell?, hc1]
          have j20 : wr.frozen? ⟨w.heap.size, 0, none⟩ = false := by simp [World.frozen?, hc1]
          have j21 : wr.frozen? ⟨w.heap.size, 1, none⟩ = false := by simp [World.frozen?, hc1]
          have k10 : wr.cell? ⟨w.heap.size + 1, 0, none⟩ = some (.bool false) := by simp [World.cell?, hc2]
          have k11 : wr.cell? ⟨w.heap.size + 1, 1, none⟩ = some (.slice va 0 vc) := by simp [World.cell?, hc2]
          have Hown := Lib.hid hown; clear hown hc1 hc2
          go_wp2_with fail
          refine bodyPost_ret (v := .agg #[.bool false, .slice va 0 vc]) ?_ rfl ?_
          · simp [results, Tryz.results105, go_sem, j10, j11]
          · exact made_end (by rw [Hz0.out]; rfl) (by rw [Hz0.out]; simp [digs_zero]) (by omega) Hown.out hbw
    · obtain ⟨k, rfl⟩ : ∃ i, k = i + 1 := ⟨k - 1, by omega⟩
      obtain ⟨hl, _, ga⟩ := H.out
      obtain ⟨b, off, rfl, hbl, ca⟩ := ga (by omega)
      have hbo := ((Below.refl w.heap.size w).alloc (Nat.le_refl _) (.cells #[.bool false, .slice none 0 0] 148)).cell (p := ⟨b, off + k, none⟩) hbl
      have g1 := hbo.trans (ca k (by omega))
      have Hca := Lib.hid ca
      clear ca ga h0 hl hbo
      by_cases hzz : zs.getD k 0 = 0
      · have Hzz := Lib.hid hzz
        rw [hzz] at g1; clear hzz
        cases s
        all_goals
          go_wp2
          go_round
          case rel => exact ⟨k, by omega, by rw [← val_take_zero (by have := Hl.out; omega) Hzz.out, Ht.out], by go_num⟩
          case measure => simp [intOf]
      · have Hzz := Lib.hid hzz
        have hz' : (zs.getD k 0 == 0) = false := by simpa using hzz
        clear hzz
        generalize hx : zs.getD k 0 = x at g1 hz'
        have Hx := Lib.hid hx; clear hx
        have htk : zs.take (k + 1) = digs (val zs).toNat := digs_of_take (n := (val zs).toNat) Hd.out (by have := Hl.out; omega) (Or.inr (by simpa using Hzz.out)) (by rw [Ht.out, Int.toNat_of_nonneg (val_nonneg Hd.out)])
        have hvp : 0 < val zs := by
          have h1 := val_nonneg Hd.out
          rcases Int.lt_or_eq_of_le h1 with h2 | h2
          · exact h2
          · rw [← h2] at htk
            have := congrArg List.length htk
            rw [List.length_take, show (0 : Int).toNat = 0 from rfl, digs_zero, Nat.min_eq_left (by have := Hl.out; omega)] at this
            exact absurd this (by simp)
        have htz : digs z.natAbs = zs.take (k + 1) := by
          rw [htk, Hz.out]; congr 1; cases s <;> simp <;> omega
        have hsz : s = decide (z < 0) := by
          rw [Hz.out]; cases s <;> simp <;> omega
        have hk600 : k + 1 ≤ 600 := by
          have := congrArg List.length htk
          rw [List.length_take, Nat.min_eq_left (by have := Hl.out; omega)] at this
          omega
        have Htz := Lib.hid htz; have Hsz := Lib.hid hsz; clear htz hsz hvp htk
        cases s
        all_goals
          go_wp2_with fail
          go_loopw [7] (fun v wr => MadeRel _ zs (k + 1) w v wr) (fun v _ => (k + 1 : Nat) - (intOf v).toNat)
          case atStart =>
            obtain ⟨e1, e2⟩ := heap_two w (.cells #[.bool false, .slice none 0 0] 148) (.cells #[.bool _, .slice none 0 0] 148)
            exact ⟨0, none, 0, rfl, Nat.zero_le _, World.ownsRow_nil _ _ _ _, e1, e2, ((Below.refl _ _).alloc (Nat.le_refl _) _).alloc (by simp) _, by simp⟩
          case round =>
            obtain ⟨j, va, vc, rfl, hj, hown, hc1, hc2, hbw, hsz⟩ := hrel
            have k11 : wr.cell? ⟨w.heap.size + 1, 1, none⟩ = some (.slice va j vc) := by simp [World.cell?, hc2]
            have Hown := Lib.hid hown
            by_cases hjk : j = k + 1
            · subst hjk
              have j10 : wr.cell? ⟨w.heap.size, 0, none⟩ = some (.bool false) := by simp [World.cell?, hc1]
              have j11 : wr.cell? ⟨w.heap.size, 1, none⟩ = some (.slice none 0 0) := by simp [World.cell?, hc1]
              have j20 : wr.frozen? ⟨w.heap.size, 0, none⟩ = false := by simp [World.frozen?, hc1]
              have j21 : wr.frozen? ⟨w.heap.size, 1, none⟩ = false := by simp [World.frozen?, hc1]
              first
                | have k10 : wr.cell? ⟨w.heap.size + 1, 0, none⟩ = some (.bool false) := by simp [World.cell?, hc2]; done
                | have k10 : wr.cell? ⟨w.heap.size + 1, 0, none⟩ = some (.bool true) := by simp [World.cell?, hc2]; done
              clear hown hc1 hc2
              go_wp2_with fail
              first
                | (refine bodyPost_ret (v := .agg #[.bool false, .slice va (k + 1) vc]) ?_ rfl ?_; · (simp [results, Tryz.results105, go_sem, j10, j11]; done))
                | (refine bodyPost_ret (v := .agg #[.bool true, .slice va (k + 1) vc]) ?_ rfl ?_; · (simp [results, Tryz.results105, go_sem, j10, j11]; done))
              exact made_end Hsz.out Htz.out (by omega) Hown.out hbw
            · have g2 := (hbw.cell (p := ⟨b, off + j, none⟩) hbl).trans (Hca.out j (by omega))
              have g3 : j < k + 1 := by omega
              have g4 : j < n := by omega
              have Hc1 := Lib.hid hc1; have Hc2 := Lib.hid hc2
              clear hown hc1 hc2 hjk
              go_wp2_with fail
              refine wp_region_eager 7 [(0, true), (1, true), (2, true), (3, true), (4, true), (5, true), (6, false)] (by kernel_rfl) (by kernel_rfl) ?_
              iterate 6
                refine wpOrd_yield (v := ?_) rfl (fun _ _ _ h => h) (by rfl) ?_ ?_
                rotate_left
                · intro x hx
                  have q1 := (hx.cell (p := ⟨w.heap.size + 1, 1, none⟩) (by show w.heap.size + 1 < wr.heap.size; omega)).trans k11
                  have q2 := (hx.cell (p := ⟨b, off + j, none⟩) (by show b < wr.heap.size; have := hbw.size; omega)).trans g2
                  go_simp
                  with_reducible rfl
                try simp only [Act.put, List.setIfInBounds_toArray, List.set_cons_zero, List.set_cons_succ]
              refine wpOrd_step rfl rfl (fun K hK => ?_)
              go_simp
              refine hK _ _ ((Below.refl _ _).alloc (Nat.le_refl _) _) ?_
              clear hK K
              try simp only [Act.put, List.setIfInBounds_toArray, List.set_cons_zero, List.set_cons_succ]
              refine wpOrd_nil rfl ?_
              refine wpList_append_ints rfl (.tmp 34) (.tmp 39) 146 rfl Tryz.underlying146 (w.heap.size + 2) _ _ (zs.take j) rfl (Hown.out.alloc _) _ _ 1 1 [_] rfl (SL.one wr.drew _ _) (by simp) (by omega) (by simp; omega) ?_
              intro v' w1 hown1 hgrow
              rw [take_snoc_getD (by have := Hl.out; omega)] at hown1
              obtain ⟨va', vc', rfl⟩ := owns_slice hown1
              have hgrow' : (wr.alloc (.cells #[.int .i64 (zs[j]?.getD 0)] 3)).grownBy w1 (Value.slice va j vc).ownBlock := grown_undrew hgrow
              have e1 := (grown_old (base := w.heap.size + 2) Hown.out hgrow' (b := w.heap.size) (by omega) hsz).trans Hc1.out
              have e2 := (grown_old (base := w.heap.size + 2) Hown.out hgrow' (b := w.heap.size + 1) (by omega) hsz).trans Hc2.out
              have e3 := grown_below hbw Hown.out hgrow' (by omega) hsz
              have e4 := hgrow'.size
              have f11 : w1.cell? ⟨w.heap.size + 1, 1, none⟩ = some (.slice va j vc) := by simp [World.cell?, e2]
              have f12 : w1.frozen? ⟨w.heap.size + 1, 1, none⟩ = false := by simp [World.frozen?, e2]
              have He1 := Lib.hid e1; have He2 := Lib.hid e2; have Hown1 := Lib.hid hown1; clear e1 e2 hown1 hgrow hgrow'
              go_wp2
              go_roundw
              case rel =>
                refine ⟨j + 1, va', vc', by go_num, by omega, ?_, obj_other He1.out _ (by simp) _, ?_, e3.setCell (by simp) _, ?_⟩
                · have := ownsRow_setCell_below Hown1.out (a := ⟨w.heap.size + 1, 1, none⟩) (by simp) (.slice va' (j + 1) vc')
                  simpa using this
                · have := obj_setCell He2.out 1 (.slice va' (j + 1) vc')
                  simpa using this
                · simp at e4 ⊢; omega
              case measure => simp [intOf]; omega
theorem made_any (s : Bool) (zs : List Int) (z : Int) (a : Option Addr) (n c : Nat) (w : World) (h : SL w.heap.size w a n c zs) (hd : Dig zs) (hn : n ≤ 1000000) (hm : (digs (val zs).toNat).length ≤ 600) (hz : z = if s then -val zs else val zs) :
    Calls Tryz.prog 105 #[.bool s, .slice a n c] w (RetL1 w z) :=
  (made_own s zs z a n c w h hd hn hm hz).mono fun _ _ ⟨s, a, n, c, e, h1, h2, h3, _⟩ => ⟨s, a, n, c, e, h1, h2, h3⟩


end Go.Proofs.YtpicmhbjiaegpaaGreatDoor

namespace Go.Proofs.YtpicmhbjiaegpaaGreatDoor
open Go.RowKit

theorem ref_two (w : World) (x y : Value) (t : TypeId) : (w.alloc (.cells #[x, y] t)).cell? ⟨w.heap.size, 0, none⟩ = some x ∧ (w.alloc (.cells #[x, y] t)).cell? ⟨w.heap.size, 1, none⟩ = some y := by
  have h := heap_alloc_new w (.cells #[x, y] t)
  exact ⟨(obj_cell h 0).trans rfl, (obj_cell h 1).trans rfl⟩

theorem refL1_mk {w w3 : World} {s : Bool} {a : Option Addr} {n c B : Nat} {z : Int} (hlg : LG w3.heap.size w3 s a n c z) (hb : Below w.heap.size w w3) (hf : Fresh B a n) (blk : Nat) (hblk : blk < B) (hw : w.heap.size ≤ blk) (u v : Value) :
    RetL1 w z (.returned (.agg #[.bool s, .slice a n c])) ((w3.setCell ⟨blk, 0, none⟩ u).setCell ⟨blk, 1, none⟩ v) := by
  have hne : ∀ b off, a = some ⟨b, off, none⟩ → 0 < n → b ≠ blk := fun b off e h0 => by have := hf b off e h0; omega
  refine ⟨s, a, n, c, rfl, ?_, (hb.setCell hw _).setCell hw _, hf.mono (by omega)⟩
  have := (hlg.setCell ⟨blk, 0, none⟩ u hne).setCell ⟨blk, 1, none⟩ v hne
  simpa using this

theorem cells_at {w : World} {b : Nat} {x y : Value} {t : TypeId} (h : w.heap[b]? = some (.cells #[x, y] t (0, 0))) :
    w.cell? ⟨b, 0, none⟩ = some x ∧ w.cell? ⟨b, 1, none⟩ = some y ∧ w.frozen? ⟨b, 0, none⟩ = false ∧ w.frozen? ⟨b, 1, none⟩ = false := by
  refine ⟨?_, ?_, ?_, ?_⟩ <;> simp [World.cell?, World.frozen?, h]

/-- what holds ahead of each round of the reference's Of -/
def ROfRel (n : Nat) (w : World) (q d : Value) (wr : World) : Prop :=
  ∃ (k : Nat) (va : Option Addr) (vc : Nat) (zs : List Int), q = .int .i64 (k : Int) ∧ d = .slice va zs.length vc ∧ (k : Int) ≤ 9223372036854775807 ∧ digs n = zs ++ digs k ∧
    wr.ownsRow (w.heap.size + 1) 3 1 (.slice va zs.length vc) zs.length (zs.map (Value.int .i64)) ∧
    wr.heap[w.heap.size]? = some (.cells #[.bool false, .slice none 0 0] 148 (0, 0)) ∧ Below w.heap.size w wr ∧ w.heap.size + 1 ≤ wr.heap.size

set_option maxRecDepth 100000 in
set_option maxHeartbeats 800000 in
theorem refOf_any (n : Nat) (w : World) (hn : (n : Int) ≤ 9223372036854775807) :
    Calls Tryz.prog 91 #[.int .i64 (n : Int)] w (RetL1 w n) := by
  have hlen := length_digs_int n (by omega) (by omega)
  rw [Int.natAbs_natCast] at hlen
  have Hlen := Lib.hid hlen; clear hlen
  have hneg : ¬ (n : Int) < 0 := by omega
  go_enter Tryz.func91, Tryz.ntmps91
  go_wp2_with fail
  go_loopw [0, 3] (fun q d wr => ROfRel n w q d wr) (fun q _ _ => (intOf q).toNat)
  case atStart => exact ⟨n, none, 0, [], rfl, rfl, hn, by simp, World.ownsRow_nil _ _ _ _, heap_alloc_new _ _, (Below.refl _ _).alloc (Nat.le_refl _) _, by simp⟩
  case round =>
    obtain ⟨k, va, vc, zs, rfl, rfl, hk2, hd, hown, hc1, hbw, hsz⟩ := hrel
    have Hd := Lib.hid hd; have Hown := Lib.hid hown; have Hc1 := Lib.hid hc1; clear hd hown hc1
    by_cases hk0 : k = 0
    · subst hk0
      obtain ⟨j10, j11, j20, j21⟩ := cells_at Hc1.out
      have hzs : digs n = zs := by have := Hd.out; simpa [digs_zero] using this
      have hsl := owns_sl Hown.out
      have Hsl := Lib.hid hsl; clear hsl
      go_wp2_with fail
      refine (made_any false zs n _ _ _ _ Hsl.out (by rw [← hzs]; exact dig_digs n) (by rw [← hzs]; have := Hlen.out; omega) (by rw [← hzs, val_digs, Int.toNat_natCast]; have := Hlen.out; omega) (by rw [← hzs]; simp [val_digs])).mono ?_
      rintro e w1 ⟨s, a, m, c, rfl, hlg, hb1, hf⟩
      have c10 := (hb1.cell (p := ⟨w.heap.size, 0, none⟩) (by show w.heap.size < wr.heap.size; omega)).trans j10
      have c11 := (hb1.cell (p := ⟨w.heap.size, 1, none⟩) (by show w.heap.size < wr.heap.size; omega)).trans j11
      have c20 := (hb1.frozen (p := ⟨w.heap.size, 0, none⟩) (by show w.heap.size < wr.heap.size; omega)).trans j20
      have c21 := (hb1.frozen (p := ⟨w.heap.size, 1, none⟩) (by show w.heap.size < wr.heap.size; omega)).trans j21
      have Hlg := Lib.hid hlg; have Hf := Lib.hid hf; clear hlg hf hzs
      go_wp2_with fail
      refine bodyPost_ret (v := .agg #[.bool s, .slice a m c]) ?_ rfl ?_
      · simp [results, Tryz.results91, go_sem, c10, c11]
      · exact refL1_mk Hlg.out (hbw.trans (hb1.mono hbw.size)) Hf.out w.heap.size (by omega) (Nat.le_refl _) _ _
    · have hb : ((k : Int) != 0) = true := by simpa using hk0
      have hkp : 0 < k := by omega
      have hd3 := Hd.out
      have hlz : zs.length ≤ 3 := by have := Hlen.out; rw [hd3, List.length_append] at this; omega
      have hx : digs k = [(k : Int) % 1000000000] ++ digs ((k : Int) / 1000000000).toNat := by
        rw [digs_pos hkp, show ((k % 1000000000 : Nat) : Int) = (k : Int) % 1000000000 by omega, show k / 1000000000 = ((k : Int) / 1000000000).toNat by omega]; rfl
      have Hx := Lib.hid hx; clear hx
      have hpos : 0 < (k : Int) := by omega
      have hm : ((k : Int) / 1000000000).toNat < k := by omega
      have hq : 0 ≤ (k : Int) / 1000000000 := by omega
      have hq1 : (k : Int) / 1000000000 ≤ 9223372036854775807 := by omega
      have Hm := Lib.hid hm; clear hm
      clear hd3 hk0 hkp
      generalize hK : (k : Int) = K at *
      have HK := Lib.hid hK; clear hK
      go_wp2_with (refine wpList_append_ints rfl (.tmp 16) (.tmp 18) 146 rfl Tryz.underlying146 (w.heap.size + 1) _ _ zs rfl (Hown.out.alloc _) _ _ 1 1 [_] rfl (SL.one wr _ _) (by simp) (by omega) (by simp; omega) ?_)
      intro v' w1 hown1 hgrow
      obtain ⟨va', vc', rfl⟩ := owns_slice hown1
      have e1 := (grown_old (base := w.heap.size + 1) Hown.out hgrow (b := w.heap.size) (by omega) hsz).trans Hc1.out
      have e3 := grown_below hbw Hown.out hgrow (by omega) hsz
      have e4 := hgrow.size
      have He1 := Lib.hid e1; have Hown1 := Lib.hid hown1; clear e1 hown1 hgrow
      go_wp2
      go_roundw
      case rel =>
        refine ⟨(K / 1000000000).toNat, va', vc', zs ++ [K % 1000000000], by rw [Int.toNat_of_nonneg hq], by simp, by rw [Int.toNat_of_nonneg hq]; exact hq1, by rw [Hd.out, Hx.out, List.append_assoc], ?_, He1.out, e3, ?_⟩
        · simpa using Hown1.out
        · simp at e4 ⊢; omega
      case measure =>
        have := Hm.out
        simp [intOf]; omega

set_option maxHeartbeats 400000 in
theorem refAt_any (zs : List Int) (a : Option Addr) (n c i : Nat) (w : World) (h : SL w.heap.size w a n c zs) (hn : n ≤ 1000000) (hi : i ≤ 1000000) :
    Calls Tryz.prog 109 #[.slice a n c, .int .i64 (i : Int)] w (fun e w' => e = .returned (.int .i64 (zs.getD i 0)) ∧ w = w') := by
  have hl := h.len
  by_cases hin : i < n
  · obtain ⟨b, off, rfl, hb, ca⟩ := h.at (by omega)
    have g1 := ca i hin
    clear ca h hl
    go_enter Tryz.func109, Tryz.ntmps109
    go_wp2
    go_ret
    exact ⟨rfl, rfl⟩
  · have e : zs.getD i 0 = 0 := by rw [List.getD_eq_getElem?_getD, List.getElem?_eq_none (by omega)]; rfl
    rw [e]
    clear e h hl
    go_enter Tryz.func109, Tryz.ntmps109
    go_wp2
    go_ret
    exact ⟨rfl, rfl⟩
theorem refAt_z (zs : List Int) (a : Option Addr) (n c i : Nat) (z : Int) (w : World) (h : SL w.heap.size w a n c zs) (hn : n ≤ 1000000) (hi : i ≤ 1000000) (hz : zs.getD i 0 = z) :
    Calls Tryz.prog 109 #[.slice a n c, .int .i64 (i : Int)] w (fun e w' => e = .returned (.int .i64 z) ∧ w = w') := by
  subst hz; exact refAt_any zs a n c i w h hn hi

end Go.Proofs.YtpicmhbjiaegpaaGreatDoor

namespace Go.Proofs.YtpicmhbjiaegpaaGreatDoor
open Go.RowKit

set_option maxHeartbeats 400000 in
theorem less_len (a b : Option Addr) (n m c d : Nat) (w : World) (hne : n ≠ m) :
    Calls Tryz.prog 124 #[.slice a n c, .slice b m d] w (RetQ w (.bool (decide ((n : Int) - m < 0)))) := by
  have h1 : ((n : Int) != m) = true := by simp; omega
  clear hne
  go_enter Tryz.func124, Tryz.ntmps124
  go_wp2
  go_ret
  refine ⟨?_, 0, rfl⟩
  show Ending.returned (.bool (decide (n < m))) = _
  have h2 : decide (n < m) = decide ((n : Int) - m < 0) := by rw [decide_eq_decide]; omega
  rw [h2]

set_option maxHeartbeats 400000 in
theorem less_same (xs ys : List Int) (a b : Option Addr) (n c d : Nat) (w : World) (ha : SL w.heap.size w a n c xs) (hb : SL w.heap.size w b n d ys) (hn : n ≤ 1000000000) (hx : Dig xs) (hy : Dig ys) :
    Calls Tryz.prog 124 #[.slice a n c, .slice b n d] w (RetQ w (.bool (decide (cmpTo xs ys n < 0)))) := by
  have Ha := Lib.hid ha; have Hb := Lib.hid hb; clear ha hb
  have Hx := Lib.hid hx; have Hy := Lib.hid hy; clear hx hy
  generalize hR : decide (cmpTo xs ys n < 0) = R
  have HR := Lib.hid hR; clear hR
  go_enter Tryz.func124, Tryz.ntmps124
  go_wp2
  go_loopw [5] (fun v wr => ∃ k j : Nat, k ≤ n ∧ v = .int .i64 ((k : Int) - 1) ∧ cmpTo xs ys n = cmpTo xs ys k ∧ wr = w.drewN j) (fun v _ => (intOf v + 1).toNat)
  case atStart => exact ⟨n, 0, Nat.le_refl _, by go_num, rfl, rfl⟩
  case round =>
    obtain ⟨k, j, hk, rfl, ht, rfl⟩ := hrel
    have Ht := Lib.hid ht; clear ht
    by_cases h0 : k = 0
    · subst h0
      have hRf : R = false := by rw [← HR.out, Ht.out]; rfl
      subst hRf
      go_wp2
      go_ret
      exact ⟨rfl, _, rfl⟩
    · obtain ⟨k, rfl⟩ : ∃ i, k = i + 1 := ⟨k - 1, by omega⟩
      obtain ⟨_, _, ga⟩ := Ha.out
      obtain ⟨ba, oa, rfl, _, ca⟩ := ga (by omega)
      obtain ⟨_, _, gb⟩ := Hb.out
      obtain ⟨bb, ob, rfl, _, cb⟩ := gb (by omega)
      have g1 := ca k (by omega)
      have g3 := cb k (by omega)
      have g2 : (((k + 1 : Nat) : Int) - 1) = (k : Int) := by omega
      rw [g2]
      have g4 : (k : Int) < n := by omega
      have hxk := Hx.out.all k
      have hyk := Hy.out.all k
      clear g2 ca cb ga gb h0
      generalize hxx : xs.getD k 0 = x at *
      generalize hyy : ys.getD k 0 = y at *
      have Hxx := Lib.hid hxx; have Hyy := Lib.hid hyy; clear hxx hyy
      go_wp2
      go_quiet (fail)
      go_wp2
      · go_quiet (fail)
        go_wp2
        go_ret
        have hne : (x != y) = true := by assumption
        refine ⟨?_, by simp only [World.drewN_drewN]; exact ⟨_, rfl⟩⟩
        show Ending.returned (.bool (decide (x < y))) = _
        rw [← HR.out, Ht.out]
        simp only [cmpTo, Hxx.out, Hyy.out]
        rw [if_neg (by simpa using hne)]
        congr 2
        rw [decide_eq_decide]; omega
      · have hne : (x != y) = false := by assumption
        have hne' : x = y := by simpa using hne
        have Hne := Lib.hid hne'; clear hne' hne
        go_roundw
        case rel =>
          refine ⟨k, _, by omega, rfl, ?_, rfl⟩
          rw [Ht.out]
          simp only [cmpTo, Hxx.out, Hyy.out]
          rw [if_pos Hne.out]
        case measure => simp [intOf]

theorem less_any (x y : Nat) (a b : Option Addr) (n m c d : Nat) (w : World) (ha : SL w.heap.size w a n c (digs x)) (hb : SL w.heap.size w b m d (digs y)) (hn : n ≤ 1000000000) :
    Calls Tryz.prog 124 #[.slice a n c, .slice b m d] w (RetQ w (.bool (decide (x < y)))) := by
  have e : decide (x < y) = decide (cmpS (digs x) (digs y) < 0) := by rw [decide_eq_decide]; exact cmpS_sign.2.symm
  rw [e]
  by_cases h : n = m
  · subst h
    have := less_same _ _ a b n c d w ha hb hn (dig_digs x) (dig_digs y)
    unfold cmpS
    rw [if_pos (by rw [← ha.len, ← hb.len]), ← ha.len]
    exact this
  · have := less_len a b n m c d w h
    unfold cmpS
    rw [if_neg (by rw [← ha.len, ← hb.len]; exact h), ← ha.len, ← hb.len]
    exact this

set_option maxRecDepth 100000 in
set_option maxHeartbeats 400000 in
theorem right_ok (s : Bool) (z : Int) (a : Option Addr) (n c : Nat) (w : World) (h : LG w.heap.size w s a n c z) :
    Calls Tryz.prog 110 #[.agg #[.bool s, .slice a n c]] w (RetB w (.bool true)) := by
  have hsl := h.2.1
  have hs := h.1
  have hn := h.2.2
  have hd := dig_digs z.natAbs
  have ht := top_digs z.natAbs
  have hl := hsl.len
  generalize hzs : digs z.natAbs = zs at *
  have Hs := Lib.hid hs; have Hd := Lib.hid hd; have H := Lib.hid hsl; have Hl := Lib.hid hl; have Ht := Lib.hid ht; have Hzs := Lib.hid hzs; clear hs hd hsl h hl ht hzs
  have kk := ref_two w (.bool s) (.slice a n c) 148
  by_cases h0 : n = 0
  · have hsf : s = false := by
      rw [Hs.out]
      have := digs_len_zero.1 (by rw [Hzs.out, ← Hl.out]; exact h0)
      simp; omega
    subst h0 hsf
    go_enter Tryz.func110, Tryz.ntmps110
    go_wp2
    go_ret
    exact ⟨rfl, (Below.refl _ _).alloc (Nat.le_refl _) _⟩
  · obtain ⟨b, off, rfl, hb, ca⟩ := H.out.at (by omega)
    have hn0 : 0 < n := by omega
    have htop : zs.getD (n - 1) 0 ≠ 0 := by have := Ht.out; have e := Hl.out; rw [e] at hn0 ⊢; exact this hn0
    have g0 : ∀ j, (w.alloc (.cells #[.bool s, .slice (some ⟨b, off, none⟩) n c] 148)).cell? ⟨b, off + j, none⟩ = w.cell? ⟨b, off + j, none⟩ := fun j => ((Below.refl w.heap.size w).alloc (Nat.le_refl _) _).cell (p := ⟨b, off + j, none⟩) hb
    have g1 := (g0 (n - 1)).trans (ca (n - 1) (by omega))
    have g2 : ((n : Int) - 1).toNat = n - 1 := by omega
    have g3 : (zs.getD (n - 1) 0 == 0) = false := by simpa using htop
    have g6 : (zs.getD (n - 1) 0 != 0) = true := by simpa using htop
    have g4 : ((n : Int) == 0) = false := by simp; omega
    have g5 : n - 1 < n := by omega
    have Hca := Lib.hid ca; have G0 := Lib.hid g0
    clear ca h0 htop g0
    generalize hxx : zs.getD (n - 1) 0 = x at *
    have Hxx := Lib.hid hxx; clear hxx
    have G1 := Lib.hid g1; clear g1
    go_enter Tryz.func110, Tryz.ntmps110
    go_wp2
    go_loop [3] (fun v => ∃ k : Nat, k ≤ n ∧ v = .int .i64 k) (fun v => n - (intOf v).toNat)
    case atStart => exact ⟨0, Nat.zero_le _, rfl⟩
    case round =>
      obtain ⟨k, hk, rfl⟩ := hrel
      by_cases hkn : k < n
      · have g1 := (G0.out k).trans (Hca.out k (by omega))
        have g2 := Hd.out.all k
        generalize zs.getD k 0 = y at *
        go_wp2
        go_round
        case rel => exact ⟨k + 1, by omega, by go_num⟩
        case measure => simp [intOf]; omega
      · have g1 := G1.out
        go_wp2
        go_ret
        exact ⟨rfl, (Below.refl _ _).alloc (Nat.le_refl _) _⟩

/-- the slot lies below N, or in none of the blocks below M -/
def Out (N M : Nat) (a : Option Addr) (n : Nat) : Prop := ∀ b off, a = some ⟨b, off, none⟩ → 0 < n → b < N ∨ M ≤ b

theorem Out.ofFresh {N M : Nat} {a : Option Addr} {n : Nat} (h : Fresh M a n) : Out N M a n := fun b off e h0 => Or.inr (h b off e h0)
theorem Out.ofLG {N M : Nat} {w : World} {s : Bool} {a : Option Addr} {n c : Nat} {z : Int} (h : LG N w s a n c z) : Out N M a n := fun b off e h0 => by
  obtain ⟨b', off', e', hb, _⟩ := h.2.1.at h0
  rw [e] at e'; cases e'; exact Or.inl hb
theorem Out.mono {N M N' M' : Nat} {a : Option Addr} {n : Nat} (h : Out N M a n) (hN : N ≤ N') (hM : M' ≤ M) : Out N' M' a n := fun b off e h0 => by
  rcases h b off e h0 with h | h
  · exact Or.inl (by omega)
  · exact Or.inr (by omega)

/-- a call that gives back a long integer, in memory of its own or in that of one below N -/
def RetA1 (N : Nat) (w : World) (z : Int) (e : Ending) (w' : World) : Prop :=
  ∃ s a n c, e = .returned (.agg #[.bool s, .slice a n c]) ∧ LG w'.heap.size w' s a n c z ∧ Below w.heap.size w w' ∧ Out N w.heap.size a n
def RetA (N : Nat) (w : World) (z : Int) (e : Ending) (w' : World) : Prop :=
  ∃ s a n c, e = .returned (.tuple #[.agg #[.bool s, .slice a n c], .int .i64 0]) ∧ LG w'.heap.size w' s a n c z ∧ Below w.heap.size w w' ∧ Out N w.heap.size a n

/-- the result is stored into a block of the call's own -/
theorem lg_stored {w3 : World} {s : Bool} {a : Option Addr} {n c N M blk : Nat} {z : Int} (hlg : LG w3.heap.size w3 s a n c z) (ho : Out N M a n) (h1 : N ≤ blk) (h2 : blk < M) (u v : Value) :
    LG ((w3.setCell ⟨blk, 0, none⟩ u).setCell ⟨blk, 1, none⟩ v).heap.size ((w3.setCell ⟨blk, 0, none⟩ u).setCell ⟨blk, 1, none⟩ v) s a n c z := by
  have hne : ∀ b off, a = some ⟨b, off, none⟩ → 0 < n → b ≠ blk := fun b off e h0 => by rcases ho b off e h0 with h | h <;> omega
  have := (hlg.setCell ⟨blk, 0, none⟩ u hne).setCell ⟨blk, 1, none⟩ v hne
  simpa using this

end Go.Proofs.YtpicmhbjiaegpaaGreatDoor

namespace Go.Proofs.YtpicmhbjiaegpaaGreatDoor
open Go.RowKit

theorem two_boxes {w : World} {x1 y1 x2 y2 : Value} {t : TypeId} {w2 : World} (hb : Below ((w.alloc (.cells #[x1, y1] t)).alloc (.cells #[x2, y2] t)).heap.size ((w.alloc (.cells #[x1, y1] t)).alloc (.cells #[x2, y2] t)) w2) :
    w2.cell? ⟨w.heap.size, 0, none⟩ = some x1 ∧ w2.cell? ⟨w.heap.size, 1, none⟩ = some y1 ∧ w2.cell? ⟨w.heap.size + 1, 0, none⟩ = some x2 ∧ w2.cell? ⟨w.heap.size + 1, 1, none⟩ = some y2 ∧ w.heap.size + 2 ≤ w2.heap.size ∧ Below w.heap.size w w2 := by
  obtain ⟨e1, e2⟩ := heap_two w (.cells #[x1, y1] t) (.cells #[x2, y2] t)
  obtain ⟨a1, a2, _, _⟩ := cells_at e1
  obtain ⟨b1, b2, _, _⟩ := cells_at e2
  have hs := hb.size
  simp at hs
  refine ⟨(hb.cell (p := ⟨w.heap.size, 0, none⟩) (by simp; omega)).trans a1, (hb.cell (p := ⟨w.heap.size, 1, none⟩) (by simp; omega)).trans a2, (hb.cell (p := ⟨w.heap.size + 1, 0, none⟩) (by simp)).trans b1, (hb.cell (p := ⟨w.heap.size + 1, 1, none⟩) (by simp)).trans b2, by omega, below_alloc (below_alloc hb)⟩

set_option maxHeartbeats 400000 in
theorem same_sign (s t : Bool) (a b : Option Addr) (n m c d : Nat) (w : World) (hne : s ≠ t ∨ n ≠ m) :
    Calls Tryz.prog 125 #[.agg #[.bool s, .slice a n c], .agg #[.bool t, .slice b m d]] w (RetB w (.bool false)) := by
  have hb := below_two (w := w) (.cells #[.bool s, .slice a n c] 148) (.cells #[.bool t, .slice b m d] 148)
  have Hb := Lib.hid hb; clear hb
  by_cases hst : s = t
  · subst hst
    have hnm : n ≠ m := hne.resolve_left (fun h => h rfl)
    have h1 : ((n : Int) != m) = true := by simp; omega
    clear hne hnm
    cases s
    all_goals
      go_enter Tryz.func125, Tryz.ntmps125
      go_wp2
      go_ret
      exact ⟨rfl, Hb.out⟩
  · clear hne
    cases s
    all_goals cases t
    all_goals first
      | exact absurd rfl hst
      | (clear hst
         go_enter Tryz.func125, Tryz.ntmps125
         go_wp2
         go_ret
         exact ⟨rfl, Hb.out⟩)

set_option maxRecDepth 100000 in
set_option maxHeartbeats 800000 in
theorem same_len (s : Bool) (xs ys : List Int) (a b : Option Addr) (n c d : Nat) (w : World) (ha : SL w.heap.size w a n c xs) (hb : SL w.heap.size w b n d ys) (hn : n ≤ 1000) (hx : Dig xs) (hy : Dig ys) :
    Calls Tryz.prog 125 #[.agg #[.bool s, .slice a n c], .agg #[.bool s, .slice b n d]] w (RetB w (.bool (decide (xs = ys)))) := by
  generalize hR : decide (xs = ys) = R
  have HR := Lib.hid hR; clear hR
  have Ha := Lib.hid ha; have Hb := Lib.hid hb; clear ha hb
  have Hx := Lib.hid hx; have Hy := Lib.hid hy; clear hx hy
  go_enter Tryz.func125, Tryz.ntmps125
  go_wp2
  have hq := two_boxes (Below.refl _ _) (w := w) (x1 := .bool s) (y1 := .slice a n c) (x2 := .bool s) (y2 := .slice b n d) (t := 148)
  obtain ⟨q1, q2, q3, q4, q5, q6⟩ := hq
  have Hb2 := Lib.hid q6
  generalize hW : (w.alloc (.cells #[.bool s, .slice a n c] 148)).alloc (.cells #[.bool s, .slice b n d] 148) = W0 at *
  clear hW q6
  go_loopw [5] (fun v wr => ∃ k j : Nat, k ≤ n ∧ v = .int .i64 (k : Int) ∧ (∀ i, i < k → xs.getD i 0 = ys.getD i 0) ∧ wr = W0.drewN j) (fun v _ => n - (intOf v).toNat)
  case atStart => exact ⟨0, 0, Nat.zero_le _, rfl, fun i hi => absurd hi (by omega), rfl⟩
  case round =>
    obtain ⟨k, j, hk, rfl, ht, rfl⟩ := hrel
    have Ht := Lib.hid ht; clear ht
    by_cases h0 : k = n
    · subst h0
      have hRt : R = true := by
        rw [← HR.out, decide_eq_true_eq]
        refine List.ext_getElem (by rw [← Ha.out.len, ← Hb.out.len]) fun i h1 h2 => ?_
        have := Ht.out i (by rw [Ha.out.len]; exact h1)
        simpa [List.getD_eq_getElem?_getD, List.getElem?_eq_getElem h1, List.getElem?_eq_getElem h2] using this
      subst hRt
      go_wp2
      go_ret
      exact ⟨rfl, below_drewN Hb2.out _⟩
    · have hkn : k < n := by omega
      obtain ⟨_, _, ga⟩ := Ha.out
      obtain ⟨ba, oa, rfl, hba, ca⟩ := ga (by omega)
      obtain ⟨_, _, gb⟩ := Hb.out
      obtain ⟨bb, ob, rfl, hbb, cb⟩ := gb (by omega)
      have g1 := (Hb2.out.cell (p := ⟨ba, oa + k, none⟩) hba).trans (ca k hkn)
      have g3 := (Hb2.out.cell (p := ⟨bb, ob + k, none⟩) hbb).trans (cb k hkn)
      have hxk := Hx.out.all k
      have hyk := Hy.out.all k
      clear ca cb ga gb h0
      generalize hxx : xs.getD k 0 = x at *
      generalize hyy : ys.getD k 0 = y at *
      have Hxx := Lib.hid hxx; have Hyy := Lib.hid hyy; clear hxx hyy
      go_wp2
      go_quiet (fail)
      go_wp2
      · go_ret
        have hne : (x != y) = true := by assumption
        refine ⟨?_, by simp only [World.drewN_drewN]; exact below_drewN Hb2.out _⟩
        show Ending.returned (.bool false) = _
        rw [← HR.out, decide_eq_false]
        intro e
        have := Hxx.out
        rw [e, Hyy.out] at this
        simp [this] at hne
      · have hne : (x != y) = false := by assumption
        have hne' : x = y := by simpa using hne
        have Hne := Lib.hid hne'; clear hne' hne
        go_roundw
        case rel =>
          refine ⟨k + 1, _, by omega, by go_num, fun i hi => ?_, rfl⟩
          by_cases e : i = k
          · subst e; rw [Hxx.out, Hyy.out, Hne.out]
          · exact Ht.out i (by omega)
        case measure => simp [intOf]; omega

theorem digs_inj {m n : Nat} : digs m = digs n ↔ m = n := by
  constructor
  · intro h
    have := congrArg val h
    rw [val_digs, val_digs] at this
    omega
  · rintro rfl; rfl

theorem same_any (s t : Bool) (x y : Int) (a b : Option Addr) (n m c d : Nat) (w : World) (ha : LG w.heap.size w s a n c x) (hb : LG w.heap.size w t b m d y) :
    Calls Tryz.prog 125 #[.agg #[.bool s, .slice a n c], .agg #[.bool t, .slice b m d]] w (RetB w (.bool (decide (x = y)))) := by
  by_cases h : s ≠ t ∨ n ≠ m
  · have e : decide (x = y) = false := by
      rw [decide_eq_false]
      rintro rfl
      rcases h with h | h
      · exact h (by rw [ha.1, hb.1])
      · exact h (by rw [ha.2.1.len, hb.2.1.len])
    rw [e]
    exact same_sign s t a b n m c d w h
  · have h1 : s = t := Decidable.byContradiction fun hc => h (Or.inl hc)
    have h2 : n = m := Decidable.byContradiction fun hc => h (Or.inr hc)
    subst h1 h2
    have e : decide (x = y) = decide (digs x.natAbs = digs y.natAbs) := by
      rw [decide_eq_decide, digs_inj]
      have e1 := ha.1
      have e2 := hb.1
      rw [e1, decide_eq_decide] at e2
      omega
    rw [e]
    exact same_len s _ _ a b n c d w ha.2.1 hb.2.1 (by have := ha.2.2; omega) (dig_digs _) (dig_digs _)

set_option maxRecDepth 100000 in
set_option maxHeartbeats 800000 in
theorem order_any (s t : Bool) (x y : Int) (a b : Option Addr) (n m c d : Nat) (w : World) (ha : LG w.heap.size w s a n c x) (hb : LG w.heap.size w t b m d y) :
    Calls Tryz.prog 111 #[.agg #[.bool s, .slice a n c], .agg #[.bool t, .slice b m d]] w (RetB w (.int .i64 (cmpZ x y))) := by
  generalize hR : cmpZ x y = R
  have HR := Lib.hid hR; clear hR
  have hbb := below_two (w := w) (.cells #[.bool s, .slice a n c] 148) (.cells #[.bool t, .slice b m d] 148)
  have Ha := Lib.hid ha; have Hb := Lib.hid hb; have Hbb := Lib.hid hbb; clear ha hb hbb
  have hs := Ha.out.1
  have ht := Hb.out.1
  have Hs := Lib.hid hs; have Ht := Lib.hid ht; clear hs ht
  go_enter Tryz.func111, Tryz.ntmps111
  go_wp2_with fail
  refine (same_any s t x y a b n m c d _ (Ha.out.go Hbb.out) (Hb.out.go Hbb.out)).mono ?_
  rintro e w2 ⟨rfl, hb2⟩
  obtain ⟨q1, q2, q3, q4, q5, q6⟩ := two_boxes hb2
  clear hb2
  have hlt1 : w.heap.size < w2.heap.size := by omega
  have hlt2 : w.heap.size + 1 < w2.heap.size := by omega
  by_cases hxy : x = y
  · have hR0 : R = 0 := by rw [← HR.out]; unfold cmpZ; subst hxy; simp
    have hd : decide (x = y) = true := by simpa using hxy
    subst hR0
    clear hxy
    rw [hd]; clear hd
    go_wp2
    go_ret
    exact ⟨rfl, q6⟩
  · have hd : decide (x = y) = false := by simpa using hxy
    rw [hd]; clear hd
    by_cases hst : s = t
    · subst hst
      have hR1 : R = if (decide (x.natAbs < y.natAbs) != s) = true then -1 else 1 := by
        rw [← HR.out, Hs.out]
        have h1 := Hs.out
        rw [Ht.out, decide_eq_decide] at h1
        unfold cmpZ
        by_cases hn : x < 0
        · have h2 : y < 0 := h1.2 hn
          simp [hn]
          by_cases h3 : x < y
          · rw [if_pos h3, if_pos (by omega)]
          · rw [if_neg h3, if_pos (by omega), if_neg (by omega)]
        · have h2 : ¬ y < 0 := fun h => hn (h1.1 h)
          simp [hn]
          by_cases h3 : x < y
          · rw [if_pos h3, if_pos (by omega)]
          · rw [if_neg h3, if_pos (by omega), if_neg (by omega)]
      have HR1 := Lib.hid hR1; clear hR1 hxy
      have hl1 := (Ha.out.go q6).2.1
      have hl2 := (Hb.out.go q6).2.1
      have Hl1 := Lib.hid hl1; have Hl2 := Lib.hid hl2; clear hl1 hl2
      go_wp2_with fail
      refine wp_region_eager 8 [(0, true), (1, true), (2, true), (3, true), (5, true), (6, true), (4, false), (7, true)] (by kernel_rfl) (by kernel_rfl) ?_
      iterate 6
        refine wpOrd_yield (v := ?_) rfl (fun _ _ _ h => h) (by rfl) ?_ ?_
        rotate_left
        · intro x hx
          have z1 := (hx.cell (p := ⟨w.heap.size, 0, none⟩) hlt1).trans q1
          have z2 := (hx.cell (p := ⟨w.heap.size, 1, none⟩) hlt1).trans q2
          have z3 := (hx.cell (p := ⟨w.heap.size + 1, 0, none⟩) hlt2).trans q3
          have z4 := (hx.cell (p := ⟨w.heap.size + 1, 1, none⟩) hlt2).trans q4
          go_simp
          with_reducible rfl
        try simp only [Act.put, List.setIfInBounds_toArray, List.set_cons_zero, List.set_cons_succ]
      refine wpOrd_step rfl rfl (fun K hK => ?_)
      go_simp
      refine (less_any x.natAbs y.natAbs a b n m c d _ (by exact Hl1.out) (by exact Hl2.out) (by have := Ha.out.2.2; omega)).mono ?_
      rintro e w4 ⟨rfl, nk, rfl⟩
      refine hK _ _ (below_drewN (Below.refl _ _) _) ?_
      clear hK K
      try simp only [Act.put, List.setIfInBounds_toArray, List.set_cons_zero, List.set_cons_succ]
      generalize hL : decide (x.natAbs < y.natAbs) = L at *
      have Hl := Lib.hid hL; clear hL
      by_cases hb : (L != s) = true
      · have hR2 : R = -1 := by rw [HR1.out, if_pos hb]
        have HR2 := Lib.hid hR2; clear hR2
        have hb' : (L == s) = false := by simpa [bne] using hb
        refine wpOrd_yield (v := ?_) rfl (fun _ _ _ h => h) (by rfl) ?_ ?_
        rotate_left
        · intro x hx
          go_simp
          with_reducible rfl
        try simp only [Act.put, List.setIfInBounds_toArray, List.set_cons_zero, List.set_cons_succ]
        refine wpOrd_nil rfl ?_
        go_wp2
        go_ret
        exact ⟨by rw [HR2.out]; rfl, below_drewN q6 _⟩
      · have hR2 : R = 1 := by rw [HR1.out, if_neg hb]
        have HR2 := Lib.hid hR2; clear hR2
        have hb : (L != s) = false := by simpa using hb
        have hb' : (L == s) = true := by simpa [bne] using hb
        refine wpOrd_yield (v := ?_) rfl (fun _ _ _ h => h) (by rfl) ?_ ?_
        rotate_left
        · intro x hx
          go_simp
          with_reducible rfl
        try simp only [Act.put, List.setIfInBounds_toArray, List.set_cons_zero, List.set_cons_succ]
        refine wpOrd_nil rfl ?_
        go_wp2
        go_ret
        exact ⟨by rw [HR2.out]; rfl, below_drewN q6 _⟩
    · have hR1 : (s = true ∧ t = false ∧ R = -1) ∨ (s = false ∧ t = true ∧ R = 1) := by
        rw [← HR.out]
        have h1 := Hs.out
        have h2 := Ht.out
        unfold cmpZ
        by_cases hx : x < 0
        · by_cases hy : y < 0
          · rw [decide_eq_true hx] at h1; rw [decide_eq_true hy] at h2; exact absurd (h1.trans h2.symm) hst
          · rw [decide_eq_true hx] at h1; rw [decide_eq_false hy] at h2
            exact Or.inl ⟨h1, h2, if_pos (by omega)⟩
        · by_cases hy : y < 0
          · rw [decide_eq_false hx] at h1; rw [decide_eq_true hy] at h2
            exact Or.inr ⟨h1, h2, by rw [if_neg (by omega), if_pos (by omega)]⟩
          · rw [decide_eq_false hx] at h1; rw [decide_eq_false hy] at h2; exact absurd (h1.trans h2.symm) hst
      clear hst hxy HR
      rcases hR1 with ⟨rfl, rfl, rfl⟩ | ⟨rfl, rfl, rfl⟩
      · go_wp2
        go_ret
        exact ⟨rfl, q6⟩
      · go_wp2
        go_ret
        exact ⟨rfl, q6⟩

end Go.Proofs.YtpicmhbjiaegpaaGreatDoor

namespace Go.Proofs.YtpicmhbjiaegpaaGreatDoor
open Go.RowKit

theorem heap_three (w : World) (o p q : Obj) : (((w.alloc o).alloc p).alloc q).heap[w.heap.size]? = some o ∧ (((w.alloc o).alloc p).alloc q).heap[w.heap.size + 1]? = some p ∧ (((w.alloc o).alloc p).alloc q).heap[w.heap.size + 2]? = some q := by
  obtain ⟨e1, e2⟩ := heap_two w o p
  refine ⟨?_, ?_, ?_⟩
  · rw [Below.heap_alloc _ _ _ (by simp; omega)]; exact e1
  · rw [Below.heap_alloc _ _ _ (by simp)]; exact e2
  · have := heap_alloc_new ((w.alloc o).alloc p) q
    simpa using this

theorem below_three (w : World) (o p q : Obj) : Below w.heap.size w (((w.alloc o).alloc p).alloc q) :=
  (((Below.refl _ _).alloc (Nat.le_refl _) _).alloc (by simp) _).alloc (by simp; omega) _

theorem val_take_next (l : List Int) (k : Nat) : val (l.take (k + 1)) = val (l.take k) + l.getD k 0 * 1000000000 ^ k := by
  by_cases h : k < l.length
  · exact val_take_succ h
  · rw [List.take_of_length_le (by omega), List.take_of_length_le (by omega), List.getD_eq_getElem?_getD, List.getElem?_eq_none (by omega)]; simp

/-- the sum's digits, up to a place -/
def S1 (xs ys zs : List Int) (i : Nat) (cr : Int) : Prop :=
  zs.length = i ∧ Dig zs ∧ val zs + cr * 1000000000 ^ i = val (xs.take i) + val (ys.take i) ∧ 0 ≤ cr ∧ cr ≤ 1

theorem S1.step {xs ys zs : List Int} {i : Nat} {cr : Int} (h : S1 xs ys zs i cr) (hx : Dig xs) (hy : Dig ys) :
    S1 xs ys (zs ++ [(xs.getD i 0 + ys.getD i 0 + cr) % 1000000000]) (i + 1) ((xs.getD i 0 + ys.getD i 0 + cr) / 1000000000) := by
  obtain ⟨h1, h2, h3, h4, h5⟩ := h
  have a := hx.all i
  have b := hy.all i
  refine ⟨by simp [h1], h2.append (Dig.cons (by omega) Dig.nil), ?_, by omega, by omega⟩
  rw [val_append, h1, val_take_next, val_take_next]
  simp only [val]
  generalize xs.getD i 0 = x at *
  generalize ys.getD i 0 = y at *
  have e : (x + y + cr) % 1000000000 + (x + y + cr) / 1000000000 * 1000000000 = x + y + cr := by omega
  have e2 : val zs + 1000000000 ^ i * ((x + y + cr) % 1000000000 + 1000000000 * 0) + (x + y + cr) / 1000000000 * 1000000000 ^ (i + 1) = val zs + ((x + y + cr) % 1000000000 + (x + y + cr) / 1000000000 * 1000000000) * 1000000000 ^ i := by
    rw [Int.pow_succ, Int.add_mul, Int.mul_zero, Int.add_zero, Int.mul_comm (1000000000 ^ i), Int.add_assoc, Int.mul_assoc, Int.mul_comm (1000000000 ^ i) 1000000000]
  rw [e2, e, Int.add_mul, Int.add_mul]
  omega

theorem S1.last {xs ys zs : List Int} {i : Nat} (h : S1 xs ys zs i 0) (hx : xs.length ≤ i) (hy : ys.length ≤ i) : val zs = val xs + val ys := by
  have := h.2.2.1
  rw [List.take_of_length_le hx, List.take_of_length_le hy] at this
  omega

/-- what holds ahead of each round of Sum -/
def SumRel (w : World) (o1 o2 o3 : Obj) (xs ys : List Int) (dv cv iv : Value) (wr : World) : Prop :=
  ∃ (i : Nat) (cr : Int) (va : Option Addr) (vc : Nat) (zs : List Int), dv = .slice va zs.length vc ∧ cv = .int .i64 cr ∧ iv = .int .i64 (i : Int) ∧ S1 xs ys zs i cr ∧
    (i ≤ max xs.length ys.length ∨ (i = max xs.length ys.length + 1 ∧ cr = 0)) ∧ wr.ownsRow (w.heap.size + 3) 3 1 (.slice va zs.length vc) zs.length (zs.map (Value.int .i64)) ∧
    wr.heap[w.heap.size]? = some o1 ∧ wr.heap[w.heap.size + 1]? = some o2 ∧ wr.heap[w.heap.size + 2]? = some o3 ∧ Below w.heap.size w wr ∧ w.heap.size + 3 ≤ wr.heap.size

set_option maxRecDepth 100000 in
set_option maxHeartbeats 1600000 in
theorem sum_any (N : Nat) (s : Bool) (x y : Int) (a b : Option Addr) (n m c d : Nat) (w : World) (ha : LG N w s a n c x) (hb : LG N w s b m d y) (hN : N ≤ w.heap.size) (hfit : (digs (x + y).natAbs).length ≤ 600) :
    Calls Tryz.prog 93 #[.agg #[.bool s, .slice a n c], .agg #[.bool s, .slice b m d]] w (RetA1 N w (x + y)) := by
  have Ha := Lib.hid ha; have Hb := Lib.hid hb; clear ha hb
  have hn := Ha.out.2.2
  have hm := Hb.out.2.2
  have Hfit := Lib.hid hfit; clear hfit
  by_cases h0 : n = 0
  · subst h0
    have hx0 : x = 0 := by have := digs_len_zero.1 Ha.out.2.1.len.symm; omega
    obtain ⟨e1, e2, e3⟩ := heap_three w (.cells #[.bool s, .slice a 0 c] 148) (.cells #[.bool s, .slice b m d] 148) (.cells #[.bool s, .slice b m d] 148)
    obtain ⟨c0, c1, _, _⟩ := cells_at e3
    have C0 := Lib.hid c0; have C1 := Lib.hid c1; clear c0 c1 e1 e2 e3
    go_enter Tryz.func93, Tryz.ntmps93
    go_wp2
    refine bodyPost_ret (v := .agg #[.bool s, .slice b m d]) ?_ rfl ?_
    · simp [results, Tryz.results93, go_sem, C0.out, C1.out]
    · have hbb := below_three w (.cells #[.bool s, .slice a 0 c] 148) (.cells #[.bool s, .slice b m d] 148) (.cells #[.bool s, .slice b m d] 148)
      exact ⟨s, b, m, d, rfl, by rw [hx0, Int.zero_add]; exact (Hb.out.mono hN).go hbb, hbb, Out.ofLG Hb.out⟩
  · have g0 : ((n : Int) == 0) = false := by simp; omega
    by_cases hm0 : m = 0
    · subst hm0
      have hy0 : y = 0 := by have := digs_len_zero.1 Hb.out.2.1.len.symm; omega
      obtain ⟨e1, e2, e3⟩ := heap_three w (.cells #[.bool s, .slice a n c] 148) (.cells #[.bool s, .slice b 0 d] 148) (.cells #[.bool s, .slice a n c] 148)
      obtain ⟨c0, c1, _, _⟩ := cells_at e3
      have C0 := Lib.hid c0; have C1 := Lib.hid c1; clear c0 c1 e1 e2 e3
      go_enter Tryz.func93, Tryz.ntmps93
      go_wp2
      refine bodyPost_ret (v := .agg #[.bool s, .slice a n c]) ?_ rfl ?_
      · simp [results, Tryz.results93, go_sem, C0.out, C1.out]
      · have hbb := below_three w (.cells #[.bool s, .slice a n c] 148) (.cells #[.bool s, .slice b 0 d] 148) (.cells #[.bool s, .slice a n c] 148)
        exact ⟨s, a, n, c, rfl, by rw [hy0, Int.add_zero]; exact (Ha.out.mono hN).go hbb, hbb, Out.ofLG Ha.out⟩
    · have g1 : ((m : Int) == 0) = false := by simp; omega
      have hlx := Ha.out.2.1.len
      have hly := Hb.out.2.1.len
      have hdx := dig_digs x.natAbs
      have hdy := dig_digs y.natAbs
      have hvx := val_digs x.natAbs
      have hvy := val_digs y.natAbs
      have hsx := (Ha.out.2.1.mono hN)
      have hsy := (Hb.out.2.1.mono hN)
      have hsg : s = decide (x < 0) ∧ s = decide (y < 0) := ⟨Ha.out.1, Hb.out.1⟩
      generalize digs x.natAbs = xs at *
      generalize digs y.natAbs = ys at *
      have Hlx := Lib.hid hlx; have Hly := Lib.hid hly; have Hdx := Lib.hid hdx; have Hdy := Lib.hid hdy; have Hvx := Lib.hid hvx; have Hvy := Lib.hid hvy
      have Hsx := Lib.hid hsx; have Hsy := Lib.hid hsy; have Hsg := Lib.hid hsg
      clear hlx hly hdx hdy hvx hvy hsx hsy hsg
      go_enter Tryz.func93, Tryz.ntmps93
      go_wp2_with fail
      go_loopw [5, 6, 7] (fun dv cv iv wr => SumRel w (.cells #[.bool s, .slice a n c] 148 (0, 0)) (.cells #[.bool s, .slice b m d] 148 (0, 0)) (.cells #[.bool false, .slice none 0 0] 148 (0, 0)) xs ys dv cv iv wr) (fun _ _ iv _ => max n m + 1 - (intOf iv).toNat)
      case atStart =>
        obtain ⟨e1, e2, e3⟩ := heap_three w (.cells #[.bool s, .slice a n c] 148) (.cells #[.bool s, .slice b m d] 148) (.cells #[.bool false, .slice none 0 0] 148)
        exact ⟨0, 0, none, 0, [], rfl, rfl, rfl, ⟨rfl, Dig.nil, by simp [val], by omega, by omega⟩, Or.inl (Nat.zero_le _), World.ownsRow_nil _ _ _ _, e1, e2, e3, below_three _ _ _ _, by simp⟩
      case round =>
        obtain ⟨i, cr, va, vc, zs, rfl, rfl, rfl, hS, hi, hown, hc1, hc2, hc3, hbw, hsz⟩ := hrel
        obtain ⟨q1, q2, f1, f2⟩ := cells_at hc1
        obtain ⟨q3, q4, f3, f4⟩ := cells_at hc2
        obtain ⟨q5, q6, f5, f6⟩ := cells_at hc3
        have hax := Hsx.out.go hbw
        have hby := Hsy.out.go hbw
        have Hax := Lib.hid hax; have Hby := Lib.hid hby; have HS := Lib.hid hS; have Hown := Lib.hid hown; have Hc1 := Lib.hid hc1; have Hc2 := Lib.hid hc2; have Hc3 := Lib.hid hc3
        have hcr0 := hS.2.2.2.1
        have hcr1 := hS.2.2.2.2
        have hzl : zs.length = i := hS.1
        have Hzl := Lib.hid hzl
        clear hax hby hS hown hc1 hc2 hc3 f1 f2 f3 f4 hzl
        have Hlx' := Hlx.out; have Hly' := Hly.out
        have hi2 : i ≤ max n m ∨ (i = max n m + 1 ∧ cr = 0) := by rw [Hlx', Hly']; exact hi
        have Hi := Lib.hid hi
        clear hi Hlx' Hly'
        have hil : i ≤ 601 := by omega
        by_cases hend : ¬ i < n ∧ ¬ i < m ∧ cr = 0
        · obtain ⟨g2, g3, rfl⟩ := hend
          clear hi2
          have hv : val zs = val xs + val ys := HS.out.last (by rw [← Hlx.out]; omega) (by rw [← Hly.out]; omega)
          have hz : x + y = if s then -val zs else val zs := by
            obtain ⟨s1, s2⟩ := Hsg.out
            rw [hv, Hvx.out, Hvy.out]
            cases s
            · have h1 : ¬ x < 0 := by simpa using s1
              have h2 : ¬ y < 0 := by simpa using s2
              simp; omega
            · have h1 : x < 0 := by simpa using s1
              have h2 : y < 0 := by simpa using s2
              simp; omega
          have hdz : (digs (val zs).toNat).length ≤ 600 := by
            have h1 := val_nonneg HS.out.2.1
            have : (val zs).toNat = (x + y).natAbs := by rw [hz]; cases s <;> simp <;> omega
            rw [this]; exact Hfit.out
          have Hz := Lib.hid hz; have Hdz := Lib.hid hdz; clear hz hdz hv
          go_wp2_with fail
          refine (made_any s zs _ _ _ _ _ (owns_sl Hown.out) HS.out.2.1 (by have := Hzl.out; omega) Hdz.out Hz.out).mono ?_
          rintro e w1 ⟨s', a', n', c', rfl, hlg, hb1, hf⟩
          have k5 := (hb1.cell (p := ⟨w.heap.size + 2, 0, none⟩) (by show w.heap.size + 2 < wr.heap.size; omega)).trans q5
          have k6 := (hb1.cell (p := ⟨w.heap.size + 2, 1, none⟩) (by show w.heap.size + 2 < wr.heap.size; omega)).trans q6
          have k7 := (hb1.frozen (p := ⟨w.heap.size + 2, 0, none⟩) (by show w.heap.size + 2 < wr.heap.size; omega)).trans f5
          have k8 := (hb1.frozen (p := ⟨w.heap.size + 2, 1, none⟩) (by show w.heap.size + 2 < wr.heap.size; omega)).trans f6
          have Hlg := Lib.hid hlg; have Hf := Lib.hid hf; clear hlg hf
          go_wp2_with fail
          refine bodyPost_ret (v := .agg #[.bool s', .slice a' n' c']) ?_ rfl ?_
          · simp [results, Tryz.results93, go_sem, k5, k6]
          · refine ⟨s', a', n', c', rfl, lg_stored Hlg.out (Out.ofFresh (N := 0) Hf.out) (Nat.zero_le _) (by omega) _ _, ((hbw.trans (hb1.mono hbw.size)).setCell (by show w.heap.size ≤ w.heap.size + 2; omega) _).setCell (by show w.heap.size ≤ w.heap.size + 2; omega) _, Out.ofFresh (Hf.out.mono (by omega))⟩
        · have hcase : i < n ∨ (¬ i < n ∧ i < m) ∨ (¬ i < n ∧ ¬ i < m ∧ 0 < cr) := by omega
          have hile : i ≤ max n m := by omega
          have hnext : i + 1 ≤ max n m ∨ (i + 1 = max n m + 1 ∧ (xs.getD i 0 + ys.getD i 0 + cr) / 1000000000 = 0) ∨ i + 1 = max n m   := by
            by_cases h1 : i < max n m
            · exact Or.inl (by omega)
            · refine Or.inr (Or.inl ⟨by omega, ?_⟩)
              have h2 : xs.getD i 0 = 0 := by rw [List.getD_eq_getElem?_getD, List.getElem?_eq_none (by rw [← Hlx.out]; omega)]; rfl
              have h3 : ys.getD i 0 = 0 := by rw [List.getD_eq_getElem?_getD, List.getElem?_eq_none (by rw [← Hly.out]; omega)]; rfl
              rw [h2, h3]; omega
          clear hend hi2
          have hzl2 : zs.length ≤ 601 := by have := Hzl.out; omega
          have hdxi := Hdx.out.all i
          have hdyi := Hdy.out.all i
          have HSn := Lib.hid (HS.out.step Hdx.out Hdy.out)
          generalize hxi : xs.getD i 0 = xi at *
          generalize hyi : ys.getD i 0 = yi at *
          have Hxi := Lib.hid hxi; have Hyi := Lib.hid hyi; clear hxi hyi
          have hr1 : 0 ≤ (xi + yi + cr) % 1000000000 := by omega
          have hr2 : (xi + yi + cr) % 1000000000 < 1000000000 := by omega
          have hr3 : 0 ≤ xi + yi + cr := by omega
          rcases hcase with g | ⟨g, g'⟩ | ⟨g, g', g''⟩
          all_goals
            go_wp2_with fail
            refine wp_region_eager 11 [(0, true), (1, true), (2, true), (4, true), (5, true), (6, true), (9, true), (3, false), (7, false), (8, true), (10, true)] (by kernel_rfl) (by kernel_rfl) ?_
            iterate 7
              refine wpOrd_yield (v := ?_) rfl (fun _ _ _ h => h) (by rfl) ?_ ?_
              rotate_left
              · intro x hx
                have z2 := (hx.cell (p := ⟨w.heap.size, 1, none⟩) (by show w.heap.size < wr.heap.size; omega)).trans q2
                have z4 := (hx.cell (p := ⟨w.heap.size + 1, 1, none⟩) (by show w.heap.size + 1 < wr.heap.size; omega)).trans q4
                go_simp
                with_reducible rfl
              try simp only [Act.put, List.setIfInBounds_toArray, List.set_cons_zero, List.set_cons_succ]
            refine wpOrd_step rfl rfl (fun K hK => ?_)
            go_simp
            refine (refAt_z xs a n c i xi _ (by exact Hax.out) (by omega) (by omega) Hxi.out).mono ?_
            rintro e w4 ⟨rfl, rfl⟩
            refine hK _ _ (Below.refl _ _) ?_
            clear hK K
            try simp only [Act.put, List.setIfInBounds_toArray, List.set_cons_zero, List.set_cons_succ]
            refine wpOrd_step rfl rfl (fun K hK => ?_)
            go_simp
            refine (refAt_z ys b m d i yi _ (by exact Hby.out) (by omega) (by omega) Hyi.out).mono ?_
            rintro e w4 ⟨rfl, rfl⟩
            refine hK _ _ (Below.refl _ _) ?_
            clear hK K
            try simp only [Act.put, List.setIfInBounds_toArray, List.set_cons_zero, List.set_cons_succ]
            iterate 2
              refine wpOrd_yield (v := ?_) rfl (fun _ _ _ h => h) (by rfl) ?_ ?_
              rotate_left
              · intro x hx
                go_simp
                with_reducible rfl
              try simp only [Act.put, List.setIfInBounds_toArray, List.set_cons_zero, List.set_cons_succ]
            refine wpOrd_nil rfl ?_
            go_wp2_with (refine wpList_append_ints rfl (.tmp 57) (.tmp 60) 146 rfl Tryz.underlying146 (w.heap.size + 3) _ _ zs rfl (Hown.out.alloc _) _ _ 1 1 [_] rfl (SL.one wr.drew _ _) (by simp) (by omega) (by simp; omega) ?_)
            intro v' w1 hown1 hgrow
            obtain ⟨va', vc', rfl⟩ := owns_slice hown1
            have hgrow' : (wr.alloc (.cells #[.int .i64 ((xi + yi + cr) % 1000000000)] 3)).grownBy w1 (Value.slice va zs.length vc).ownBlock := grown_undrew hgrow
            have e1 := (grown_old (base := w.heap.size + 3) Hown.out hgrow' (b := w.heap.size) (by omega) hsz).trans Hc1.out
            have e2 := (grown_old (base := w.heap.size + 3) Hown.out hgrow' (b := w.heap.size + 1) (by omega) hsz).trans Hc2.out
            have e5 := (grown_old (base := w.heap.size + 3) Hown.out hgrow' (b := w.heap.size + 2) (by omega) hsz).trans Hc3.out
            have e3 := grown_below hbw Hown.out hgrow' (by omega) hsz
            have e4 := hgrow'.size
            have He1 := Lib.hid e1; have He2 := Lib.hid e2; have He5 := Lib.hid e5; have Hown1 := Lib.hid hown1; clear e1 e2 e5 hown1 hgrow hgrow' q1 q2 q3 q4 q5 q6
            go_wp2
            go_roundw
            case rel =>
              refine ⟨i + 1, (xi + yi + cr) / 1000000000, va', vc', zs ++ [(xi + yi + cr) % 1000000000], by simp, by go_num, by go_num, HSn.out, ?_, ?_, He1.out, He2.out, He5.out, e3, ?_⟩
              · rw [← Hlx.out, ← Hly.out]; omega
              · simpa using Hown1.out
              · simp at e4 ⊢; omega
            case measure => simp [intOf]; omega


end Go.Proofs.YtpicmhbjiaegpaaGreatDoor

namespace Go.Proofs.YtpicmhbjiaegpaaGreatDoor
open Go.RowKit

theorem three_boxes {w : World} {x1 y1 x2 y2 x3 y3 : Value} {t : TypeId} {w2 : World} (hb : Below (((w.alloc (.cells #[x1, y1] t)).alloc (.cells #[x2, y2] t)).alloc (.cells #[x3, y3] t)).heap.size (((w.alloc (.cells #[x1, y1] t)).alloc (.cells #[x2, y2] t)).alloc (.cells #[x3, y3] t)) w2) :
    w2.heap[w.heap.size]? = some (.cells #[x1, y1] t (0, 0)) ∧ w2.heap[w.heap.size + 1]? = some (.cells #[x2, y2] t (0, 0)) ∧ w2.heap[w.heap.size + 2]? = some (.cells #[x3, y3] t (0, 0)) ∧ w.heap.size + 3 ≤ w2.heap.size ∧ Below w.heap.size w w2 := by
  obtain ⟨e1, e2, e3⟩ := heap_three w (.cells #[x1, y1] t) (.cells #[x2, y2] t) (.cells #[x3, y3] t)
  have hs := hb.size
  simp at hs
  exact ⟨(hb.block _ (by simp; omega)).trans e1, (hb.block _ (by simp)).trans e2, (hb.block _ (by simp)).trans e3, by omega, below_alloc (below_alloc (below_alloc hb))⟩

end Go.Proofs.YtpicmhbjiaegpaaGreatDoor

namespace Go.Proofs.YtpicmhbjiaegpaaGreatDoor
open Go.RowKit

/-- the digits of a product, behind i whole rounds -/
def R0 (xs ys : List Int) (i : Nat) (out : List Int) : Prop :=
  out.length = xs.length + ys.length ∧ Dig out ∧ val out = val (xs.take i) * val ys
/-- in round i, behind k digits -/
def R1 (xs ys : List Int) (i k : Nat) (out : List Int) : Prop :=
  out.length = xs.length + ys.length ∧ Dig out ∧ val out = val (xs.take i) * val ys + xs.getD i 0 * val (ys.take k) * 1000000000 ^ i
/-- in round i, at digit k, with t to be laid from place j on -/
def R2 (xs ys : List Int) (i k j : Nat) (t : Int) (out : List Int) : Prop :=
  out.length = xs.length + ys.length ∧ Dig out ∧ 0 ≤ t ∧ t ≤ 999999998000000001 ∧ val out + t * 1000000000 ^ j = val (xs.take i) * val ys + xs.getD i 0 * val (ys.take (k + 1)) * 1000000000 ^ i

theorem R0.start (xs ys : List Int) : R0 xs ys 0 (List.replicate (xs.length + ys.length) 0) := by
  refine ⟨by simp, fun j _ => ?_, ?_⟩
  · simp only [List.getD_eq_getElem?_getD, List.getElem?_replicate]; split <;> simp
  · rw [val_replicate]; simp [val]
theorem R0.row {xs ys out : List Int} {i : Nat} (h : R0 xs ys i out) : R1 xs ys i 0 out := ⟨h.1, h.2.1, by rw [h.2.2]; simp [val]⟩
theorem R1.done {xs ys out : List Int} {i : Nat} (h : R1 xs ys i ys.length out) : R0 xs ys (i + 1) out := by
  refine ⟨h.1, h.2.1, ?_⟩
  rw [h.2.2, val_take_next, List.take_length, Int.add_mul, Int.mul_assoc, Int.mul_assoc, Int.mul_comm (1000000000 ^ i)]
theorem R1.dig {xs ys out : List Int} {i k : Nat} (h : R1 xs ys i k out) (hx : Dig xs) (hy : Dig ys) : R2 xs ys i k (i + k) (xs.getD i 0 * ys.getD k 0) out := by
  obtain ⟨h1, h2, h3⟩ := h
  have b := mul_bounds (hx.all i) (hy.all k)
  refine ⟨h1, h2, b.1, b.2, ?_⟩
  rw [h3, val_take_next, Int.mul_add, Int.add_mul, Int.pow_add, Int.add_assoc]
  congr 2
  rw [Int.mul_assoc, Int.mul_assoc, Int.mul_assoc, Int.mul_comm (1000000000 ^ i)]
theorem R2.done {xs ys out : List Int} {i k j : Nat} (h : R2 xs ys i k j 0 out) : R1 xs ys i (k + 1) out := ⟨h.1, h.2.1, by have := h.2.2.2.2; omega⟩
theorem R2.step {xs ys out : List Int} {i k j : Nat} {t : Int} (h : R2 xs ys i k j t out) (hj : j < out.length) :
    R2 xs ys i k (j + 1) ((t + out.getD j 0) / 1000000000) (out.set j ((t + out.getD j 0) % 1000000000)) := by
  obtain ⟨h1, h2, h3, h4, h5⟩ := h
  have a := h2.all j
  refine ⟨by simpa using h1, fun q _ => ?_, by omega, by omega, ?_⟩
  · rw [getD_set]; split
    · omega
    · exact h2.all q
  · rw [val_set hj, ← h5, Int.pow_succ]
    generalize out.getD j 0 = z at *
    generalize (1000000000 : Int) ^ j = p
    have e : (t + z) % 1000000000 - z + (t + z) / 1000000000 * 1000000000 = t := by omega
    rw [Int.mul_comm p 1000000000, ← Int.mul_assoc, Int.add_assoc, ← Int.add_mul, e]

theorem val_take_le {l : List Int} (h : Dig l) (k : Nat) : val (l.take k) ≤ val l := by
  have e : val l = val (l.take k) + 1000000000 ^ (l.take k).length * val (l.drop k) := by rw [← val_append, List.take_append_drop]
  have p : (0 : Int) ≤ 1000000000 ^ (l.take k).length := Int.pow_nonneg (by decide)
  have := Int.mul_nonneg p (val_nonneg (h.drop k))
  omega

/-- what is left to be laid lies within the product -/
theorem R2.within {xs ys out : List Int} {i k j : Nat} {t : Int} (h : R2 xs ys i k j t out) (hx : Dig xs) (hy : Dig ys) (ht : 0 < t) : j < xs.length + ys.length := by
  obtain ⟨h1, h2, h3, h4, h5⟩ := h
  apply Decidable.byContradiction
  intro hc
  have e1 : val (xs.take i) * val ys + xs.getD i 0 * val (ys.take (k + 1)) * 1000000000 ^ i ≤ val (xs.take (i + 1)) * val ys := by
    have p : (0 : Int) ≤ 1000000000 ^ i := Int.pow_nonneg (by decide)
    rw [val_take_next xs i, Int.add_mul, Int.mul_assoc (xs.getD i 0) (1000000000 ^ i), Int.mul_assoc, Int.mul_comm (1000000000 ^ i) (val ys)]
    have := Int.mul_le_mul_of_nonneg_left (Int.mul_le_mul_of_nonneg_right (val_take_le hy (k + 1)) p) (hx.all i).1
    omega
  have e2 : val (xs.take (i + 1)) * val ys ≤ val xs * val ys := Int.mul_le_mul_of_nonneg_right (val_take_le hx _) (val_nonneg hy)
  have e3 : val xs * val ys < 1000000000 ^ (xs.length + ys.length) := by
    rw [Int.pow_add]
    have p1 := val_lt hx
    have p2 := val_lt hy
    have n1 := val_nonneg hx
    have n2 := val_nonneg hy
    have q : (0 : Int) < 1000000000 ^ ys.length := Int.pow_pos (by decide)
    calc val xs * val ys ≤ val xs * 1000000000 ^ ys.length := Int.mul_le_mul_of_nonneg_left (by omega) n1
      _ < 1000000000 ^ xs.length * 1000000000 ^ ys.length := Int.mul_lt_mul_of_pos_right p1 q
  have e4 : (1000000000 : Int) ^ (xs.length + ys.length) ≤ t * 1000000000 ^ j := by
    have q1 : (1000000000 : Int) ^ (xs.length + ys.length) ≤ 1000000000 ^ j := by
      have := Nat.pow_le_pow_right (n := 1000000000) (by decide) (show xs.length + ys.length ≤ j by omega)
      have := Int.ofNat_le.2 this
      rw [Int.natCast_pow, Int.natCast_pow] at this
      exact this
    have q0 : (0 : Int) < 1000000000 ^ j := Int.pow_pos (by decide)
    have : 1 * 1000000000 ^ j ≤ t * 1000000000 ^ j := Int.mul_le_mul_of_nonneg_right (by omega) (by omega)
    omega
  have e5 := val_nonneg h2
  omega

theorem prod_sign (x y : Int) : x * y = if (decide (x < 0) != decide (y < 0)) = true then -((x.natAbs : Int) * y.natAbs) else (x.natAbs : Int) * y.natAbs := by
  by_cases hx : x < 0
  · by_cases hy : y < 0
    · rw [decide_eq_true hx, decide_eq_true hy, if_neg (by decide), show (x.natAbs : Int) = -x by omega, show (y.natAbs : Int) = -y by omega, Int.neg_mul_neg]
    · rw [decide_eq_true hx, decide_eq_false hy, if_pos (by decide), show (x.natAbs : Int) = -x by omega, show (y.natAbs : Int) = y by omega, Int.neg_mul, Int.neg_neg]
  · by_cases hy : y < 0
    · rw [decide_eq_false hx, decide_eq_true hy, if_pos (by decide), show (x.natAbs : Int) = x by omega, show (y.natAbs : Int) = -y by omega, Int.mul_neg, Int.neg_neg]
    · rw [decide_eq_false hx, decide_eq_false hy, if_neg (by decide), show (x.natAbs : Int) = x by omega, show (y.natAbs : Int) = y by omega]

set_option maxRecDepth 100000 in
set_option maxHeartbeats 1600000 in
theorem prod_any (s t : Bool) (x y : Int) (a b : Option Addr) (n m c d : Nat) (w : World) (ha : LG w.heap.size w s a n c x) (hb : LG w.heap.size w t b m d y) (hfit : (digs (x * y).natAbs).length ≤ 600) :
    Calls Tryz.prog 94 #[.agg #[.bool s, .slice a n c], .agg #[.bool t, .slice b m d]] w (RetL1 w (x * y)) := by
  have hn := ha.2.2
  have hm := hb.2.2
  have Ha := Lib.hid ha; have Hb := Lib.hid hb; have Hfit := Lib.hid hfit; clear ha hb hfit
  go_enter Tryz.func94, Tryz.ntmps94
  go_wp2_with (refine wpList_make_ints rfl (.tmp 16) (.tmp 16) 146 rfl Tryz.underlying146 ((n : Int) + m) (n + m) rfl rfl (by omega) (by omega) ?_)
  intro w1 hblk hb1
  have hb1' : Below (((w.alloc (.cells #[.bool s, .slice a n c] 148)).alloc (.cells #[.bool t, .slice b m d] 148)).alloc (.cells #[.bool false, .slice none 0 0] 148)).heap.size
    (((w.alloc (.cells #[.bool s, .slice a n c] 148)).alloc (.cells #[.bool t, .slice b m d] 148)).alloc (.cells #[.bool false, .slice none 0 0] 148)) w1 := by simpa using hb1
  obtain ⟨e1, e2, e3, hs1, hw1⟩ := three_boxes hb1'
  clear hb1 hb1'
  have hgg : w.heap.size + 2 < w.heap.size + 1 + 1 + 1 := by omega
  have hgb : w.heap.size + 1 + 1 + 1 ≤ w.heap.size + 3 := by omega
  generalize w.heap.size + 1 + 1 + 1 = g at *
  have hax := Ha.out.2.1
  have hby := Hb.out.2.1
  have hdx := dig_digs x.natAbs
  have hdy := dig_digs y.natAbs
  have hvx := val_digs x.natAbs
  have hvy := val_digs y.natAbs
  have hlx := hax.len
  have hly := hby.len
  have hsg : s = decide (x < 0) ∧ t = decide (y < 0) := ⟨Ha.out.1, Hb.out.1⟩
  generalize digs x.natAbs = xs at *
  generalize digs y.natAbs = ys at *
  obtain rfl := hlx
  obtain rfl := hly
  have Hdx := Lib.hid hdx; have Hdy := Lib.hid hdy; have Hvx := Lib.hid hvx; have Hvy := Lib.hid hvy
  have Hax := Lib.hid hax; have Hby := Lib.hid hby; have Hsg := Lib.hid hsg; have Hgg := Lib.hid hgg; have Hgb := Lib.hid hgb
  have E1 := Lib.hid e1; have E2 := Lib.hid e2; have E3 := Lib.hid e3
  clear hax hby hdx hdy hvx hvy hsg Ha Hb e1 e2 e3 hgg hgb
  go_wp2_with fail
  go_loopw [6] (fun v wr => ∃ (i : Nat) (out : List Int), i ≤ xs.length ∧ v = .int .i64 i ∧ Blk wr g out ∧ R0 xs ys i out ∧ Below g w1 wr) (fun v _ => xs.length - (intOf v).toNat)
  case atStart => exact ⟨0, _, Nat.zero_le _, rfl, hblk, R0.start xs ys, Below.refl _ _⟩
  case round =>
    clear hblk
    obtain ⟨i, out, hi, rfl, hblk, hp, hbw⟩ := hrel
    have g1 := (hbw.block w.heap.size (by have := Hgg.out; omega)).trans E1.out
    have g2 := (hbw.block (w.heap.size + 1) (by have := Hgg.out; omega)).trans E2.out
    have g3 := (hbw.block (w.heap.size + 2) (by have := Hgg.out; omega)).trans E3.out
    obtain ⟨q1, q2, _, _⟩ := cells_at g1
    obtain ⟨q3, q4, _, _⟩ := cells_at g2
    obtain ⟨q5, q6, q7, q8⟩ := cells_at g3
    clear g1 g2 g3
    by_cases hin : i < xs.length
    · obtain ⟨wo, rfl⟩ : ∃ wo : World, wo = wr := ⟨_, rfl⟩
      go_wp2_with fail
      clear q1 q2 q3 q4 q5 q6 q7 q8
      go_loopw [7] (fun v wr => ∃ (k : Nat) (out : List Int), k ≤ ys.length ∧ v = .int .i64 k ∧ Blk wr g out ∧ R1 xs ys i k out ∧ Below g w1 wr) (fun v _ => ys.length - (intOf v).toNat)
      case atStart => exact ⟨0, _, Nat.zero_le _, rfl, hblk, hp.row, hbw⟩
      case round =>
        clear hblk hp hbw
        obtain ⟨k, out, hk, rfl, hblk, hp, hbw⟩ := hrel
        have g1 := (hbw.block w.heap.size (by have := Hgg.out; omega)).trans E1.out
        have g2 := (hbw.block (w.heap.size + 1) (by have := Hgg.out; omega)).trans E2.out
        obtain ⟨q1, q2, _, _⟩ := cells_at g1
        obtain ⟨q3, q4, _, _⟩ := cells_at g2
        clear g1 g2
        by_cases hkm : k < ys.length
        · obtain ⟨ba, oa, rfl, hba, ca⟩ := Hax.out.at (by omega)
          obtain ⟨bb, ob, rfl, hbb, cb⟩ := Hby.out.at (by omega)
          have hwr := hw1.trans (hbw.mono (by have := Hgg.out; omega))
          have g1 := (hwr.cell (p := ⟨ba, oa + i, none⟩) hba).trans (ca i hin)
          have g2 := (hwr.cell (p := ⟨bb, ob + k, none⟩) hbb).trans (cb k hkm)
          have hxi := Hdx.out.all i
          have hyk := Hdy.out.all k
          have hq := hp.dig Hdx.out Hdy.out
          clear ca cb hba hbb hwr
          generalize hxx : xs.getD i 0 = xi at *
          generalize hyy : ys.getD k 0 = yk at *
          have Hxx := Lib.hid hxx; have Hyy := Lib.hid hyy; clear hxx hyy
          obtain ⟨hm1, hm2⟩ := mul_bounds hxi hyk
          obtain ⟨wo2, rfl⟩ : ∃ wo2 : World, wo2 = wr := ⟨_, rfl⟩
          go_wp2_with fail
          go_quiet (fail)
          go_wp2_with fail
          clear g1 g2 q1 q2 q3 q4
          go_loopw [8, 9] (fun tv jv wr => ∃ (j : Nat) (z : Int) (out : List Int), tv = .int .i64 z ∧ jv = .int .i64 (j : Int) ∧ Blk wr g out ∧ R2 xs ys i k j z out ∧ Below g w1 wr ∧ (0 < z → j < xs.length + ys.length)) (fun _ jv _ => xs.length + ys.length - (intOf jv).toNat)
          case atStart =>
            refine ⟨i + k, _, out, by rw [← Hxx.out, ← Hyy.out], by go_num, hblk, hp.dig Hdx.out Hdy.out, below_drewN hbw _, (hp.dig Hdx.out Hdy.out).within Hdx.out Hdy.out⟩
          case round =>
            clear hblk hp hbw hq
            obtain ⟨j, z, out, rfl, rfl, hblk, hp, hbw, hjz⟩ := hrel
            have hz0 := hp.2.2.1
            have hz1 := hp.2.2.2.1
            have hol : out.length = xs.length + ys.length := hp.1
            have Hol := Lib.hid hol; clear hol
            by_cases hz : 0 < z
            · have hj := hjz hz
              have g2 := hblk.cell (j := j) (by have := Hol.out; omega)
              have g3 := hblk.free j
              have hoj := hp.2.1.all j
              have hst := hp.step (by have := Hol.out; omega)
              generalize hoo : out.getD j 0 = o at *
              have Hoo := Lib.hid hoo; have Hst := Lib.hid hst; clear hoo hst hjz hp
              go_wp2
              go_roundw
              case rel =>
                refine ⟨j + 1, _, _, rfl, by go_num, hblk.set j (by have := Hol.out; omega) _, Hst.out, hbw.setCell (Nat.le_refl _) _, Hst.out.within Hdx.out Hdy.out⟩
              case measure => simp [intOf]; omega
            · obtain rfl : z = 0 := by omega
              go_wp2
              go_roundw
              case rel => exact ⟨k + 1, out, by omega, by go_num, hblk, hp.done, hbw⟩
              case measure => simp [intOf]; omega
        · obtain rfl : k = ys.length := by omega
          go_wp2
          go_roundw
          case rel => exact ⟨i + 1, out, by omega, by go_num, hblk, hp.done, hbw⟩
          case measure => simp [intOf]; omega
    · obtain rfl : i = xs.length := by omega
      obtain ⟨hol, hd, hv⟩ := hp
      rw [List.take_length] at hv
      have hsl := hblk.sl (c := xs.length + ys.length) (by omega)
      rw [hol] at hsl
      have hz : x * y = if s != t then -val out else val out := by
        obtain ⟨s1, s2⟩ := Hsg.out
        rw [hv, Hvx.out, Hvy.out, s1, s2]
        exact prod_sign x y
      have hdz : (digs (val out).toNat).length ≤ 600 := by
        have h1 := val_nonneg hd
        have : (val out).toNat = (x * y).natAbs := by rw [hz]; split <;> omega
        rw [this]; exact Hfit.out
      have Hz := Lib.hid hz; have Hdz := Lib.hid hdz; have Hd := Lib.hid hd; have Hsl := Lib.hid hsl; clear hz hdz hv hol hd hsl
      go_wp2_with fail
      refine (made_any (!(s == t)) out _ _ _ _ _ Hsl.out Hd.out (by omega) Hdz.out Hz.out).mono ?_
      rintro e w2 ⟨s', a', n', c', rfl, hlg, hb2, hf⟩
      have hlt : w.heap.size + 2 < wr.heap.size := by have := Hgg.out; have := hblk.lt; omega
      have k5 := (hb2.cell (p := ⟨w.heap.size + 2, 0, none⟩) hlt).trans q5
      have k6 := (hb2.cell (p := ⟨w.heap.size + 2, 1, none⟩) hlt).trans q6
      have k7 := (hb2.frozen (p := ⟨w.heap.size + 2, 0, none⟩) hlt).trans q7
      have k8 := (hb2.frozen (p := ⟨w.heap.size + 2, 1, none⟩) hlt).trans q8
      have hwr := hw1.trans (hbw.mono (by have := Hgg.out; omega))
      have Hlg := Lib.hid hlg; have Hf := Lib.hid hf; clear hlg hf
      go_wp2_with fail
      refine bodyPost_ret (v := .agg #[.bool s', .slice a' n' c']) ?_ rfl ?_
      · simp [results, Tryz.results94, go_sem, k5, k6]
      · exact refL1_mk Hlg.out (hwr.trans (hb2.mono hwr.size)) Hf.out (w.heap.size + 2) hlt (by omega) _ _


end Go.Proofs.YtpicmhbjiaegpaaGreatDoor
