/-
  DERIVED. A region that draws its order, holds calls that only make memory, AND makes some variables of its own, which may come up at any time among the calls: one walk serves every order; where the variables lie is left open till the end. (Float: the same with one variable.)
-/
import Derived.Test.YtkfkdkoohnfgaaaFloat
namespace Go.Proofs.Ytkfkdkoohnfgaaa
open Go.RowKit

section
variable {P : Program} {ops : Array Oper} {Q : Exit → Act → World → Prop} {md : Region.Mode}

theorem getD_set_true (l : Array Bool) (k : Nat) : (l.setIfInBounds k true).getD k true = true := by
  rw [Array.getD_eq_getD_getElem?, Array.getElem?_setIfInBounds, if_pos rfl]
  split <;> rfl

/-- the variables: number of the operation, slot, what is made -/
def putS : List (Nat × Tmp × Obj) → List (Option Nat) → Act → Act
  | (_, d, _) :: fs, some b :: os, a => putS fs os (a.put (some d) (.pointer (some ⟨b, 0, none⟩)))
  | _ :: fs, none :: os, a => putS fs os a
  | _, _, a => a
def setS : List (Nat × Tmp × Obj) → List (Option Nat) → Array Bool → Array Bool
  | (k, _, _) :: fs, some _ :: os, l => setS fs os (l.setIfInBounds k true)
  | _ :: fs, none :: os, l => setS fs os l
  | _, _, l => l

theorem setS_set (k : Nat) : ∀ (fs : List (Nat × Tmp × Obj)) (os : List (Option Nat)) (l : Array Bool), setS fs os (l.setIfInBounds k true) = (setS fs os l).setIfInBounds k true
  | [], _, _ => by simp [setS]
  | _ :: _, [], _ => by simp [setS]
  | (k', d, Z) :: fs, none :: os, l => by simp only [setS]; exact setS_set k fs os l
  | (k', d, Z) :: fs, some b :: os, l => by
    simp only [setS]
    by_cases h : k = k'
    · subst h
      rw [← setS_set k fs os]
    · rw [Array.setIfInBounds_comm _ _ h, setS_set k fs os]

theorem putS_put {x : Option Tmp} {v : Value} : ∀ (fs : List (Nat × Tmp × Obj)) (os : List (Option Nat)) (a : Act), (∀ f ∈ fs, x ≠ some f.2.1) → putS fs os (a.put x v) = (putS fs os a).put x v
  | [], _, _, _ => by simp [putS]
  | _ :: _, [], _, _ => by simp [putS]
  | (k', d, Z) :: fs, none :: os, a, h => by simp only [putS]; exact putS_put fs os a (fun f hf => h f (List.mem_cons_of_mem _ hf))
  | (k', d, Z) :: fs, some b :: os, a, h => by
    simp only [putS]
    have := h _ (List.mem_cons_self ..)
    rw [Act.put_comm a (x := x) (y := some d) v _ (fun e he => by rw [he] at this; exact fun h => this h.symm), putS_put fs os _ (fun f hf => h f (List.mem_cons_of_mem _ hf))]

theorem putS_fire {b : Nat} : ∀ (fs : List (Nat × Tmp × Obj)) (os : List (Option Nat)) (a : Act) (j : Nat) (f : Nat × Tmp × Obj), fs[j]? = some f → os[j]? = some none → (fs.map fun f => f.2.1).Nodup →
    putS fs (os.set j (some b)) a = (putS fs os a).put (some f.2.1) (.pointer (some ⟨b, 0, none⟩))
  | [], _, _, _, _, h, _, _ => by simp at h
  | _ :: _, [], _, _, _, _, h, _ => by simp at h
  | (k', d, Z) :: fs, o :: os, a, 0, f, h1, h2, hn => by
    simp at h1 h2
    subst h1 h2
    simp only [List.set_cons_zero, putS]
    refine putS_put fs os a (fun f hf e => ?_)
    simp only [List.map_cons, List.nodup_cons] at hn
    exact hn.1 (List.mem_map.2 ⟨f, hf, by cases e; rfl⟩)
  | (k', d, Z) :: fs, o :: os, a, j + 1, f, h1, h2, hn => by
    simp only [List.getElem?_cons_succ] at h1 h2
    simp only [List.map_cons, List.nodup_cons] at hn
    simp only [List.set_cons_succ]
    cases o with
    | none => simp only [putS]; exact putS_fire fs os a j f h1 h2 hn.2
    | some c => simp only [putS]; exact putS_fire fs os _ j f h1 h2 hn.2

theorem setS_fire {b : Nat} : ∀ (fs : List (Nat × Tmp × Obj)) (os : List (Option Nat)) (l : Array Bool) (j : Nat) (f : Nat × Tmp × Obj), fs[j]? = some f → os[j]? = some none →
    setS fs (os.set j (some b)) l = (setS fs os l).setIfInBounds f.1 true
  | [], _, _, _, _, h, _ => by simp at h
  | _ :: _, [], _, _, _, _, h => by simp at h
  | (k', d, Z) :: fs, o :: os, l, 0, f, h1, h2 => by
    simp at h1 h2
    subst h1 h2
    simp only [List.set_cons_zero, setS]
    exact setS_set k' fs os l
  | (k', d, Z) :: fs, o :: os, l, j + 1, f, h1, h2 => by
    simp only [List.getElem?_cons_succ] at h1 h2
    simp only [List.set_cons_succ]
    cases o with
    | none => simp only [setS]; exact setS_fire fs os l j f h1 h2
    | some c => simp only [setS]; exact setS_fire fs os _ j f h1 h2

/-- all of them made -/
def fullS (fs : List (Nat × Tmp × Obj)) (l : Array Bool) : Array Bool := fs.foldl (fun l f => l.setIfInBounds f.1 true) l

theorem ready_S {j : Nat} : ∀ (fs : List (Nat × Tmp × Obj)) (os : List (Option Nat)) (l : Array Bool), (∀ (i b : Nat) (f : Nat × Tmp × Obj), fs[i]? = some f → os[i]? = some (some b) → j ≠ f.1) → j ∈ Region.ready md ops l → j ∈ Region.ready md ops (setS fs os l)
  | [], _, _, _, h => by simpa [setS] using h
  | _ :: _, [], _, _, h => by simpa [setS] using h
  | (k, d, Z) :: fs, none :: os, l, hn, h => by simp only [setS]; exact ready_S fs os l (fun i b f h1 h2 => hn (i + 1) b f (by simpa using h1) (by simpa using h2)) h
  | (k, d, Z) :: fs, some b :: os, l, hn, h => by
    simp only [setS]; exact ready_S fs os _ (fun i b f h1 h2 => hn (i + 1) b f (by simpa using h1) (by simpa using h2)) (ready_mono h (hn 0 b (k, d, Z) rfl rfl))

theorem setS_fired {b : Nat} : ∀ (fs : List (Nat × Tmp × Obj)) (os : List (Option Nat)) (l : Array Bool) (j : Nat) (f : Nat × Tmp × Obj), fs[j]? = some f → os[j]? = some (some b) → (setS fs os l).getD f.1 true = true
  | [], _, _, _, _, h, _ => by simp at h
  | _ :: _, [], _, _, _, _, h => by simp at h
  | (k', d, Z) :: fs, o :: os, l, 0, f, h1, h2 => by
    simp at h1 h2
    subst h1 h2
    simp only [setS, setS_set]
    exact getD_set_true _ _
  | (k', d, Z) :: fs, o :: os, l, j + 1, f, h1, h2 => by
    simp only [List.getElem?_cons_succ] at h1 h2
    cases o with
    | none => simp only [setS]; exact setS_fired fs os l j f h1 h2
    | some c => simp only [setS]; exact setS_fired fs os _ j f h1 h2

theorem fullS_set (k : Nat) : ∀ (fs : List (Nat × Tmp × Obj)) (l : Array Bool), fullS fs (l.setIfInBounds k true) = (fullS fs l).setIfInBounds k true
  | [], _ => rfl
  | (k', d, Z) :: fs, l => by
    show fullS fs ((l.setIfInBounds k true).setIfInBounds k' true) = (fullS fs (l.setIfInBounds k' true)).setIfInBounds k true
    by_cases h : k = k'
    · subst h
      rw [← fullS_set k fs]
    · rw [Array.setIfInBounds_comm _ _ h, fullS_set k fs]

theorem ready_full {j : Nat} : ∀ (fs : List (Nat × Tmp × Obj)) (os : List (Option Nat)) (l : Array Bool), (∀ f ∈ fs, j ≠ f.1) → j ∈ Region.ready md ops (setS fs os l) → j ∈ Region.ready md ops (fullS fs l)
  | [], _, _, _, h => by simpa [setS, fullS] using h
  | (k, d, Z) :: fs, [], l, hn, h => by
    show j ∈ Region.ready md ops (fullS fs (l.setIfInBounds k true))
    rw [fullS_set]
    exact ready_mono (ready_full fs [] l (fun f hf => hn f (List.mem_cons_of_mem _ hf)) (by cases fs <;> simpa [setS] using h)) (hn _ (List.mem_cons_self ..))
  | (k, d, Z) :: fs, none :: os, l, hn, h => by
    show j ∈ Region.ready md ops (fullS fs (l.setIfInBounds k true))
    rw [fullS_set]
    exact ready_mono (ready_full fs os l (fun f hf => hn f (List.mem_cons_of_mem _ hf)) h) (hn _ (List.mem_cons_self ..))
  | (k, d, Z) :: fs, some b :: os, l, hn, h => ready_full fs os _ (fun f hf => hn f (List.mem_cons_of_mem _ hf)) h

theorem setS_all : ∀ (fs : List (Nat × Tmp × Obj)) (bs : List Nat) (l : Array Bool), bs.length = fs.length → setS fs (bs.map some) l = fullS fs l
  | [], [], _, _ => rfl
  | [], b :: bs, _, h => by simp at h
  | f :: fs, [], _, h => by simp at h
  | (k, d, Z) :: fs, b :: bs, l, h => by
    show setS fs (bs.map some) (l.setIfInBounds k true) = fullS fs (l.setIfInBounds k true)
    exact setS_all fs bs _ (by simpa using h)

/-- the slots of the variables are apart from the operation -/
def apartS (ops : Array Oper) (fs : List (Nat × Tmp × Obj)) (o : Oper) : Bool :=
  fs.all fun f => match ops[f.1]? with | some ok => decide (ok.dst = some f.2.1) && ok.apart ops o | none => false

theorem apartS_out {fs : List (Nat × Tmp × Obj)} {o : Oper} (h : apartS ops fs o = true) : ∀ f ∈ fs, f.2.1 ∉ o.looksAt ops ∧ o.dst ≠ some f.2.1 := fun f hf => by
  have := List.all_eq_true.1 h f hf
  cases hk : ops[f.1]? with
  | none => simp [hk] at this
  | some ok =>
    simp only [hk, Bool.and_eq_true, decide_eq_true_eq] at this
    exact apart_out this.1 this.2

theorem execOp_putS (o : Oper) (hsel : ∀ cs b, o.op ≠ .select cs b) : ∀ (fs : List (Nat × Tmp × Obj)) (os : List (Option Nat)) (a : Act), (∀ f ∈ fs, f.2.1 ∉ o.looksAt ops) →
    execOp (putS fs os a).eval o = execOp a.eval o ∧ Region.wanted o (yielded ops (putS fs os a).tmps) = Region.wanted o (yielded ops a.tmps)
  | [], _, _, _ => by simp [putS]
  | _ :: _, [], _, _ => by simp [putS]
  | (k', d, Z) :: fs, none :: os, a, h => by simp only [putS]; exact execOp_putS o hsel fs os a (fun f hf => h f (List.mem_cons_of_mem _ hf))
  | (k', d, Z) :: fs, some b :: os, a, h => by
    simp only [putS]
    obtain ⟨h1, h2⟩ := execOp_putS o hsel fs os (a.put (some d) (.pointer (some ⟨b, 0, none⟩))) (fun f hf => h f (List.mem_cons_of_mem _ hf))
    have hd := h _ (List.mem_cons_self ..)
    exact ⟨h1.trans (execOp_put o hsel a (some d) _ (fun e he => by cases he; exact hd)), h2.trans (wanted_put o a (some d) _ (fun e he => by cases he; exact hd))⟩

theorem wpOp_putS {j : Nat} {oj : Oper} (hj : ops[j]? = some oj) (hsj : ∀ cs b, oj.op ≠ .select cs b) (hQ : ∀ c a d u w, Q (.panic c) a w → Q (.panic c) (a.put (some d) u) w) :
    ∀ (fs : List (Nat × Tmp × Obj)) (os : List (Option Nat)) {K K' : Act → World → Prop} {a : Act} {w : World}, (∀ f ∈ fs, f.2.1 ∉ oj.looksAt ops ∧ oj.dst ≠ some f.2.1) →
    (∀ a' w', K a' w' → K' (putS fs os a') w') → wpOp P ops Q j K a w → wpOp P ops Q j K' (putS fs os a) w
  | [], _, _, _, _, _, _, hK, h => by simp only [putS] at *; exact wpOp_mono hK h
  | _ :: _, [], _, _, _, _, _, hK, h => by simp only [putS] at *; exact wpOp_mono hK h
  | (k', d, Z) :: fs, none :: os, _, _, _, _, hap, hK, h => by
    simp only [putS] at *
    exact wpOp_putS hj hsj hQ fs os (fun f hf => hap f (List.mem_cons_of_mem _ hf)) hK h
  | (k', d, Z) :: fs, some b :: os, K, K', a, w, hap, hK, h => by
    simp only [putS] at *
    obtain ⟨p1, p2⟩ := hap _ (List.mem_cons_self ..)
    refine wpOp_putS (K := fun a' w' => ∃ a'', a' = a''.put (some d) (.pointer (some ⟨b, 0, none⟩)) ∧ K a'' w') hj hsj hQ fs os (fun f hf => hap f (List.mem_cons_of_mem _ hf)) (fun a' w' ⟨a'', e, h'⟩ => by subst e; exact hK a'' w' h') ?_
    exact wpOp_put hj p1 p2 hsj (fun c a w => hQ c a d _ w) (fun a' w' h' => ⟨a', rfl, h'⟩) h

/-- j waits for i at first hand -/
def directB (md : Region.Mode) (ops : Array Oper) (j i : Nat) : Bool := match ops[j]? with | some o => o.after.any fun e => Region.binds md e && e.on == i | none => false
/-- .. at first or second hand -/
def reachB (md : Region.Mode) (ops : Array Oper) (j i : Nat) : Bool :=
  directB md ops j i || (match ops[j]? with | some o => o.after.any fun e => Region.binds md e && directB md ops e.on i | none => false)
/-- each of the last operations waits for each of the first that is not listed in pu (those read nothing) -/
def sinkP (md : Region.Mode) (ops : Array Oper) (n : Nat) (pu : List Nat) : Bool :=
  (List.range ops.size).all fun j => decide (j < n) || ((List.range n).all fun i => pu.contains i || reachB md ops j i)

theorem direct_listed {i j : Nat} {listed : Array Bool} (h : directB md ops j i = true) (hl : ∀ oj, ops[j]? = some oj → ∀ e ∈ oj.after, Region.binds md e = true → listed.getD e.on false = true) : listed.getD i false = true := by
  unfold directB at h
  cases ho : ops[j]? with
  | none => simp [ho] at h
  | some o =>
    rw [ho] at h
    obtain ⟨e, he, h3⟩ := Array.any_eq_true'.1 h
    simp only [Bool.and_eq_true, beq_iff_eq] at h3
    have h4 := hl o ho e he h3.1
    rwa [h3.2] at h4

theorem tail_waitsP {n i : Nat} {pu : List Nat} (hs : sinkP md ops n pu = true) (hin : i < n) (hp : pu.contains i = false) {listed : Array Bool} (inv : HeadInv md ops ops.size listed) (hun : listed.getD i true = false) (j : Nat) (hj : n ≤ j) : j ∉ Region.ready md ops listed := fun hr => by
  obtain ⟨_, oj, hoj, hall⟩ := mem_ready.1 hr
  have hlt : j < ops.size := (Array.getElem?_eq_some_iff.1 hoj).1
  have h1 := List.all_eq_true.1 hs j (List.mem_range.2 hlt)
  simp only [Bool.or_eq_true, decide_eq_true_eq] at h1
  rcases h1 with h1 | h1
  · omega
  have h2 := List.all_eq_true.1 h1 i (List.mem_range.2 hin)
  rw [hp, Bool.false_or] at h2
  unfold reachB at h2
  have hl : ∀ o, ops[j]? = some o → ∀ e ∈ o.after, Region.binds md e = true → listed.getD e.on false = true := fun o ho e he hb => by
    rw [hoj] at ho; cases ho; exact hall e he hb
  have hli : listed.getD i false = true := by
    rcases Bool.or_eq_true _ _ ▸ h2 with h2 | h2
    · exact direct_listed h2 hl
    · rw [hoj] at h2
      obtain ⟨e, he, h3⟩ := Array.any_eq_true'.1 h2
      simp only [Bool.and_eq_true] at h3
      exact direct_listed h3.2 (fun o ho => inv.closed e.on o ho (hall e he h3.1))
  rw [getD_both hun] at hli
  cases hli

theorem YieldsIf.stayP {pure : Bool} {o : Oper} {v : Value} {a : Act} {w w' : World} (h : YieldsIf P ops (fun x => pure = true ∨ Below w.heap.size w x) o v a) (hb : pure = true ∨ Below w.heap.size w w') :
    YieldsIf P ops (fun x => pure = true ∨ Below w'.heap.size w' x) o v a :=
  h.imp (fun ⟨h1, h2⟩ => ⟨h1, fun x hx => h2 x (by
    rcases hb with hb | hb
    · exact Or.inl hb
    · rcases hx with hx | hx
      · exact Or.inl hx
      · exact Or.inr (hb.trans (hx.mono hb.size)))⟩) id

theorem wpR_firstP {n i : Nat} {oi : Oper} {v : Value} {pure : Bool} (hi : ops[i]? = some oi) (hsel : ∀ (j : Nat) (o : Oper) cs b, ops[j]? = some o → o.op ≠ .select cs b)
    (hwait : pure = false → ∀ listed : Array Bool, HeadInv md ops ops.size listed → listed.getD i true = false → ∀ j, n ≤ j → j ∉ Region.ready md ops listed)
    (hQ : ∀ c a w, Q (.panic c) (a.put oi.dst v) w → Q (.panic c) a w) :
    ∀ (fuel : Nat) (listed : Array Bool) (a : Act) (w : World), HeadInv md ops ops.size listed →
      (∀ j oj, ops[j]? = some oj → j ≠ i → listed.getD j true = false → (∀ e ∈ oj.after, Region.binds md e = true → e.on ≠ i) → oi.apart ops oj = true) →
      i ∈ Region.ready md ops listed → YieldsIf P ops (fun x => pure = true ∨ Below w.heap.size w x) oi v a →
      wpR P md ops Q n fuel (listed.setIfInBounds i true) (a.put oi.dst v) w → wpR P md ops Q n (fuel + 1) listed a w := by
  intro fuel
  induction fuel with
  | zero =>
    intro listed a w _ _ hr hy H
    refine ⟨fun h => (by rw [h] at hr; cases hr), fun j hj => ?_⟩
    by_cases hji : j = i
    · subst hji; exact hy.wpOp hi (Or.inr (Below.refl _ _)) ⟨fun _ => Below.refl _ _, H⟩
    · have := ready_mono hj hji
      rw [H.1] at this
      cases this
  | succ fuel ih =>
    intro listed a w inv hfree hr hy H
    have hun := (mem_ready.1 hr).1
    refine ⟨fun h => (by rw [h] at hr; cases hr), fun j hj => ?_⟩
    by_cases hji : j = i
    · subst hji; exact hy.wpOp hi (Or.inr (Below.refl _ _)) ⟨fun _ => Below.refl _ _, H⟩
    · have h1 := H.2 j (ready_mono hj hji)
      obtain ⟨hjun, oj, hoj, hall⟩ := mem_ready.1 hj
      have hnot : ∀ e ∈ oj.after, Region.binds md e = true → e.on ≠ i := fun e he hb heq => by
        have h1 := hall e he hb
        rw [heq, getD_both hun] at h1
        cases h1
      have h2 := wpOp_putIf hoj (hfree j oj hoj hji hjun hnot) (fun cs b => hsel i oi cs b hi) (fun cs b => hsel j oj cs b hoj) hQ hy h1
      have hfree' : ∀ k ok, ops[k]? = some ok → k ≠ i → (listed.setIfInBounds j true).getD k true = false →
          (∀ e ∈ ok.after, Region.binds md e = true → e.on ≠ i) → oi.apart ops ok = true := fun k ok hk hki hun hno => by
        refine hfree k ok hk hki ?_ hno
        by_cases hjk : j = k
        · subst hjk; exact hjun
        · rw [getD_set_ne true hjk] at hun; exact hun
      have hstay : ∀ w', (j < n → Below w.heap.size w w') → (pure = true ∨ Below w.heap.size w w') := fun w' hw => by
        cases hpu : pure with
        | true => exact Or.inl rfl
        | false =>
          refine Or.inr (hw ?_)
          rcases Nat.lt_or_ge j n with h | h
          · exact h
          · exact absurd hj (hwait hpu listed inv hun j h)
      refine wpOp_mono (fun a' w' h3 => ⟨h3.2.1, ih (listed.setIfInBounds j true) a' w' (inv.set hj (Array.getElem?_eq_some_iff.1 hoj).1) hfree' (ready_mono hr (Ne.symm hji)) (YieldsIf.stayP h3.1 (hstay w' h3.2.1)) ?_⟩) h2
      rw [Array.setIfInBounds_comm _ _ hji]
      exact h3.2.2

/-- the walk in the chosen order, the variables left aside; C: what is known of the variables' blocks -/
def wpG (P : Program) (ops : Array Oper) (Q : Exit → Act → World → Prop) (n : Nat) (pu : List Nat) (fs : List (Nat × Tmp × Obj)) : (Nat → Prop) → List (Nat × Bool) → Act → World → Prop
  | C, [], a, w => ∀ (bs : List Nat) w', bs.length = fs.length → (∀ (j b : Nat) (f : Nat × Tmp × Obj), bs[j]? = some b → fs[j]? = some f → C b ∧ w'.heap[b]? = some f.2.2) → (∀ (i j b : Nat), bs[i]? = some b → bs[j]? = some b → i = j) → Below w.heap.size w w' →
      wpList P ops Q (ops.toList.drop n) (putS fs (bs.map some) a) w'
  | C, (i, true) :: rest, a, w => ∃ o v, ops[i]? = some o ∧ YieldsIf P ops (fun x => pu.contains i = true ∨ Below w.heap.size w x) o v a ∧ wpG P ops Q n pu fs C rest (a.put o.dst v) w
  | C, (i, false) :: rest, a, w => ∀ x, Below w.heap.size w x → wpOp P ops Q i (fun a' w' => Below x.heap.size x w' ∧ wpG P ops Q n pu fs (fun b => C b ∧ (b < x.heap.size ∨ w'.heap.size ≤ b)) rest a' w') a x

/-- the order serves, the variables wherever they come up -/
def ordGB (md : Region.Mode) (ops : Array Oper) (n : Nat) (fs : List (Nat × Tmp × Obj)) : List (Nat × Bool) → Array Bool → Bool
  | [], listed => Region.seqB md ops (ops.size - n) n (fullS fs listed)
  | (i, t) :: rest, listed =>
    (Region.ready md ops listed).contains i && (if t then Region.free md ops listed i else decide (Region.ready md ops (fullS fs listed) = [i])) &&
    decide (i < n) && (fs.all fun f => decide (i ≠ f.1)) && (match ops[i]? with | some o => apartS ops fs o | none => false) && ordGB md ops n fs rest (listed.setIfInBounds i true)

/-- what holds of the variables that are made -/
def HeldS (C : Nat → Prop) (x : World) (fs : List (Nat × Tmp × Obj)) (os : List (Option Nat)) : Prop :=
  os.length = fs.length ∧ (∀ (j b : Nat) (f : Nat × Tmp × Obj), os[j]? = some (some b) → fs[j]? = some f → C b ∧ x.heap[b]? = some f.2.2) ∧ (∀ (i j b : Nat), os[i]? = some (some b) → os[j]? = some (some b) → i = j)

theorem free_S {i : Nat} {oi : Oper} {listed : Array Bool} (h : ∀ j oj, ops[j]? = some oj → j ≠ i → listed.getD j true = false → (∀ e ∈ oj.after, Region.binds md e = true → e.on ≠ i) → oi.apart ops oj = true) :
    ∀ (fs : List (Nat × Tmp × Obj)) (os : List (Option Nat)), ∀ j oj, ops[j]? = some oj → j ≠ i → (setS fs os listed).getD j true = false → (∀ e ∈ oj.after, Region.binds md e = true → e.on ≠ i) → oi.apart ops oj = true
  | [], _ => by simpa [setS] using h
  | _ :: _, [] => by simpa [setS] using h
  | (k, d, Z) :: fs, none :: os => by simp only [setS]; exact free_S h fs os
  | (k, d, Z) :: fs, some b :: os => fun j oj hj hji hu he => by
    simp only [setS, setS_set] at hu
    refine free_S h fs os j oj hj hji ?_ he
    by_cases hjk : k = j
    · subst hjk; rw [getD_set_true] at hu; cases hu
    · rwa [getD_set_ne true hjk] at hu

/-- how many are not made yet -/
def pendS (os : List (Option Nat)) : Nat := os.countP fun o => o.isNone

theorem pendS_fire {b : Nat} : ∀ (os : List (Option Nat)) (j : Nat), os[j]? = some none → pendS (os.set j (some b)) + 1 = pendS os
  | [], _, h => by simp at h
  | o :: os, 0, h => by
    simp at h; subst h
    simp [pendS]
  | o :: os, j + 1, h => by
    have := pendS_fire (b := b) os j (by simpa using h)
    unfold pendS at *
    rw [List.set_cons_succ, List.countP_cons, List.countP_cons]
    omega

theorem pendS_zero : ∀ (os : List (Option Nat)), pendS os = 0 → ∃ bs : List Nat, os = bs.map some
  | [], _ => ⟨[], rfl⟩
  | none :: os, h => by simp [pendS] at h
  | some b :: os, h => by
    obtain ⟨bs, e⟩ := pendS_zero os (by simpa [pendS] using h)
    exact ⟨b :: bs, by rw [e]; rfl⟩

theorem pendS_pos : ∀ (os : List (Option Nat)), pendS os ≠ 0 → ∃ j : Nat, os[j]? = some none
  | [], h => by simp [pendS] at h
  | none :: os, h => ⟨0, rfl⟩
  | some b :: os, h => by
    obtain ⟨j, e⟩ := pendS_pos os (by simpa [pendS] using h)
    exact ⟨j + 1, by simpa using e⟩

/-- what is given of the variables -/
def MadeS (P : Program) (ops : Array Oper) (n : Nat) (fs : List (Nat × Tmp × Obj)) : Prop :=
  (fs.map fun f => f.2.1).Nodup ∧ (fs.map fun f => f.1).Nodup ∧ ∀ f ∈ fs, f.1 < n ∧ ∃ ok, ops[f.1]? = some ok ∧ ok.dst = some f.2.1 ∧ ok.guard = none ∧ ∀ (a : Act) (w : World), (execOp a.eval ok).run P w = .ok (.value (.pointer (some ⟨w.heap.size, 0, none⟩))) (w.alloc f.2.2)

theorem nodup_get {fs : List (Nat × Tmp × Obj)} (h : (fs.map fun f => f.1).Nodup) {i j : Nat} {f g : Nat × Tmp × Obj} (hi : fs[i]? = some f) (hj : fs[j]? = some g) (e : f.1 = g.1) : i = j := by
  have h1 : i < (fs.map fun f => f.1).length := by have := (List.getElem?_eq_some_iff.1 hi).1; simpa using this
  have h2 : (fs.map fun f => f.1)[i]? = (fs.map fun f => f.1)[j]? := by
    rw [List.getElem?_map, List.getElem?_map, hi, hj]; simp [e]
  exact (List.getElem?_inj h1 h).1 h2

theorem wpR_of_G {n : Nat} {pu : List Nat} {fs : List (Nat × Tmp × Obj)} (hfs : MadeS P ops n fs) (hfp : ∀ f ∈ fs, pu.contains f.1 = false) (hsel : Region.noSelect ops = true) (hs : sinkP md ops n pu = true) (hn : n ≤ ops.size)
    (hQ : ∀ c a d u w, Q (.panic c) a w → Q (.panic c) (a.put (some d) u) w) (hQ2 : ∀ c a o u w, Q (.panic c) (a.put o u) w → Q (.panic c) a w) :
    ∀ (m : Nat) (ord : List (Nat × Bool)) (C : Nat → Prop) (listed : Array Bool) (os : List (Option Nat)) (a : Act) (w x : World), m = ord.length + pendS os → HeldS C x fs os → (∀ b, x.heap.size ≤ b → C b) → HeadInv md ops ops.size (setS fs os listed) →
      (∀ (j : Nat) (f : Nat × Tmp × Obj), fs[j]? = some f → f.1 ∈ Region.ready md ops listed) → ordGB md ops n fs ord listed = true → wpG P ops Q n pu fs C ord a w →
      Below w.heap.size w x → wpR P md ops Q n (m + (ops.size - n)) (setS fs os listed) (putS fs os a) x := by
  obtain ⟨hnd, hnk, hall⟩ := hfs
  intro m
  induction m with
  | zero =>
    intro ord C listed os a w x hm hheld hfr inv hrd hB h hb
    obtain ⟨bs, rfl⟩ := pendS_zero os (by omega)
    obtain rfl : ord = [] := List.length_eq_zero_iff.1 (by omega)
    have hlen : bs.length = fs.length := by simpa using hheld.1
    rw [setS_all fs bs listed hlen]
    have := wpR_of_seq (md := md) (n := n) (Q' := Q) (ops.toList.drop n) n (fullS fs listed) _ x (Nat.le_refl _) (fun j => by simp [List.getElem?_drop]) (by simpa [ordGB] using hB)
      (h bs x hlen (fun j b f h1 h2 => hheld.2.1 j b f (by simp [h1]) h2) (fun i j b h1 h2 => hheld.2.2 i j b (by simp [h1]) (by simp [h2])) hb)
    simpa using this
  | succ m ih =>
    intro ord C listed os a w x hm hheld hfr inv hrd hB h hb
    -- a variable comes up
    have hfire : ∀ (j : Nat) (f : Nat × Tmp × Obj), fs[j]? = some f → os[j]? = some none →
        wpOp P ops Q f.1 (fun a' w' => (f.1 < n → Below x.heap.size x w') ∧ wpR P md ops Q n (m + (ops.size - n)) ((setS fs os listed).setIfInBounds f.1 true) a' w') (putS fs os a) x := by
      intro j f hj ho
      obtain ⟨hkn, ok, hok, hd, hg, hrun⟩ := hall f (List.mem_of_getElem? hj)
      have hbelow : Below x.heap.size x (x.alloc f.2.2) := (Below.refl _ _).alloc (Nat.le_refl _) _
      have hw : Region.wanted ok (yielded ops (putS fs os a).tmps) = true := by simp [Region.wanted, hg]
      unfold wpOp
      simp only [hok, hw, if_true, Oper.wp, hrun, Oper.upon, hd]
      refine .inl ⟨fun _ => hbelow, ?_⟩
      have hrs : f.1 ∈ Region.ready md ops (setS fs os listed) := ready_S fs os listed (fun i b g h1 h2 e => by
        obtain rfl := nodup_get hnk h1 hj e.symm
        rw [ho] at h2; cases h2) (hrd j f hj)
      have hrec := ih ord C listed (os.set j (some x.heap.size)) a w (x.alloc f.2.2) (by have := pendS_fire (b := x.heap.size) os j ho; omega) ?_ (fun b hb' => hfr b (Nat.le_trans hbelow.size hb')) (by rw [setS_fire fs os listed j f hj ho]; exact inv.set hrs (Array.getElem?_eq_some_iff.1 hok).1) hrd hB h (hb.trans (hbelow.mono hb.size))
      · rwa [setS_fire fs os listed j f hj ho, putS_fire fs os a j f hj ho hnd] at hrec
      · refine ⟨by simpa using hheld.1, fun i b g h1 h2 => ?_, fun i i' b h1 h2 => ?_⟩
        · rw [List.getElem?_set] at h1
          split at h1
          · rename_i e; subst e
            split at h1
            · cases h1
              rw [hj] at h2; cases h2
              exact ⟨hfr _ (Nat.le_refl _), heap_alloc_new _ _⟩
            · cases h1
          · obtain ⟨h3, h4⟩ := hheld.2.1 i b g h1 h2
            exact ⟨h3, (hbelow.block b (lt_of_block h4)).trans h4⟩
        · have hlt : ∀ (i b : Nat), os[i]? = some (some b) → b < x.heap.size := fun i b h3 => by
            have h5 : i < fs.length := by rw [← hheld.1]; exact (List.getElem?_eq_some_iff.1 h3).1
            exact lt_of_block (hheld.2.1 i b fs[i] h3 (List.getElem?_eq_getElem h5)).2
          rw [List.getElem?_set] at h1 h2
          split at h1 <;> split at h2
          · omega
          · split at h1
            · cases h1; have := hlt _ _ h2; omega
            · cases h1
          · split at h2
            · cases h2; have := hlt _ _ h1; omega
            · cases h2
          · exact hheld.2.2 i i' b h1 h2
    -- what comes up is one of the variables, or of the others
    have hcase : ∀ j ∈ Region.ready md ops (setS fs os listed), (∃ (i : Nat) (f : Nat × Tmp × Obj), fs[i]? = some f ∧ os[i]? = some none ∧ j = f.1) ∨ ((∀ f ∈ fs, j ≠ f.1) ∧ j ∈ Region.ready md ops (fullS fs listed)) := by
      intro j hj
      by_cases hk : ∃ f ∈ fs, j = f.1
      · obtain ⟨f, hf, rfl⟩ := hk
        obtain ⟨i, hi⟩ := List.getElem?_of_mem hf
        have hlt : i < os.length := by rw [hheld.1]; exact (List.getElem?_eq_some_iff.1 hi).1
        cases ho : os[i]? with
        | none => rw [List.getElem?_eq_none_iff] at ho; omega
        | some o =>
          cases o with
          | none => exact Or.inl ⟨i, f, hi, ho, rfl⟩
          | some b =>
            have h1 := setS_fired fs os listed i f hi ho
            have h2 := (mem_ready.1 hj).1
            rw [h1] at h2; cases h2
      · have hk' : ∀ f ∈ fs, j ≠ f.1 := fun f hf e => hk ⟨f, hf, e⟩
        exact Or.inr ⟨hk', ready_full fs os listed hk' hj⟩
    have hpend : pendS os ≠ 0 → ∃ (i : Nat) (f : Nat × Tmp × Obj), fs[i]? = some f ∧ os[i]? = some none ∧ f.1 ∈ Region.ready md ops (setS fs os listed) := fun hp => by
      obtain ⟨i, ho⟩ := pendS_pos os hp
      have hlt : i < fs.length := by rw [← hheld.1]; exact (List.getElem?_eq_some_iff.1 ho).1
      refine ⟨i, fs[i], List.getElem?_eq_getElem hlt, ho, ready_S fs os listed (fun i' b g h1 h2 e => ?_) (hrd i _ (List.getElem?_eq_getElem hlt))⟩
      obtain rfl := nodup_get hnk h1 (List.getElem?_eq_getElem hlt) e.symm
      rw [ho] at h2; cases h2
    cases ord with
    | nil =>
      have hp : pendS os ≠ 0 := by simp at hm; omega
      obtain ⟨i0, f0, hf0, ho0, hr0⟩ := hpend hp
      have hB' := hB
      rw [show m + 1 + (ops.size - n) = m + (ops.size - n) + 1 by omega]
      refine ⟨fun h0 => (by rw [h0] at hr0; cases hr0), fun j hj => ?_⟩
      rcases hcase j hj with ⟨i, f, hi, ho, rfl⟩ | ⟨_, hj2⟩
      · exact hfire i f hi ho
      · rcases Nat.lt_or_ge n ops.size with hlt | hge
        · obtain ⟨k0, hk0⟩ : ∃ k0, ops.size - n = k0 + 1 := ⟨ops.size - n - 1, by omega⟩
          simp only [ordGB, hk0, Region.seqB, Bool.and_eq_true, decide_eq_true_eq] at hB'
          rw [hB'.1] at hj2
          obtain rfl : j = n := by simpa using hj2
          exact absurd hj (tail_waitsP hs (hall f0 (List.mem_of_getElem? hf0)).1 (hfp f0 (List.mem_of_getElem? hf0)) inv (mem_ready.1 hr0).1 j (Nat.le_refl _))
        · simp only [ordGB, show ops.size - n = 0 by omega, Region.seqB] at hB'
          rw [List.isEmpty_iff.1 hB'] at hj2; cases hj2
    | cons p rest =>
      obtain ⟨i, t⟩ := p
      have hB' := hB
      cases ho : ops[i]? with
      | none => simp [ordGB, ho] at hB
      | some o =>
      simp only [ordGB, Bool.and_eq_true, decide_eq_true_eq, ho] at hB'
      obtain ⟨⟨⟨⟨⟨h1, h2⟩, h3⟩, h4⟩, h5⟩, h7⟩ := hB'
      have h1 : i ∈ Region.ready md ops listed := by simpa using h1
      have h4 : ∀ f ∈ fs, i ≠ f.1 := fun f hf => by simpa using List.all_eq_true.1 h4 f hf
      have hap := apartS_out h5
      have hr' : i ∈ Region.ready md ops (setS fs os listed) := ready_S fs os listed (fun _ _ f hf _ => h4 f (List.mem_of_getElem? hf)) h1
      have hrd' : ∀ (j : Nat) (f : Nat × Tmp × Obj), fs[j]? = some f → f.1 ∈ Region.ready md ops (listed.setIfInBounds i true) := fun j f hj => ready_mono (hrd j f hj) (Ne.symm (h4 f (List.mem_of_getElem? hj)))
      rw [show m + 1 + (ops.size - n) = m + (ops.size - n) + 1 by omega]
      cases t with
      | true =>
        obtain ⟨o', v, ho', hy, h⟩ := h
        obtain rfl : o = o' := by rw [ho] at ho'; cases ho'; rfl
        simp only [if_true] at h2
        obtain ⟨e1, e2⟩ := execOp_putS (ops := ops) o (fun cs e => Region.noSelect_spec hsel i o cs e ho) fs os a (fun f hf => (hap f hf).1)
        have hy' : YieldsIf P ops (fun y => pu.contains i = true ∨ Below x.heap.size x y) o v (putS fs os a) := (YieldsIf.stayP hy (Or.inr hb)).of_same e1 e2
        have hrec := ih rest C (listed.setIfInBounds i true) os (a.put o.dst v) w x (by simp at hm; omega) hheld hfr (by rw [setS_set]; exact inv.set hr' (Array.getElem?_eq_some_iff.1 ho).1) hrd' h7 h hb
        rw [setS_set, putS_put fs os a (fun f hf => (hap f hf).2)] at hrec
        exact wpR_firstP ho (Region.noSelect_spec hsel) (fun hpu l hl hun j hj => tail_waitsP hs h3 hpu hl hun j hj) (fun c a w => hQ2 c a o.dst v w) _ _ _ x inv (free_S (Region.free_spec ho h2) fs os) hr' hy' hrec
      | false =>
        simp only [Bool.false_eq_true, if_false, decide_eq_true_eq] at h2
        refine ⟨fun h0 => (by rw [h0] at hr'; cases hr'), fun j hj => ?_⟩
        rcases hcase j hj with ⟨i', f, hi, ho', rfl⟩ | ⟨_, hj2⟩
        · exact hfire i' f hi ho'
        · rw [h2] at hj2
          obtain rfl : j = i := by simpa using hj2
          refine wpOp_putS ho (fun cs e => Region.noSelect_spec hsel j o cs e ho) hQ fs os hap (fun a' w' h' => ?_) (h x hb)
          refine ⟨fun _ => h'.1, ?_⟩
          have hrec := ih rest _ (listed.setIfInBounds j true) os a' w' w' (by simp at hm; omega) ⟨hheld.1, fun k b f hk hf => ?_, hheld.2.2⟩ (fun b hb' => ⟨hfr b (Nat.le_trans h'.1.size hb'), Or.inr hb'⟩) (by rw [setS_set]; exact inv.set hr' (Array.getElem?_eq_some_iff.1 ho).1) hrd' h7 h'.2 (Below.refl _ _)
          · rw [setS_set] at hrec; exact hrec
          · obtain ⟨h8, h9⟩ := hheld.2.1 k b f hk hf
            have hlt := lt_of_block h9
            exact ⟨⟨h8, Or.inl hlt⟩, (h'.1.block b hlt).trans h9⟩

/-- a closed fact -/
def floatsB (md : Region.Mode) (ops : Array Oper) (n : Nat) (pu : List Nat) (fs : List (Nat × Tmp × Obj)) (ord : List (Nat × Bool)) : Bool :=
  Region.noSelect ops && decide (n ≤ ops.size) && decide (ord.length + fs.length = n) && sinkP md ops n pu && (fs.all fun f => (Region.ready md ops (Array.replicate ops.size false)).contains f.1 && !pu.contains f.1) && ordGB md ops n fs ord (Array.replicate ops.size false)

theorem setS_none : ∀ (fs : List (Nat × Tmp × Obj)) (l : Array Bool), setS fs (fs.map fun _ => none) l = l
  | [], _ => rfl
  | _ :: fs, l => setS_none fs l
theorem putS_none : ∀ (fs : List (Nat × Tmp × Obj)) (a : Act), putS fs (fs.map fun _ => none) a = a
  | [], _ => rfl
  | _ :: fs, a => putS_none fs a
theorem pendS_none : ∀ (fs : List (Nat × Tmp × Obj)), pendS (fs.map fun _ => none) = fs.length
  | [] => rfl
  | f :: fs => by
    have := pendS_none fs
    unfold pendS at *
    rw [List.map_cons, List.countP_cons, this]
    rfl

/-- THE BEGINNING -/
theorem wp_region_floats {id : Nat} {a : Act} {w : World} (n : Nat) (pu : List Nat) (fs : List (Nat × Tmp × Obj)) (ord : List (Nat × Bool))
    (hm : P.follows .mixedOrders = true) (hB : floatsB .any ops n pu fs ord = true) (hfs : MadeS P ops n fs)
    (hQ : ∀ c a d u w, Q (.panic c) a w → Q (.panic c) (a.put (some d) u) w) (hQ2 : ∀ c a o u w, Q (.panic c) (a.put o u) w → Q (.panic c) a w)
    (h : wpG P ops Q n pu fs (fun b => w.heap.size ≤ b) ord a w.drew) : (Code.region id ops true).wp P Q a w := by
  simp only [floatsB, Bool.and_eq_true, decide_eq_true_eq] at hB
  obtain ⟨⟨⟨⟨⟨hsel, hn⟩, hl⟩, hs⟩, hr⟩, ho⟩ := hB
  have hr' : ∀ f ∈ fs, f.1 ∈ Region.ready .any ops (Array.replicate ops.size false) ∧ pu.contains f.1 = false := fun f hf => by
    have := List.all_eq_true.1 hr f hf
    simp only [Bool.and_eq_true, Bool.not_eq_true'] at this
    exact ⟨by simpa using this.1, this.2⟩
  have := wpR_of_G (P := P) (Q := Q) (md := .any) hfs (fun f hf => (hr' f hf).2) hsel hs hn hQ hQ2 (ord.length + fs.length) ord _ (Array.replicate ops.size false) (fs.map fun _ => none) a w.drew w.drew (by rw [pendS_none])
    ⟨by simp, fun j b f h1 _ => by rw [List.getElem?_map] at h1; cases hx : fs[j]? <;> simp [hx] at h1, fun i j b h1 _ => by rw [List.getElem?_map] at h1; cases hx : fs[i]? <;> simp [hx] at h1⟩
    (fun b hb => hb) (by rw [setS_none]; exact ⟨by simp, fun j oj _ hl => (by rw [getD_replicate_false] at hl; cases hl), fun t h1 h2 => absurd h2 (by omega)⟩) (fun j f hj => (hr' f (List.mem_of_getElem? hj)).1) ho h (Below.refl _ _)
  rw [setS_none, putS_none, hl, show n + (ops.size - n) = ops.size by omega] at this
  exact wp_region_any hm (wpAny_of_R _ _ _ _ this)

/-- an operation that merely reads -/
theorem wpG_yield {n i : Nat} {pu : List Nat} {fs : List (Nat × Tmp × Obj)} {C : Nat → Prop} {rest : List (Nat × Bool)} {o : Oper} {v : Value} {a : Act} {w : World} (hi : ops.toList[i]? = some o) (hpu : pu.contains i = false)
    (hw : Region.wanted o (yielded ops a.tmps) = true) (hy : ∀ x, Below w.heap.size w x → (execOp a.eval o).run P x = .ok (.value v) x)
    (h : wpG P ops Q n pu fs C rest (a.put o.dst v) w) : wpG P ops Q n pu fs C ((i, true) :: rest) a w :=
  ⟨o, v, by rw [← Array.getElem?_toList]; exact hi, Or.inl ⟨hw, fun x hx => hy x (hx.resolve_left (by rw [hpu]; decide))⟩, h⟩

/-- an operation that reads nothing -/
theorem wpG_pure {n i : Nat} {pu : List Nat} {fs : List (Nat × Tmp × Obj)} {C : Nat → Prop} {rest : List (Nat × Bool)} {o : Oper} {v : Value} {a : Act} {w : World} (hi : ops.toList[i]? = some o)
    (hw : Region.wanted o (yielded ops a.tmps) = true) (hy : ∀ x, (execOp a.eval o).run P x = .ok (.value v) x)
    (h : wpG P ops Q n pu fs C rest (a.put o.dst v) w) : wpG P ops Q n pu fs C ((i, true) :: rest) a w :=
  ⟨o, v, by rw [← Array.getElem?_toList]; exact hi, Or.inl ⟨hw, fun x _ => hy x⟩, h⟩

theorem wpG_skip {n i : Nat} {pu : List Nat} {fs : List (Nat × Tmp × Obj)} {C : Nat → Prop} {rest : List (Nat × Bool)} {o : Oper} {a : Act} {w : World} (hi : ops.toList[i]? = some o)
    (hw : Region.wanted o (yielded ops a.tmps) = false)
    (h : wpG P ops Q n pu fs C rest (a.put o.dst undef) w) : wpG P ops Q n pu fs C ((i, true) :: rest) a w :=
  ⟨o, undef, by rw [← Array.getElem?_toList]; exact hi, Or.inr ⟨hw, rfl⟩, h⟩

theorem wpG_step {n i : Nat} {pu : List Nat} {fs : List (Nat × Tmp × Obj)} {C : Nat → Prop} {rest : List (Nat × Bool)} {o : Oper} {a : Act} {w : World} (hi : ops.toList[i]? = some o) (hg : o.guard = none)
    (h : ∀ x, Below w.heap.size w x → ∀ K : Act → World → Prop, (∀ a' w', Below x.heap.size x w' → wpG P ops Q n pu fs (fun b => C b ∧ (b < x.heap.size ∨ w'.heap.size ≤ b)) rest a' w' → K a' w') → o.wp P a x K Q) :
    wpG P ops Q n pu fs C ((i, false) :: rest) a w := by
  have hw : Region.wanted o (yielded ops a.tmps) = true := by simp [Region.wanted, hg]
  rw [Array.getElem?_toList] at hi
  intro x hx
  unfold wpOp
  simp only [hi, hw, if_true]
  exact .inl (h x hx _ fun a' w' h1 h2 => ⟨h1, h2⟩)

/-- a call whose guard holds -/
theorem wpG_stepw {n i : Nat} {pu : List Nat} {fs : List (Nat × Tmp × Obj)} {C : Nat → Prop} {rest : List (Nat × Bool)} {o : Oper} {a : Act} {w : World} (hi : ops.toList[i]? = some o) (hw : Region.wanted o (yielded ops a.tmps) = true)
    (h : ∀ x, Below w.heap.size w x → ∀ K : Act → World → Prop, (∀ a' w', Below x.heap.size x w' → wpG P ops Q n pu fs (fun b => C b ∧ (b < x.heap.size ∨ w'.heap.size ≤ b)) rest a' w' → K a' w') → o.wp P a x K Q) :
    wpG P ops Q n pu fs C ((i, false) :: rest) a w := by
  rw [Array.getElem?_toList] at hi
  intro x hx
  unfold wpOp
  simp only [hi, hw, if_true]
  exact .inl (h x hx _ fun a' w' h1 h2 => ⟨h1, h2⟩)

theorem wpG_nil2 {n k1 k2 : Nat} {pu : List Nat} {d1 d2 : Tmp} {Z1 Z2 : Obj} {C : Nat → Prop} {a : Act} {w : World} {l : List Oper} (hl : ops.toList.drop n = l)
    (h : ∀ b1 b2 w', C b1 → C b2 → b1 ≠ b2 → Below w.heap.size w w' → w'.heap[b1]? = some Z1 → w'.heap[b2]? = some Z2 → wpList P ops Q l ((a.put (some d1) (.pointer (some ⟨b1, 0, none⟩))).put (some d2) (.pointer (some ⟨b2, 0, none⟩))) w') :
    wpG P ops Q n pu [(k1, d1, Z1), (k2, d2, Z2)] C [] a w := by
  subst hl
  intro bs w' hlen h1 h2 hb
  match bs, hlen with
  | [b1, b2], _ =>
    obtain ⟨c1, e1⟩ := h1 0 b1 _ rfl rfl
    obtain ⟨c2, e2⟩ := h1 1 b2 _ rfl rfl
    exact h b1 b2 w' c1 c2 (fun e => by have := h2 0 1 b1 rfl (by rw [e]; rfl); omega) hb e1 e2

theorem wpG_nil0 {n : Nat} {pu : List Nat} {C : Nat → Prop} {a : Act} {w : World} {l : List Oper} (hl : ops.toList.drop n = l) (h : ∀ w', Below w.heap.size w w' → wpList P ops Q l a w') : wpG P ops Q n pu [] C [] a w := by
  subst hl
  intro bs w' hlen _ _ hb
  obtain rfl : bs = [] := List.length_eq_zero_iff.1 hlen
  exact h w' hb

theorem wpG_nil1 {n k1 : Nat} {pu : List Nat} {d1 : Tmp} {Z1 : Obj} {C : Nat → Prop} {a : Act} {w : World} {l : List Oper} (hl : ops.toList.drop n = l)
    (h : ∀ b1 w', C b1 → Below w.heap.size w w' → w'.heap[b1]? = some Z1 → wpList P ops Q l (a.put (some d1) (.pointer (some ⟨b1, 0, none⟩))) w') :
    wpG P ops Q n pu [(k1, d1, Z1)] C [] a w := by
  subst hl
  intro bs w' hlen h1 h2 hb
  match bs, hlen with
  | [b1], _ =>
    obtain ⟨c1, e1⟩ := h1 0 b1 _ rfl rfl
    exact h b1 w' c1 hb e1

end
end Go.Proofs.Ytkfkdkoohnfgaaa
