/-
  DERIVED. Several texts in one: OpdE, Reads, ReadsL, OkN, RegionT, BkA, OqC.
-/
import Derived.Test.YtpicmhbjiaegpaaGreatDoorGag
import Derived.Test.YtpicmhbjiaegpaaGreatDoorGac
import Derived.Lib.Replace
import Derived.Test.YtpicmhbjiaegpaaGreatDoorGab
import Derived.Test.YtpicmhbjiaegpaaGreatDoorGah
namespace Go.Proofs.YtpicmhbjiaegpaaGreatDoor
open Go.Lib

/-! ### what a text says -/
def sigL (ss : List (List UInt8)) : List (List (List UInt8)) := (ss.map (wordsOf [])).filter fun ws => !skipL ws
def sig (t : List UInt8) : List (List (List UInt8)) := sigL (linesOf [] t)
def readS : List Opd → List (List (List UInt8)) → Option (List Opd)
  | acc, [] => some acc
  | acc, ws :: r => match readOf ws with
    | none => none
    | some x => if acc.length = 12 then none else readS (acc ++ [x]) r
def okOf : ReadE → Option (List Opd)
  | .ok l => some l
  | .no _ _ => none
theorem sigL_cons (s : List UInt8) (ss : List (List UInt8)) : sigL (s :: ss) = if skipL (wordsOf [] s) then sigL ss else wordsOf [] s :: sigL ss := by
  unfold sigL
  rw [List.map_cons, List.filter_cons]
  cases skipL (wordsOf [] s) <;> rfl
theorem readLines_sig : ∀ (ss : List (List UInt8)) (i : Nat) (acc : List Opd), okOf (readLines i acc ss) = readS acc (sigL ss)
  | [], i, acc => rfl
  | s :: ss, i, acc => by
    rw [readLines, sigL_cons]
    cases hs : skipL (wordsOf [] s)
    · rw [if_neg (by simp), if_neg (by simp), readS]
      cases readOf (wordsOf [] s) with
      | none => rfl
      | some x =>
        simp only
        split
        · rfl
        · exact readLines_sig ss _ _
    · rw [if_pos rfl, if_pos rfl]
      exact readLines_sig ss _ _
theorem okOf_some {r : ReadE} {l : List Opd} (h : okOf r = some l) : r = .ok l := by
  cases r with
  | ok m => cases h; rfl
  | no k e => cases h
theorem readT_sig {t u : List UInt8} {l : List Opd} (h : readT t = .ok l) (hs : sig u = sig t) (hu : u.length ≤ 4000) : readT u = .ok l := by
  apply okOf_some
  unfold readT at h ⊢
  rw [if_neg (by omega), readLines_sig]
  split at h
  · cases h
  · have h2 := readLines_sig (linesOf [] t) 0 []
    rw [h] at h2
    rw [show sigL (linesOf [] u) = sigL (linesOf [] t) from hs, ← h2]; rfl
theorem lines_app : ∀ (A w t : List UInt8), linesOf w (A ++ 10 :: t) = linesOf w A ++ linesOf [] t
  | [], w, t => rfl
  | b :: A, w, t => by
    rw [List.cons_append, linesOf, linesOf]
    cases hb : (b == 10)
    · rw [if_neg (by simp), if_neg (by simp)]; exact lines_app A _ t
    · rw [if_pos rfl, if_pos rfl, lines_app A [] t]; rfl
theorem sigL_append (a b : List (List UInt8)) : sigL (a ++ b) = sigL a ++ sigL b := by unfold sigL; rw [List.map_append, List.filter_append]
theorem sig_app (A t : List UInt8) : sig (A ++ 10 :: t) = sig A ++ sig t := by unfold sig; rw [lines_app, sigL_append]
theorem sig_nil : sig [] = [] := rfl
theorem sig_end (A : List UInt8) : sig (A ++ [10]) = sig A := by rw [sig_app, sig_nil, List.append_nil]

/-! ### lines with their ends -/
def afterOf : List UInt8 → List UInt8 → List (List UInt8)
  | w, [] => [w]
  | w, b :: l => if b == 10 then (w ++ [10]) :: afterOf [] l else afterOf (w ++ [b]) l
theorem after_at : ∀ (A w f : List UInt8), (∀ b ∈ A, b ≠ 10) → afterOf w (A ++ 10 :: f) = (w ++ A ++ [10]) :: afterOf [] f
  | [], w, f, _ => by rw [List.append_nil]; rfl
  | b :: A, w, f, h => by
    have hb : (b == 10) = false := beq_eq_false_iff_ne.2 (h b List.mem_cons_self)
    rw [List.cons_append, afterOf, hb, if_neg (by simp), after_at A _ f (fun d hd => h d (List.mem_cons_of_mem _ hd))]; simp
theorem after_none : ∀ (l w : List UInt8), (∀ b ∈ l, b ≠ 10) → afterOf w l = [w ++ l]
  | [], w, _ => by rw [afterOf, List.append_nil]
  | b :: l, w, h => by
    have hb : (b == 10) = false := beq_eq_false_iff_ne.2 (h b List.mem_cons_self)
    rw [afterOf, hb, if_neg (by simp), after_none l _ (fun d hd => h d (List.mem_cons_of_mem _ hd))]; simp
theorem after_flat : ∀ (l w : List UInt8), (afterOf w l).flatten = w ++ l
  | [], w => by simp [afterOf]
  | b :: l, w => by
    rw [afterOf]
    split
    · rename_i h
      rw [List.flatten_cons, after_flat l [], show b = 10 from by simpa using h]; simp
    · rw [after_flat l]; simp
theorem after_text : ∀ (l : List Opd), (∀ x ∈ l, opdOk x = true) → afterOf [] (opdsT l) = l.map (fun x => lineT x ++ [10]) ++ [[]]
  | [], _ => rfl
  | x :: l, h => by
    rw [opdsT_cons, after_at _ _ _ (line_no10 (h x List.mem_cons_self)), after_text l (fun y hy => h y (List.mem_cons_of_mem _ hy))]; rfl

def Ended (c : List UInt8) : Prop := ∃ A, c = A ++ [10]
/-- all but the last one are whole lines -/
def Chunks : List (List UInt8) → Prop
  | [] => False
  | [_] => True
  | c :: d :: L => Ended c ∧ Chunks (d :: L)
theorem sig_ended {c : List UInt8} (h : Ended c) (t : List UInt8) : sig (c ++ t) = sig c ++ sig t := by
  obtain ⟨A, rfl⟩ := h
  rw [List.append_assoc, show [10] ++ t = 10 :: t from rfl, sig_app, sig_end]
theorem chunks_sig : ∀ L : List (List UInt8), Chunks L → sig L.flatten = (L.map sig).flatten
  | [], h => h.elim
  | [c], _ => by simp
  | c :: d :: L, h => by
    rw [List.flatten_cons, sig_ended h.1, chunks_sig (d :: L) h.2]; rfl
def Like (c d : List UInt8) : Prop := sig d = sig c ∧ (Ended c → Ended d)
theorem chunks_set : ∀ (L : List (List UInt8)) (k : Nat) (c d : List UInt8), Chunks L → L[k]? = some c → Like c d → Chunks (L.set k d) ∧ (L.set k d).map sig = L.map sig
  | [], _, _, _, h, _, _ => h.elim
  | [x], k, c, d, _, hk, hl => by
    match k, hk with
    | 0, hk => cases hk; exact ⟨trivial, by simp [hl.1]⟩
    | k + 1, hk => simp at hk
  | x :: y :: L, k, c, d, h, hk, hl => by
    match k, hk with
    | 0, hk => cases hk; exact ⟨⟨hl.2 h.1, h.2⟩, by simp [hl.1]⟩
    | k + 1, hk =>
      obtain ⟨h1, h2⟩ := chunks_set (y :: L) k c d h.2 (by simpa using hk) hl
      rw [List.set_cons_succ]
      constructor
      · cases k with
        | zero => exact ⟨h.1, h1⟩
        | succ k => exact ⟨h.1, h1⟩
      · rw [List.map_cons, h2, List.map_cons, List.map_cons, List.map_cons]
theorem set_len : ∀ (L : List (List UInt8)) (k : Nat) (c d : List UInt8), L[k]? = some c → (L.set k d).flatten.length + c.length = L.flatten.length + d.length
  | [], k, c, d, h => by simp at h
  | x :: L, 0, c, d, h => by cases h; simp; omega
  | x :: L, k + 1, c, d, h => by
    have := set_len L k c d (by simpa using h)
    rw [List.set_cons_succ, List.flatten_cons, List.flatten_cons, List.length_append, List.length_append]; omega

/-! ### what may be done to a line -/
theorem lines_pre : ∀ (c w u : List UInt8), ∃ s r, linesOf w c = s :: r ∧ linesOf (u ++ w) c = (u ++ s) :: r
  | [], w, u => ⟨w, [], rfl, rfl⟩
  | b :: c, w, u => by
    cases hb : (b == 10)
    · obtain ⟨s, r, h1, h2⟩ := lines_pre c (w ++ [b]) u
      refine ⟨s, r, ?_, ?_⟩
      · rw [linesOf, hb, if_neg (by simp)]; exact h1
      · rw [linesOf, hb, if_neg (by simp), List.append_assoc]; exact h2
    · refine ⟨w, linesOf [] c, ?_, ?_⟩ <;> rw [linesOf, hb, if_pos rfl]
def repT : List UInt8 → List UInt8
  | [] => []
  | b :: l => if b == 32 then 32 :: 9 :: 32 :: repT l else b :: repT l
theorem repT_append : ∀ a b : List UInt8, repT (a ++ b) = repT a ++ repT b
  | [], b => rfl
  | x :: a, b => by
    rw [List.cons_append, repT, repT, repT_append a b]
    split <;> rfl
theorem lines_rep : ∀ (l w : List UInt8), linesOf (repT w) (repT l) = (linesOf w l).map repT
  | [], w => rfl
  | b :: l, w => by
    rw [repT]
    cases hb : (b == 32)
    · rw [if_neg (by simp), linesOf, linesOf]
      cases hn : (b == 10)
      · rw [if_neg (by simp), if_neg (by simp), show repT w ++ [b] = repT (w ++ [b]) from by rw [repT_append]; simp [repT, hb]]
        exact lines_rep l _
      · rw [if_pos rfl, if_pos rfl, List.map_cons, show linesOf [] (repT l) = (linesOf [] l).map repT from lines_rep l []]
    · have h32 : b = 32 := by simpa using hb
      subst h32
      rw [if_pos rfl]
      rw [show linesOf w (32 :: l) = linesOf (w ++ [32]) l from rfl, ← lines_rep l (w ++ [32]), repT_append]
      show linesOf (((repT w ++ [32]) ++ [9]) ++ [32]) (repT l) = _
      simp [repT]
theorem words_rep : ∀ (l w : List UInt8), wordsOf w (repT l) = wordsOf w l
  | [], w => rfl
  | b :: l, w => by
    rw [repT]
    cases hb : (b == 32)
    · rw [if_neg (by simp), wordsOf, wordsOf]; simp only [words_rep l]
    · have h32 : b = 32 := by simpa using hb
      subst h32
      rw [if_pos rfl]
      rw [wordsOf_sp (by rfl), wordsOf_sp (by rfl), wordsOf_sp (by rfl), wordsOf_sp (by rfl), words_rep l]
      simp
theorem sig_rep (l : List UInt8) : sig (repT l) = sig l := by
  unfold sig
  rw [show linesOf [] (repT l) = (linesOf [] l).map repT from lines_rep l []]
  unfold sigL
  rw [List.map_map]
  congr 1
  apply List.map_congr_left
  intro s _
  exact words_rep s []
theorem sig_pre (c : List UInt8) : sig (32 :: 9 :: c) = sig c := by
  unfold sig
  rw [show linesOf [] (32 :: 9 :: c) = linesOf ([32, 9] ++ []) c from rfl]
  obtain ⟨s, r, h1, h2⟩ := lines_pre c [] [32, 9]
  rw [h1, h2]
  unfold sigL
  rw [List.map_cons, List.map_cons, show wordsOf [] ([32, 9] ++ s) = wordsOf [] s from by rw [List.cons_append, List.cons_append, wordsOf_sp (by rfl), wordsOf_sp (by rfl)]; rfl]
/-- what OperandBack does to a line -/
def chgT : Nat → List UInt8 → List UInt8
  | 0, c => 10 :: c
  | 1, c => [35, 32, 83, 80, 79, 84] ++ [10] ++ c
  | 2, c => 32 :: 9 :: c
  | 3, c => repT c
  | _, c => [35, 10, 9, 10] ++ c
theorem ended_app (u : List UInt8) {c : List UInt8} (h : Ended c) : Ended (u ++ c) := by
  obtain ⟨A, rfl⟩ := h
  exact ⟨u ++ A, by simp⟩
theorem chg_like : ∀ (i : Nat) (c : List UInt8), Like c (chgT i c)
  | 0, c => ⟨sig_app [] c, ended_app [10]⟩
  | 1, c => ⟨(show sig ([35, 32, 83, 80, 79, 84] ++ 10 :: c) = sig c by rw [sig_app]; rfl), fun h => by unfold chgT; exact ended_app _ h⟩
  | 2, c => ⟨sig_pre c, ended_app [32, 9]⟩
  | 3, c => ⟨sig_rep c, fun ⟨A, h⟩ => ⟨repT A, by show repT c = _; rw [h, repT_append]; rfl⟩⟩
  | _ + 4, c => ⟨(show sig ([35] ++ 10 :: ([9] ++ 10 :: c)) = sig c by rw [sig_app, sig_app]; rfl), fun h => by unfold chgT; exact ended_app _ h⟩
def spN (l : List UInt8) : Nat := l.count 32
theorem rep_len : ∀ l : List UInt8, (repT l).length = l.length + 2 * spN l ∧ spN (repT l) = 2 * spN l
  | [] => ⟨rfl, rfl⟩
  | b :: l => by
    obtain ⟨h1, h2⟩ := rep_len l
    rw [repT]
    unfold spN at *
    rw [List.count_cons]
    split
    · rename_i h
      refine ⟨by simp; omega, ?_⟩
      rw [List.count_cons, List.count_cons, List.count_cons, h2]
      simp; omega
    · rename_i h
      refine ⟨by simp; omega, ?_⟩
      rw [List.count_cons, h2, if_neg h]
      omega
theorem chg_len : ∀ (i : Nat) (c : List UInt8), (chgT i c).length ≤ c.length + 2 * spN c + 7 ∧ spN (chgT i c) ≤ 2 * spN c + 1
  | 0, c => by unfold chgT spN; simp; omega
  | 1, c => by unfold chgT spN; simp; omega
  | 2, c => by unfold chgT spN; simp; omega
  | 3, c => by have := rep_len c; show (repT c).length ≤ _ ∧ spN (repT c) ≤ _; omega
  | _ + 4, c => by unfold chgT spN; simp; omega

/-- the lines so far: they say what the text says, and are not too long -/
structure Kept (t : List UInt8) (S T : Nat) (L : List (List UInt8)) : Prop where
  ch : Chunks L
  sig : sig L.flatten = sig t
  sp : ∀ c ∈ L, spN c ≤ S
  len : L.flatten.length ≤ T
theorem Kept.set {t : List UInt8} {S T : Nat} {L : List (List UInt8)} (h : Kept t S T L) {k : Nat} {c : List UInt8} (hk : L[k]? = some c) (i : Nat) : Kept t (2 * S + 1) (T + 2 * S + 7) (L.set k (chgT i c)) := by
  obtain ⟨h1, h2⟩ := chunks_set L k c _ h.ch hk (chg_like i c)
  have hc : c ∈ L := List.mem_of_getElem? hk
  have hs := h.sp c hc
  obtain ⟨l1, l2⟩ := chg_len i c
  have h3 := set_len L k c (chgT i c) hk
  have h4 := h.len
  refine ⟨h1, ?_, ?_, by omega⟩
  · rw [chunks_sig _ h1, h2, ← chunks_sig _ h.ch, h.sig]
  · intro d hd
    rcases List.mem_or_eq_of_mem_set hd with hd | rfl
    · have := h.sp d hd; omega
    · omega
theorem chunks_text : ∀ (l : List Opd), Chunks (l.map (fun x => lineT x ++ [10]) ++ [[]])
  | [] => trivial
  | [_x] => ⟨⟨_, rfl⟩, trivial⟩
  | _x :: y :: l => ⟨⟨_, rfl⟩, chunks_text (y :: l)⟩

/-! ### how long a line is -/
def costK (k : Nat) : Nat := if k ≤ 6 then 7 else 13
theorem argT_cost {a : Int} {k : Nat} (h : inR a (rangeOf k).1 (rangeOf k).2.1 = true) (h8 : 1 ≤ k ∧ k ≤ 8) : (numT a (digitsOf k)).length + 1 ≤ costK k := by
  have h12 := argT_len h
  have hb := inR_bd h
  have hk : k = 1 ∨ k = 2 ∨ k = 3 ∨ k = 4 ∨ k = 5 ∨ k = 6 ∨ k = 7 ∨ k = 8 := by omega
  rcases hk with rfl | rfl | rfl | rfl | rfl | rfl | rfl | rfl
  all_goals first
    | (exact Nat.succ_le_succ (Nat.le_trans (numT_le (k := 4) (d := 0) (abs_lt (n := 10000) (Int.lt_of_lt_of_le (by decide) hb.1) (Int.lt_of_le_of_lt hb.2 (by decide))) (by decide)) (by decide)))
    | (exact Nat.succ_le_succ h12)
theorem argTs_cost : ∀ (ks : List Nat) (us : List Int), argsOk ks us = true → (∀ k ∈ ks, 1 ≤ k ∧ k ≤ 8) → ((argTs ks us).map fun w => w.length + 1).sum ≤ (ks.map costK).sum
  | [], us, _, _ => by cases us <;> simp [argTs]
  | k :: ks, [], _, _ => by simp [argTs]
  | k :: ks, a :: us, h, hk => by
    rw [argsOk, Bool.and_eq_true] at h
    have h1 := argT_cost h.1 (hk k List.mem_cons_self)
    have h2 := argTs_cost ks us h.2 (fun x hx => hk x (List.mem_cons_of_mem _ hx))
    rw [argTs, List.map_cons, List.sum_cons, List.map_cons, List.sum_cons]
    omega
theorem tab_cost : ∀ e ∈ kindTab, e.1.length = 4 ∧ (∀ k ∈ e.2, 1 ≤ k ∧ k ≤ 8) ∧ (e.2.map costK).sum ≤ 47 := by decide
theorem kinds_mem {nm : List UInt8} {ks : List Nat} (h : kindsOf nm = some ks) : (nm, ks) ∈ kindTab := by
  unfold kindsOf at h
  obtain ⟨e, he, h2⟩ := Option.map_eq_some_iff.1 h
  have h3 := List.find?_some he
  have h4 := List.mem_of_find?_eq_some he
  obtain ⟨a, b⟩ := e
  simp only at h2 h3
  rw [← h2, ← show a = nm from by simpa using h3]
  exact h4
theorem lineT_len79 {x : Opd} (h : opdOk x = true) : (lineT x).length ≤ 78 := by
  unfold opdOk at h
  cases hk : kindsOf x.nm with
  | none => rw [hk] at h; cases h
  | some ks =>
    rw [hk] at h
    simp only [Bool.and_eq_true] at h
    obtain ⟨⟨⟨h1, h2⟩, h3⟩, h4⟩ := h
    obtain ⟨hn, hl, hc⟩ := tab_cost _ (kinds_mem hk)
    simp only at hn hl hc
    have e1 := argTs_cost ks x.ag h1 hl
    have e2 : (relT x.rel).length = 1 := by unfold relT; (repeat' split) <;> rfl
    have hb := inR_bd h3
    have e3 : (numT x.tg 6).length ≤ 16 := Nat.le_trans (numT_le (k := 8) (d := 6) (abs_lt (n := 100000000000000) (by omega) (by omega)) (by decide)) (by decide)
    have e4 : x.rel = 1 → (numT x.wt 0).length ≤ 6 := by
      intro e
      rw [if_pos e] at h4
      have hw := inR_bd h4
      exact Nat.le_trans (numT_le (k := 4) (d := 0) (abs_lt (n := 10000) (by omega) (by omega)) (by decide)) (by decide)
    refine Nat.le_trans (joinT_sum _) ?_
    unfold wordsT
    rw [hk, Option.getD_some]
    simp only [List.map_cons, List.map_append, List.sum_cons, List.sum_append]
    have e5 : ((if x.rel = 1 then [numT x.wt 0] else []).map fun w : List UInt8 => w.length + 1).sum ≤ 7 := by
      split
      · rename_i e; have := e4 e; simp; omega
      · simp
    omega
theorem opdsT_len80 : ∀ (l : List Opd), (∀ x ∈ l, opdOk x = true) → (opdsT l).length ≤ 80 * l.length
  | [], _ => by simp [opdsT]
  | x :: l, h => by
    have h1 := lineT_len79 (h x List.mem_cons_self)
    have h2 := opdsT_len80 l (fun y hy => h y (List.mem_cons_of_mem _ hy))
    rw [opdsT_cons, List.length_append, List.length_cons, List.length_cons]; omega
theorem kept_text {l : List Opd} (h : ∀ x ∈ l, opdOk x = true) : Kept (opdsT l) 80 (opdsT l).length (afterOf [] (opdsT l)) := by
  have hf := after_flat (opdsT l) []
  refine ⟨?_, by rw [hf]; rfl, ?_, by rw [hf]; exact Nat.le_refl _⟩
  · rw [after_text l h]; exact chunks_text l
  · intro c hc
    rw [after_text l h] at hc
    refine Nat.le_trans (List.count_le_length) ?_
    rcases List.mem_append.1 hc with hc | hc
    · obtain ⟨x, hx, rfl⟩ := List.mem_map.1 hc
      have := lineT_len79 (h x hx)
      simp; omega
    · simp at hc; subst hc; simp

/-! ### the library's ReplaceAll at a blank -/
theorem repT_none : ∀ l : List UInt8, (∀ b ∈ l, b ≠ 32) → repT l = l
  | [], _ => rfl
  | b :: l, h => by
    have hb : (b == 32) = false := beq_eq_false_iff_ne.2 (h b List.mem_cons_self)
    rw [repT, hb, if_neg (by simp), repT_none l (fun d hd => h d (List.mem_cons_of_mem _ hd))]
theorem replaceK_rep : ∀ (n : Nat) (l : List UInt8), l.length ≤ n → replaceK [32] [32, 9, 32] (count l [32]) l = repT l
  | n, l, hn => by
    rcases parted 32 l with h | ⟨A, f, h, rfl⟩
    · rw [count_miss (index1_none 32 l h), repT_none l h]; rfl
    · match n, hn with
      | 0, hn => simp at hn
      | n + 1, hn =>
        rw [count_at 32 h, Nat.add_comm, replaceK_hit [32] [32, 9, 32] _ _ A.length (index1_at 32 A f h), List.take_left]
        rw [show A.length + ([32] : List UInt8).length = A.length + 1 from rfl, ← List.drop_drop, List.drop_left]
        rw [show List.drop 1 (32 :: f) = f from rfl, replaceK_rep n f (by simp at hn; omega), repT_append, repT_none A h]
        simp [repT]
theorem replaceAll_rep (l : List UInt8) : replaceAll l [32] [32, 9, 32] = repT l := by
  unfold replaceAll replace replaceNum
  rw [if_neg (by decide), if_pos (Or.inl (by decide)), replaceK_rep l.length l (Nat.le_refl _)]

/-! ### a line that is no operand -/
theorem take_text {l : List Opd} (h : ∀ x ∈ l, opdOk x = true) {k : Nat} (hk : k ≤ l.length) : ((afterOf [] (opdsT l)).take k).flatten = opdsT (l.take k) := by
  rw [after_text l h, List.take_append_of_le_length (by simpa using hk), ← List.map_take]; rfl
theorem stop_at {l : List Opd} (h : opdsOk l = true) (h5 : ∀ x ∈ l, x.ag.length = 5) (k : Nat) (bad t : List UInt8) (hb : ∀ b ∈ bad, b ≠ 10) (hs : skipL (wordsOf [] bad) = false) (hr : readOf (wordsOf [] bad) = none) (hk : k ≤ l.length) (hl : (opdsT (l.take k) ++ (bad ++ 10 :: t)).length ≤ 4000) :
    readT (opdsT (l.take k) ++ (bad ++ 10 :: t)) = .no k 5 := by
  obtain ⟨h1, h2⟩ := opdsOk_all h
  have hok : opdsOk (l.take k) = true := by
    unfold opdsOk
    rw [decide_eq_true (by rw [List.length_take]; omega), List.all_eq_true.2 (fun x hx => h2 x (List.mem_of_mem_take hx))]; rfl
  rw [readT_more hok (fun x hx => h5 x (List.mem_of_mem_take hx)) _ hl, linesOf_at _ _ _ hb, List.nil_append, readLines, hs, if_neg (by simp), hr]
  simp only
  rw [List.length_take, Nat.min_eq_left hk]
end Go.Proofs.YtpicmhbjiaegpaaGreatDoor

namespace Go.Proofs.YtpicmhbjiaegpaaGreatDoor
open Go.RowKit

section
variable {B : Nat} {P : Program} {ops : Array Oper} {Q : Exit → Act → World → Prop} {md : Region.Mode}

/-- a read is taken first -/
theorem wpR_firstK {i : Nat} {oi : Oper} {v : Value} (hi : ops[i]? = some oi) (hsel : ∀ (j : Nat) (o : Oper) cs b, ops[j]? = some o → o.op ≠ .select cs b)
    (hQ : ∀ c a w, Q (.panic c) (a.put oi.dst v) w → Q (.panic c) a w) :
    ∀ (fuel : Nat) (listed : Array Bool) (a : Act) (w : World),
      (∀ j oj, ops[j]? = some oj → j ≠ i → listed.getD j true = false → (∀ e ∈ oj.after, Region.binds md e = true → e.on ≠ i) → oi.apart ops oj = true) →
      i ∈ Region.ready md ops listed → YieldsIf P ops (fun x => Below B w x) oi v a →
      wpRB B P md ops Q ops.size fuel (listed.setIfInBounds i true) (a.put oi.dst v) w → wpRB B P md ops Q ops.size (fuel + 1) listed a w := by
  intro fuel
  induction fuel with
  | zero =>
    intro listed a w _ hr hy H
    refine ⟨fun h => (by rw [h] at hr; cases hr), fun j hj => ?_⟩
    by_cases hji : j = i
    · subst hji; exact hy.wpOp hi (Below.refl _ _) ⟨fun _ => Below.refl _ _, H⟩
    · have := ready_mono hj hji
      rw [H.1] at this
      cases this
  | succ fuel ih =>
    intro listed a w hfree hr hy H
    have hun := (mem_ready.1 hr).1
    refine ⟨fun h => (by rw [h] at hr; cases hr), fun j hj => ?_⟩
    by_cases hji : j = i
    · subst hji; exact hy.wpOp hi (Below.refl _ _) ⟨fun _ => Below.refl _ _, H⟩
    · have h1 := H.2 j (ready_mono hj hji)
      obtain ⟨hjun, oj, hoj, hall⟩ := mem_ready.1 hj
      have hjn : j < ops.size := (Array.getElem?_eq_some_iff.1 hoj).1
      have hnot : ∀ e ∈ oj.after, Region.binds md e = true → e.on ≠ i := fun e he hb heq => by
        have h1 := hall e he hb
        rw [heq, getD_both hun] at h1
        cases h1
      have h2 := wpOp_putIf hoj (hfree j oj hoj hji hjun hnot) (fun cs b => hsel i oi cs b hi) (fun cs b => hsel j oj cs b hoj) hQ hy h1
      have hfree' : ∀ k ok, ops[k]? = some ok → k ≠ i → (listed.setIfInBounds j true).getD k true = false →
          (∀ e ∈ ok.after, Region.binds md e = true → e.on ≠ i) → oi.apart ops ok = true := fun k ok hk hki hun hno => by
        refine hfree k ok hk hki ?_ hno
        by_cases hjk : j = k
        · subst hjk; exact hjun
        · rw [getD_set_ne true hjk] at hun; exact hun
      refine wpOp_mono (fun a' w' h3 => ⟨h3.2.1, ih (listed.setIfInBounds j true) a' w' hfree' (ready_mono hr (Ne.symm hji)) (YieldsIf.stayB h3.1 (h3.2.1 hjn)) ?_⟩) h2
      rw [Array.setIfInBounds_comm _ _ hji]
      exact h3.2.2

/-- the reads, and then any order; what lies below B stays -/
def wpRd (B : Nat) (P : Program) (ops : Array Oper) (Q : Exit → Act → World → Prop) : List Nat → Nat → Array Bool → Act → World → Prop
  | [], m, listed, a, w => wpRB B P .any ops Q ops.size m listed a w
  | i :: rest, m, listed, a, w => ∃ o v, ops[i]? = some o ∧ YieldsIf P ops (fun x => Below B w x) o v a ∧ wpRd B P ops Q rest m (listed.setIfInBounds i true) (a.put o.dst v) w

def readsB (ops : Array Oper) : List Nat → Array Bool → Bool
  | [], _ => true
  | i :: rest, listed => (Region.ready .any ops listed).contains i && Region.free .any ops listed i && readsB ops rest (listed.setIfInBounds i true)

theorem wpR_of_reads (hsel : Region.noSelect ops = true) (hQ2 : ∀ c a o u w, Q (.panic c) (a.put o u) w → Q (.panic c) a w) :
    ∀ (is : List Nat) (m : Nat) (listed : Array Bool) (a : Act) (w : World), readsB ops is listed = true → wpRd B P ops Q is m listed a w → wpRB B P .any ops Q ops.size (is.length + m) listed a w
  | [], m, listed, a, w, _, h => by rw [List.length_nil, Nat.zero_add]; exact h
  | i :: is, m, listed, a, w, hB, h => by
    simp only [readsB, Bool.and_eq_true] at hB
    obtain ⟨⟨h1, h2⟩, h3⟩ := hB
    obtain ⟨o, v, ho, hy, h⟩ := h
    have h1 : i ∈ Region.ready .any ops listed := by simpa using h1
    have hrec := wpR_of_reads hsel hQ2 is m (listed.setIfInBounds i true) (a.put o.dst v) w h3 h
    rw [show (i :: is).length + m = (is.length + m) + 1 by rw [List.length_cons]; omega]
    exact wpR_firstK ho (Region.noSelect_spec hsel) (fun c a w => hQ2 c a o.dst v w) _ _ _ w (Region.free_spec ho h2) h1 hy hrec

/-- THE BEGINNING -/
theorem wp_region_reads {id : Nat} {a : Act} {w : World} (B : Nat) (is : List Nat) (m : Nat)
    (hm : P.follows .mixedOrders = true) (hsz : ops.size = is.length + m) (hsel : Region.noSelect ops = true) (hB : readsB ops is (Array.replicate ops.size false) = true)
    (hQ2 : ∀ c a o u w, Q (.panic c) (a.put o u) w → Q (.panic c) a w)
    (h : wpRd B P ops Q is m (Array.replicate ops.size false) a w.drew) : (Code.region id ops true).wp P Q a w := by
  have := wpR_of_reads hsel hQ2 is m (Array.replicate ops.size false) a w.drew hB h
  rw [← hsz] at this
  exact wp_region_any hm (wpAny_of_RB _ _ _ _ this)

theorem wpRd_yield {i m : Nat} {rest : List Nat} {o : Oper} {v : Value} {listed : Array Bool} {a : Act} {w : World} (hi : ops.toList[i]? = some o)
    (hw : Region.wanted o (yielded ops a.tmps) = true) (hy : ∀ x, Below B w x → (execOp a.eval o).run P x = .ok (.value v) x)
    (h : wpRd B P ops Q rest m (listed.setIfInBounds i true) (a.put o.dst v) w) : wpRd B P ops Q (i :: rest) m listed a w :=
  ⟨o, v, by rw [← Array.getElem?_toList]; exact hi, Or.inl ⟨hw, hy⟩, h⟩

theorem wpRd_nil {m : Nat} {listed : Array Bool} {a : Act} {w : World} (h : wpRB B P .any ops Q ops.size m listed a w) : wpRd B P ops Q [] m listed a w := h

/-- one comes up alone -/
theorem wpR_one {n fuel i : Nat} {o : Oper} {listed : Array Bool} {a : Act} {w : World} (hr : Region.ready md ops listed = [i]) (hi : ops.toList[i]? = some o) (hg : o.guard = none)
    (h : ∀ K : Act → World → Prop, (∀ a' w', Below B w w' → wpRB B P md ops Q n fuel (listed.setIfInBounds i true) a' w' → K a' w') → o.wp P a w K Q) : wpRB B P md ops Q n (fuel + 1) listed a w := by
  have hw : Region.wanted o (yielded ops a.tmps) = true := by simp [Region.wanted, hg]
  rw [Array.getElem?_toList] at hi
  refine ⟨fun h0 => (by rw [hr] at h0; cases h0), fun j hj => ?_⟩
  rw [hr] at hj
  obtain rfl : j = i := by simpa using hj
  unfold wpOp
  simp only [hi, hw, if_true]
  exact .inl (h _ fun a' w' h1 h2 => ⟨fun _ => h1, h2⟩)

/-- one of two comes up -/
theorem wpR_two {n fuel i j : Nat} {o o' : Oper} {listed : Array Bool} {a : Act} {w : World} (hr : Region.ready md ops listed = [i, j]) (hi : ops.toList[i]? = some o) (hj : ops.toList[j]? = some o') (hg : o.guard = none) (hg' : o'.guard = none)
    (h : ∀ K : Act → World → Prop, (∀ a' w', Below B w w' → wpRB B P md ops Q n fuel (listed.setIfInBounds i true) a' w' → K a' w') → o.wp P a w K Q)
    (h' : ∀ K : Act → World → Prop, (∀ a' w', Below B w w' → wpRB B P md ops Q n fuel (listed.setIfInBounds j true) a' w' → K a' w') → o'.wp P a w K Q) : wpRB B P md ops Q n (fuel + 1) listed a w := by
  have hw : Region.wanted o (yielded ops a.tmps) = true := by simp [Region.wanted, hg]
  have hw' : Region.wanted o' (yielded ops a.tmps) = true := by simp [Region.wanted, hg']
  rw [Array.getElem?_toList] at hi hj
  refine ⟨fun h0 => (by rw [hr] at h0; cases h0), fun k hk => ?_⟩
  rw [hr] at hk
  simp only [List.mem_cons, List.not_mem_nil, or_false] at hk
  rcases hk with rfl | rfl
  · unfold wpOp
    simp only [hi, hw, if_true]
    exact .inl (h _ fun a' w' h1 h2 => ⟨fun _ => h1, h2⟩)
  · unfold wpOp
    simp only [hj, hw', if_true]
    exact .inl (h' _ fun a' w' h1 h2 => ⟨fun _ => h1, h2⟩)

theorem put_comm {d1 d2 : Tmp} (h : d1 ≠ d2) (u v : Value) (a : Act) : (a.put (some d2) u).put (some d1) v = (a.put (some d1) v).put (some d2) u := by
  simp only [Act.put]
  rw [Array.setIfInBounds_comm _ _ (Ne.symm h)]

/-- two variables are made, in either order -/
theorem wpR_allocs {n fuel i j : Nat} {d1 d2 : Tmp} {Z1 Z2 : Obj} {o o' : Oper} {listed : Array Bool} {a : Act} {w : World} (hij : i ≠ j) (hr : Region.ready md ops listed = [i, j]) (hri : Region.ready md ops (listed.setIfInBounds i true) = [j]) (hrj : Region.ready md ops (listed.setIfInBounds j true) = [i])
    (hi : ops.toList[i]? = some o) (hj : ops.toList[j]? = some o') (hg : o.guard = none) (hg' : o'.guard = none) (hd : o.dst = some d1) (hd' : o'.dst = some d2) (hne : d1 ≠ d2)
    (hBw : B ≤ w.heap.size) (run : ∀ (a : Act) (w : World), (execOp a.eval o).run P w = .ok (.value (.pointer (some ⟨w.heap.size, 0, none⟩))) (w.alloc Z1)) (run' : ∀ (a : Act) (w : World), (execOp a.eval o').run P w = .ok (.value (.pointer (some ⟨w.heap.size, 0, none⟩))) (w.alloc Z2))
    (h : ∀ (b1 b2 : Nat) (w' : World), w.heap.size ≤ b1 → w.heap.size ≤ b2 → b1 ≠ b2 → w'.heap[b1]? = some Z1 → w'.heap[b2]? = some Z2 → Below w.heap.size w w' →
      wpRB B P md ops Q n fuel ((listed.setIfInBounds i true).setIfInBounds j true) ((a.put (some d1) (.pointer (some ⟨b1, 0, none⟩))).put (some d2) (.pointer (some ⟨b2, 0, none⟩))) w') : wpRB B P md ops Q n (fuel + 1 + 1) listed a w := by
  have hb : ∀ (x : World) (Z : Obj), Below x.heap.size x (x.alloc Z) := fun x Z => (Below.refl _ _).alloc (Nat.le_refl _) _
  have hB : ∀ (x : World) (Z : Obj), w.heap.size ≤ x.heap.size → Below B x (x.alloc Z) := fun x Z hx => (Below.refl _ _).alloc (Nat.le_trans hBw hx) _
  refine wpR_two hr hi hj hg hg' (fun K hK => ?_) (fun K hK => ?_)
  · unfold Oper.wp
    simp only [run, Oper.upon, hd]
    refine hK _ _ (hB _ _ (Nat.le_refl _)) (wpR_one hri hj hg' (fun K hK => ?_))
    unfold Oper.wp
    simp only [run', Oper.upon, hd']
    refine hK _ _ (hB _ _ (by simp)) ?_
    exact h w.heap.size (w.alloc Z1).heap.size _ (Nat.le_refl _) (by simp) (by simp) (((hb (w.alloc Z1) Z2).block w.heap.size (by simp)).trans (heap_alloc_new w Z1)) (heap_alloc_new _ Z2) ((hb w Z1).trans ((hb (w.alloc Z1) Z2).mono (by simp)))
  · unfold Oper.wp
    simp only [run', Oper.upon, hd']
    refine hK _ _ (hB _ _ (Nat.le_refl _)) (wpR_one hrj hi hg (fun K hK => ?_))
    unfold Oper.wp
    simp only [run, Oper.upon, hd]
    refine hK _ _ (hB _ _ (by simp)) ?_
    rw [put_comm hne, Array.setIfInBounds_comm _ _ (Ne.symm hij)]
    exact h (w.alloc Z2).heap.size w.heap.size _ (by simp) (Nat.le_refl _) (by simp) (heap_alloc_new _ Z1) (((hb (w.alloc Z2) Z1).block w.heap.size (by simp)).trans (heap_alloc_new w Z2)) ((hb w Z2).trans ((hb (w.alloc Z2) Z1).mono (by simp)))

theorem wpR_end {n : Nat} {listed : Array Bool} {a : Act} {w : World} (hr : Region.ready md ops listed = []) (h : Q .normal a w) : wpRB B P md ops Q n 0 listed a w := ⟨hr, h⟩

end
end Go.Proofs.YtpicmhbjiaegpaaGreatDoor

namespace Go.Proofs.YtpicmhbjiaegpaaGreatDoor
open Go.RowKit

/-- where the operation went well, K; else Q -/
def onN (K : Act → World → Prop) (Q : Exit → Act → World → Prop) : Exit → Act → World → Prop
  | .normal => K
  | e => Q e

section
variable {P : Program} {ops : Array Oper} {Q : Exit → Act → World → Prop} {md : Region.Mode} {B : Nat}

theorem upon_onN (o : Oper) (a : Act) (K : Act → World → Prop) (r : Result Next) (h : o.upon P a K (onN K Q) r) : o.upon P a K Q r := by
  match r with
  | .ok (.value v) w' => exact h
  | .ok .skip w' => exact h
  | .ok (.defer d) w' => exact h
  | .ok (.enter f args) w' => exact Calls.mono (by exact h) (fun e w' he => by cases e <;> exact he)
  | .ok (.row row args) w' => exact h
  | .halt (.panic v) w' => exact h

theorem wp_of_list {o : Oper} {a : Act} {w : World} {K : Act → World → Prop} (hg : o.guard = none) (h : wpList P ops (onN K Q) [o] a w) : o.wp P a w K Q ∨ (o.asks P a w ∧ LetsOut Q) := by
  have hw : Region.wanted o (yielded ops a.tmps) = true := by simp [Region.wanted, hg]
  unfold wpList at h
  rw [if_pos hw] at h
  rcases h with h | h
  · exact Or.inl (upon_onN o a K _ h)
  · exact Or.inr h

theorem wpR_oneL {n fuel i : Nat} {o : Oper} {listed : Array Bool} {a : Act} {w : World} (hr : Region.ready md ops listed = [i]) (hi : ops.toList[i]? = some o) (hg : o.guard = none)
    (h : ∀ K : Act → World → Prop, (∀ a' w', Below B w w' → wpRB B P md ops Q n fuel (listed.setIfInBounds i true) a' w' → K a' w') → wpList P ops (onN K Q) [o] a w) : wpRB B P md ops Q n (fuel + 1) listed a w := by
  have hw : Region.wanted o (yielded ops a.tmps) = true := by simp [Region.wanted, hg]
  rw [Array.getElem?_toList] at hi
  refine ⟨fun h0 => (by rw [hr] at h0; cases h0), fun j hj => ?_⟩
  rw [hr] at hj
  obtain rfl : j = i := by simpa using hj
  unfold wpOp
  simp only [hi, hw, if_true]
  exact wp_of_list hg (h _ fun a' w' h1 h2 => ⟨fun _ => h1, h2⟩)

theorem wpR_twoL {n fuel i j : Nat} {o o' : Oper} {listed : Array Bool} {a : Act} {w : World} (hr : Region.ready md ops listed = [i, j]) (hi : ops.toList[i]? = some o) (hj : ops.toList[j]? = some o') (hg : o.guard = none) (hg' : o'.guard = none)
    (h : ∀ K : Act → World → Prop, (∀ a' w', Below B w w' → wpRB B P md ops Q n fuel (listed.setIfInBounds i true) a' w' → K a' w') → wpList P ops (onN K Q) [o] a w)
    (h' : ∀ K : Act → World → Prop, (∀ a' w', Below B w w' → wpRB B P md ops Q n fuel (listed.setIfInBounds j true) a' w' → K a' w') → wpList P ops (onN K Q) [o'] a w) : wpRB B P md ops Q n (fuel + 1) listed a w := by
  have hw : Region.wanted o (yielded ops a.tmps) = true := by simp [Region.wanted, hg]
  have hw' : Region.wanted o' (yielded ops a.tmps) = true := by simp [Region.wanted, hg']
  rw [Array.getElem?_toList] at hi hj
  refine ⟨fun h0 => (by rw [hr] at h0; cases h0), fun k hk => ?_⟩
  rw [hr] at hk
  simp only [List.mem_cons, List.not_mem_nil, or_false] at hk
  rcases hk with rfl | rfl
  · unfold wpOp
    simp only [hi, hw, if_true]
    exact wp_of_list hg (h _ fun a' w' h1 h2 => ⟨fun _ => h1, h2⟩)
  · unfold wpOp
    simp only [hj, hw', if_true]
    exact wp_of_list hg' (h' _ fun a' w' h1 h2 => ⟨fun _ => h1, h2⟩)

/-- a slice of given values is made -/
theorem wpList_lit {rest : List Oper} {o : Oper} {a : Act} {w : World} (hg : o.guard = none) (v : Value) (Z : Obj) (hrun : (execOp a.eval o).run P w = .ok (.value v) (w.alloc Z)) (h : wpList P ops Q rest (a.put o.dst v) (w.alloc Z)) : wpList P ops Q (o :: rest) a w := by
  have hw : Region.wanted o (yielded ops a.tmps) = true := by simp [Region.wanted, hg]
  unfold wpList
  rw [if_pos hw]
  refine Or.inl ?_
  unfold Oper.wp
  rw [hrun]
  exact h
end
end Go.Proofs.YtpicmhbjiaegpaaGreatDoor

namespace Go.Proofs.YtpicmhbjiaegpaaGreatDoor
open Go.RowKit

section
variable {P : Program} {ops : Array Oper} {Q : Exit → Act → World → Prop} {B : Nat}
theorem wpR_more {fuel : Nat} (is : List Nat) (m : Nat) {listed : Array Bool} {a : Act} {w : World} (hf : fuel = is.length + m) (hsel : Region.noSelect ops = true) (hB : readsB ops is listed = true)
    (hQ2 : ∀ c a o u w, Q (.panic c) (a.put o u) w → Q (.panic c) a w) (h : wpRd B P ops Q is m listed a w) : wpRB B P .any ops Q ops.size fuel listed a w := by
  subst hf; exact wpR_of_reads hsel hQ2 is m listed a w hB h
end

theorem split_after : ∀ (n : Nat) (l : List UInt8), l.length ≤ n → Lib.splitK [10] 1 (Lib.count l [10]) l = afterOf [] l
  | n, l, hn => by
    rcases parted 10 l with h | ⟨A, f, h, rfl⟩
    · rw [Lib.count_miss (index1_none 10 l h), after_none l _ h]; rfl
    · match n, hn with
      | 0, hn => simp at hn
      | n + 1, hn =>
        have hm : ((A.length : Int) == -1) = false := by rw [beq_eq_false_iff_ne]; omega
        rw [count_at 10 h, Nat.add_comm, Lib.splitK, index1_at 10 A f h, hm, if_neg (by simp), after_at A _ f h, Int.toNat_natCast]
        rw [show (A ++ 10 :: f).take (A.length + 1) = A ++ [10] by rw [List.take_append, List.take_of_length_le (Nat.le_succ _), Nat.add_sub_cancel_left]; rfl]
        rw [show A.length + ([10] : List UInt8).length = A.length + 1 from rfl, ← List.drop_drop, List.drop_left]
        rw [show List.drop 1 (10 :: f) = f from rfl, split_after n f (by simp at hn; omega)]; rfl
theorem splitB_after (l : List UInt8) : (Lib.splitB (bs [10]) 1 (Lib.countB (bs l) (bs [10])) (bs l)) = (afterOf [] l).map bs := by
  have h := Lib.splitB_data (bs [10]) 1 (Lib.countB (bs l) (bs [10])) (bs l)
  rw [show Lib.countB (bs l) (bs [10]) = Lib.count l [10] from rfl] at h ⊢
  rw [show (bs [10]).data.toList = [10] from rfl, show (bs l).data.toList = l from rfl, split_after l.length l (Nat.le_refl _)] at h
  rw [← h, List.map_map]
  exact (List.map_id'' (fun x => rfl) _).symm
theorem count_after : ∀ (n : Nat) (l : List UInt8), l.length ≤ n → (afterOf [] l).length = Lib.count l [10] + 1
  | n, l, hn => by
    rcases parted 10 l with h | ⟨A, f, h, rfl⟩
    · rw [Lib.count_miss (index1_none 10 l h), after_none l _ h]; rfl
    · match n, hn with
      | 0, hn => simp at hn
      | n + 1, hn => rw [count_at 10 h, after_at A _ f h, List.length_cons, count_after n f (by simp at hn; omega)]; omega
theorem count_le1 (c : UInt8) : ∀ (n : Nat) (l : List UInt8), l.length ≤ n → Lib.count l [c] ≤ l.length
  | n, l, hn => by
    rcases parted c l with h | ⟨A, f, h, rfl⟩
    · rw [Lib.count_miss (index1_none c l h)]; omega
    · match n, hn with
      | 0, hn => simp at hn
      | n + 1, hn =>
        have := count_le1 c n f (by simp at hn; omega)
        rw [count_at c h, List.length_append, List.length_cons]; omega
set_option maxHeartbeats 800000 in
theorem splitAfter_any (l : List UInt8) (w : World) (hg : GW w) (hl : l.length ≤ 1000000) : Calls Tryz.prog 28 #[.string (bs l), .string (bs [10])] w fun e w' =>
    e = .returned (.slice (some ⟨w.heap.size, 0, none⟩) (afterOf [] l).length (afterOf [] l).length) ∧ w' = w.alloc (.cells (strCs (afterOf [] l)).toArray 9) := by
  obtain ⟨m, hm⟩ := hg.m
  have hcl := count_le1 10 l.length l (Nat.le_refl _)
  have hca := count_after l.length l (Nat.le_refl _)
  go_enter Tryz.func28, Tryz.ntmps28
  go_wp2_with fail
  refine (Tryz.strings_genSplit (bs l) (bs [10]) 1 (-1) (Lib.count l [10] + 1) m w (by rw [size_of_bs]; omega) hm (by decide) (by decide) (by decide) (by decide) (by rw [size_of_bs, if_pos (by decide), show Lib.countB (bs l) (bs [10]) = Lib.count l [10] from rfl]; omega)).mono ?_
  rintro e w' ⟨rfl, rfl⟩
  have h1 := splitB_after l
  rw [show Lib.countB (bs l) (bs [10]) = Lib.count l [10] from rfl] at h1
  rw [Nat.add_sub_cancel, h1, List.length_map, ← hca]
  have h2 : Lib.cellsOf ((afterOf [] l).map bs) (afterOf [] l).length = (strCs (afterOf [] l)).toArray := by
    unfold Lib.cellsOf
    rw [List.length_map, Nat.sub_self, List.replicate_zero, List.append_nil, List.map_map]; rfl
  rw [h2]
  go_wp2_with fail
  go_ret
  exact ⟨by rw [hca]; rfl, rfl⟩
theorem replaceSp_any (l : List UInt8) (w : World) (hg : GW w) (hl : l.length ≤ 1000000) : Calls Tryz.prog 29 #[.string (bs l), .string { data := #[32] }, .string { data := #[32, 9, 32] }] w (RetB w (.string (bs (repT l)))) := by
  obtain ⟨m, hm⟩ := hg.m
  have hcl := count_le1 32 l.length l (Nat.le_refl _)
  refine (Tryz.strings_ReplaceAll (bs l) (bs [32]) (bs [32, 9, 32]) m w (by rw [size_of_bs]; omega) hm (by decide) (by rw [size_of_bs, size_of_bs, show Lib.countB (bs l) (bs [32]) = Lib.count l [32] from rfl]; simp; omega)).mono ?_
  rintro e w' ⟨rfl, hb⟩
  refine ⟨?_, hb⟩
  show Ending.returned (.string (bs (Lib.replaceAll l [32] [32, 9, 32]))) = _
  rw [replaceAll_rep]
theorem join_flat : ∀ l : List (List UInt8), Lib.join l [] = l.flatten
  | [] => rfl
  | [x] => by simp [Lib.join]
  | x :: y :: l => by
    have := join_flat (y :: l)
    rw [List.flatten_cons, ← this]; simp [Lib.join]
theorem joinFlat_any (L : List (List UInt8)) (b c : Nat) (w : World) (hc : w.heap[b]? = some (.cells (strCs L).toArray 9)) (hn : L.length ≤ c) (hL : L.length ≤ 1000000) (hl : L.flatten.length ≤ 1000000) :
    Calls Tryz.prog 30 #[.slice (some ⟨b, 0, none⟩) L.length c, .string { data := #[] }] w (RetB w (.string (bs L.flatten))) := by
  have hcells : ∀ (j : Nat) x, (L.map bs)[j]? = some x → w.cell? ⟨b, 0 + j, none⟩ = some (.string x) := by
    intro j x hx
    rw [List.getElem?_map] at hx
    obtain ⟨y, hy, rfl⟩ := Option.map_eq_some_iff.1 hx
    rw [Nat.zero_add, obj_cell hc j, List.getElem?_toArray]
    unfold strCs
    rw [List.getElem?_map, hy]; rfl
  have hmm : (L.map bs).map (·.data.toList) = L := by rw [List.map_map]; exact List.map_id'' (fun x => rfl) _
  have key := Tryz.strings_Join b 0 c (L.map bs) { data := #[] } w hcells (lt_of_block hc) (by rw [List.length_map]; omega) (by rw [List.length_map]; omega) (by rw [hmm]; show (Lib.join L []).length ≤ _; rw [join_flat]; omega)
  rw [List.length_map, hmm] at key
  refine key.mono ?_
  rintro e w' ⟨rfl, hb⟩
  refine ⟨?_, hb⟩
  show Ending.returned (.string (bs (Lib.join L []))) = _
  rw [join_flat]
end Go.Proofs.YtpicmhbjiaegpaaGreatDoor

namespace Go.Proofs.YtpicmhbjiaegpaaGreatDoor
open Go.RowKit

variable {B : Nat} {P : Program} {ops : Array Oper} {Q : Exit → Act → World → Prop}
def wpT (B : Nat) (P : Program) (ops : Array Oper) (Q : Exit → Act → World → Prop) (n fuel : Nat) (listed : Array Bool) (a : Act) (w : World) : Prop :=
  HeadInv .any ops n listed → wpRB B P .any ops Q n fuel listed a w
def wpRdT (B : Nat) (P : Program) (ops : Array Oper) (Q : Exit → Act → World → Prop) (n : Nat) : List Nat → Nat → Array Bool → Act → World → Prop
  | [], m, listed, a, w => wpT B P ops Q n m listed a w
  | i :: rest, m, listed, a, w => ∃ o v, ops[i]? = some o ∧ YieldsIf P ops (fun x => Below B w x) o v a ∧ wpRdT B P ops Q n rest m (listed.setIfInBounds i true) (a.put o.dst v) w
def headB (ops : Array Oper) (n : Nat) : Bool := Region.noSelect ops && Region.sinkB .any ops n && Region.chainB .any ops n && decide (n < ops.size)

theorem wpT_begin {id : Nat} {a : Act} {w : World} (B n : Nat) (hm : P.follows .mixedOrders = true) (h : wpT B P ops Q n ops.size (Array.replicate ops.size false) a w.drew) : (Code.region id ops true).wp P Q a w := by
  have inv0 : HeadInv .any ops n (Array.replicate ops.size false) :=
    ⟨by simp, fun j oj _ hl => (by rw [getD_replicate_false] at hl; cases hl), fun t _ ht => getD_in (by simpa using ht) (getD_replicate_false _ _)⟩
  exact wp_region_any hm (wpAny_of_RB _ _ _ _ (h inv0))

theorem wpT_reads {n : Nat} (hh : headB ops n = true) (hQ2 : ∀ c a o u w, Q (.panic c) (a.put o u) w → Q (.panic c) a w) :
    ∀ (is : List Nat) (m fuel : Nat) (listed : Array Bool) (a : Act) (w : World), fuel = is.length + m → is.all (fun i => decide (i < n)) = true → readsB ops is listed = true → wpRdT B P ops Q n is m listed a w → wpT B P ops Q n fuel listed a w
  | [], m, fuel, listed, a, w, hf, _, _, h => by
    subst hf
    rw [List.length_nil, Nat.zero_add]; exact h
  | i :: is, m, fuel, listed, a, w, hf, hi, hB, h => by
    subst hf
    simp only [headB, Bool.and_eq_true, decide_eq_true_eq] at hh
    obtain ⟨⟨⟨hsel, hs⟩, hc⟩, hn⟩ := hh
    simp only [readsB, Bool.and_eq_true] at hB
    obtain ⟨⟨h1, h2⟩, h3⟩ := hB
    simp only [List.all_cons, Bool.and_eq_true, decide_eq_true_eq] at hi
    obtain ⟨o, v, ho, hy, h⟩ := h
    have hr : i ∈ Region.ready .any ops listed := by simpa using h1
    intro inv
    have hrec := wpT_reads (n := n) (by simp only [headB, Bool.and_eq_true, decide_eq_true_eq]; exact ⟨⟨⟨hsel, hs⟩, hc⟩, hn⟩) hQ2 is m _ (listed.setIfInBounds i true) (a.put o.dst v) w rfl hi.2 h3 h (inv.set hr hi.1)
    rw [show (i :: is).length + m = (is.length + m) + 1 by rw [List.length_cons]; omega]
    exact wpR_firstB ho (Region.noSelect_spec hsel) hs hc hn hi.1 (fun c a w => hQ2 c a o.dst v w) _ listed a w inv (Region.free_spec ho h2) hr hy hrec

theorem wpRdT_yield {n i m : Nat} {rest : List Nat} {o : Oper} {v : Value} {listed : Array Bool} {a : Act} {w : World} (hi : ops.toList[i]? = some o)
    (hw : Region.wanted o (yielded ops a.tmps) = true) (hy : ∀ x, Below B w x → (execOp a.eval o).run P x = .ok (.value v) x)
    (h : wpRdT B P ops Q n rest m (listed.setIfInBounds i true) (a.put o.dst v) w) : wpRdT B P ops Q n (i :: rest) m listed a w :=
  ⟨o, v, by rw [← Array.getElem?_toList]; exact hi, Or.inl ⟨hw, hy⟩, h⟩
theorem wpRdT_nil {n m : Nat} {listed : Array Bool} {a : Act} {w : World} (h : wpT B P ops Q n m listed a w) : wpRdT B P ops Q n [] m listed a w := h

/-- one comes up alone -/
theorem wpT_one {n fuel i : Nat} {o : Oper} {listed : Array Bool} {a : Act} {w : World} (hr : Region.ready .any ops listed = [i]) (hin : i < n) (hi : ops.toList[i]? = some o) (hg : o.guard = none)
    (h : ∀ K : Act → World → Prop, (∀ a' w', Below B w w' → wpT B P ops Q n fuel (listed.setIfInBounds i true) a' w' → K a' w') → o.wp P a w K Q) : wpT B P ops Q n (fuel + 1) listed a w := by
  intro inv
  have hri : i ∈ Region.ready .any ops listed := by rw [hr]; simp
  exact wpR_one hr hi hg (fun K hK => h K fun a' w' h1 h2 => hK a' w' h1 (h2 (inv.set hri hin)))
/-- two come up, in either order -/
theorem wpT_two {n fuel i j : Nat} {o o' : Oper} {listed : Array Bool} {a : Act} {w : World} (hr : Region.ready .any ops listed = [i, j]) (hin : i < n) (hjn : j < n) (hi : ops.toList[i]? = some o) (hj : ops.toList[j]? = some o') (hg : o.guard = none) (hg' : o'.guard = none)
    (h : ∀ K : Act → World → Prop, (∀ a' w', Below B w w' → wpT B P ops Q n fuel (listed.setIfInBounds i true) a' w' → K a' w') → o.wp P a w K Q)
    (h' : ∀ K : Act → World → Prop, (∀ a' w', Below B w w' → wpT B P ops Q n fuel (listed.setIfInBounds j true) a' w' → K a' w') → o'.wp P a w K Q) : wpT B P ops Q n (fuel + 1) listed a w := by
  intro inv
  have hri : i ∈ Region.ready .any ops listed := by rw [hr]; simp
  have hrj : j ∈ Region.ready .any ops listed := by rw [hr]; simp
  exact wpR_two hr hi hj hg hg' (fun K hK => h K fun a' w' h1 h2 => hK a' w' h1 (h2 (inv.set hri hin))) (fun K hK => h' K fun a' w' h1 h2 => hK a' w' h1 (h2 (inv.set hrj hjn)))
/-- the head is walked -/
theorem wpT_tail {n fuel : Nat} {listed : Array Bool} {a : Act} {w : World} {l : List Oper} (hl : ops.toList.drop n = l) (hf : fuel = l.length) (hB : Region.seqB .any ops l.length n listed = true) (h : wpList P ops Q l a w) : wpT B P ops Q n fuel listed a w := by
  intro _
  subst hf
  exact wpR_of_seqB (B := B) (md := .any) (n := n) (Q' := Q) l n listed a w (Nat.le_refl _) (fun j => by rw [← hl, List.getElem?_drop, Array.getElem?_toList]) hB h
end Go.Proofs.YtpicmhbjiaegpaaGreatDoor

namespace Go.Proofs.YtpicmhbjiaegpaaGreatDoor
open Go.RowKit

/-- a slice of octets -/
def U8R : Rep Nat := fun _ _ x cs => cs = [.int .u8 (x : Int)] ∧ x < 256
theorem u8Ok : RepOk 1 U8R where
  len := by rintro S w x cs ⟨rfl, _⟩; rfl
  kept := by rintro S T w w' x cs h _ _; exact h
  one := by
    rintro S w x cs ⟨rfl, _⟩ v hv
    simp at hv; subst hv; rfl
def sK : Nat → Nat
  | 0 => 80
  | k + 1 => 2 * sK k + 1
def tK : Nat → Nat
  | 0 => 960
  | k + 1 => tK k + 2 * sK k + 7
theorem stK_le (k : Nat) (h : k ≤ 4) : sK k ≤ 1300 ∧ tK k ≤ 3500 := by
  have hk : k = 0 ∨ k = 1 ∨ k = 2 ∨ k = 3 ∨ k = 4 := by omega
  rcases hk with rfl | rfl | rfl | rfl | rfl <;> decide
theorem told_reads {l : List Drf} (h : ∀ d ∈ l, DrfOk d) : readT (toldT l) = .ok (opsOf l) ∧ (toldT l).length ≤ 960 ∧ Kept (toldT l) 80 960 (afterOf [] (toldT l)) := by
  obtain ⟨h1, h2⟩ := opsOf_ok h
  have h3 := opdsOk_all h1
  have h4 := opdsT_len80 _ h3.2
  have h5 := opsOf_len l
  have h6 : (toldT l).length ≤ 960 := by unfold toldT; omega
  refine ⟨readT_text h1 h2 (by unfold toldT at h6; omega), h6, ?_⟩
  have hk := kept_text h3.2
  exact ⟨hk.ch, hk.sig, hk.sp, Nat.le_trans hk.len h6⟩
theorem Kept.lines {t : List UInt8} {S T : Nat} {L : List (List UInt8)} (h : Kept t S T L) : 0 < L.length := by
  have := h.ch
  cases L with
  | nil => exact this.elim
  | cons x L => simp
theorem part_len : ∀ (L : List (List UInt8)) (c : List UInt8), c ∈ L → c.length ≤ L.flatten.length
  | x :: L, c, h => by
    rw [List.flatten_cons, List.length_append]
    rcases List.mem_cons.1 h with rfl | h
    · omega
    · have := part_len L c h; omega
theorem index5s (a b c d e : ByteArray) (w : World) : (Instr.index 33 (.agg #[.string a, .string b, .string c, .string d, .string e]) (.int .i64 0)).run Tryz.prog w = .ok (.string a) w ∧ (Instr.index 33 (.agg #[.string a, .string b, .string c, .string d, .string e]) (.int .i64 1)).run Tryz.prog w = .ok (.string b) w ∧ (Instr.index 33 (.agg #[.string a, .string b, .string c, .string d, .string e]) (.int .i64 2)).run Tryz.prog w = .ok (.string c) w ∧ (Instr.index 33 (.agg #[.string a, .string b, .string c, .string d, .string e]) (.int .i64 3)).run Tryz.prog w = .ok (.string d) w ∧ (Instr.index 33 (.agg #[.string a, .string b, .string c, .string d, .string e]) (.int .i64 4)).run Tryz.prog w = .ok (.string e) w := by
  refine ⟨?_, ?_, ?_, ?_, ?_⟩ <;> kernel_rfl
set_option maxRecDepth 4000 in
theorem index_chg (c : List UInt8) (i : Nat) (hi : i < 5) (w : World) : (Instr.index 33 (.agg #[.string (bs (chgT 0 c)), .string (bs (chgT 1 c)), .string (bs (chgT 2 c)), .string (bs (chgT 3 c)), .string (bs (chgT 4 c))]) (.int .i64 (i : Int))).run Tryz.prog w = .ok (.string (bs (chgT i c))) w := by
  obtain ⟨h0, h1, h2, h3, h4⟩ := index5s (bs (chgT 0 c)) (bs (chgT 1 c)) (bs (chgT 2 c)) (bs (chgT 3 c)) (bs (chgT 4 c)) w
  have hk : i = 0 ∨ i = 1 ∨ i = 2 ∨ i = 3 ∨ i = 4 := by omega
  rcases hk with rfl | rfl | rfl | rfl | rfl
  · exact h0
  · exact h1
  · exact h2
  · exact h3
  · exact h4
theorem wrap_mod5 (x k : Nat) (hx : x < 256) (hk : k < 4) : (IntKind.i64.wrap (IntKind.i64.wrap (x : Int) + (k : Int))).tmod 5 = (((x + k) % 5 : Nat) : Int) := by
  rw [IntWalk.i64_in (x : Int) (by omega), IntWalk.i64_in _ (by omega)]
  rfl
theorem conv10 (w : World) (e : Nat) (h : w.heap[e]? = some (.cells #[.int .u8 10] 5)) : (convert 60 9 (.slice (some ⟨e, 0, none⟩) 1 1)).run Tryz.prog w = .ok (.string { data := #[10] }) w :=
  Go.run_convert_bytes_back (P := Tryz.prog) w 60 9 5 ⟨e, 0, none⟩ 1 [10] Tryz.underlying60 Tryz.underlying5 Tryz.underlying9 (fun j hj => by
    obtain rfl : j = 0 := by simpa using hj
    exact obj_cell h 0)
theorem op_lit {P : Program} {o : Oper} {a : Act} {w : World} {K : Act → World → Prop} {Q : Exit → Act → World → Prop} (v : Value) (Z : Obj) (hrun : (execOp a.eval o).run P w = .ok (.value v) (w.alloc Z)) (h : K (a.put o.dst v) (w.alloc Z)) : o.wp P a w K Q := by
  unfold Oper.wp
  rw [hrun]
  exact h
theorem op_val {P : Program} {o : Oper} {a : Act} {w : World} {K : Act → World → Prop} {Q : Exit → Act → World → Prop} (v : Value) (hrun : (execOp a.eval o).run P w = .ok (.value v) w) (h : K (a.put o.dst v) w) : o.wp P a w K Q := by
  unfold Oper.wp
  rw [hrun]
  exact h
theorem replaceChg_any (l : List UInt8) (w : World) (hg : GW w) (hl : l.length ≤ 1000000) : Calls Tryz.prog 29 #[.string (bs l), .string { data := #[32] }, .string { data := #[32, 9, 32] }] w (RetB w (.string (bs (chgT 3 l)))) := replaceSp_any l w hg hl
theorem strCs_set (L : List (List UInt8)) (q : Nat) (z : List UInt8) : (strCs L).toArray.setIfInBounds q (.string (bs z)) = (strCs (L.set q z)).toArray := by
  unfold strCs
  rw [List.map_set, List.setIfInBounds_toArray]
set_option maxRecDepth 100000 in
set_option maxHeartbeats 3200000 in
theorem back_walk (l : List Drf) (bt : List Nat) (a a2 : Option Addr) (n c n2 c2 : Nat) (w : World) (h : RR DrfR 9 (fun b => b < w.heap.size) w a n c l) (hn : n ≤ 9223372036854775807) (h2 : RR U8R 1 (fun b => b < w.heap.size) w a2 n2 c2 bt) (hn2 : n2 ≤ 9223372036854775807) (hc2 : n2 ≤ c2) (hld : ∀ d ∈ l, DrfOk d) (hg : GW w) :
    Calls Tryz.prog 7 #[.slice a n c, .slice a2 n2 c2] w (RetB w (.bool true)) := by
  obtain ⟨ht1, ht2, ht3⟩ := told_reads hld
  have hok := opsOf_ok hld
  have hn3' := opsOf_len l
  have htx : textB (opsOf l) = toldT l := by unfold textB; rw [hok.1]; rfl
  have he0 : checkE (opsOf l) = 0 := by unfold checkE; rw [hok.1]; rfl
  have H := Lib.hid h; have H2 := Lib.hid h2; have Hg := Lib.hid hg; have Ht1 := Lib.hid ht1; have Ht3 := Lib.hid ht3; have Htx := Lib.hid htx; have He0 := Lib.hid he0
  clear h h2 hg ht1 ht3 htx he0 hok hld
  go_enter Tryz.func7, Tryz.ntmps7
  go_wp2_with fail
  refine (works_any w Hg.out).mono ?_
  rintro e w1 ⟨rfl, hb1⟩
  have H1 := Lib.hid (H.out.go drfOk hb1); have H21 := Lib.hid (H2.out.go u8Ok hb1); have Hb1 := Lib.hid hb1; have Hg1 := Lib.hid (Hg.out.below hb1)
  have hs1 := hb1.size
  clear hb1 H Hg H2
  go_wp2_with fail
  refine (operands_any l a n c w1 H1.out hn).mono ?_
  rintro e w2 ⟨a3, n3, c3, rfl, hr3, hb2⟩
  have hn3 := rr_len hr3
  have H22 := Lib.hid (H21.out.go u8Ok hb2)
  have Hb2 := Lib.hid (Hb1.out.trans (hb2.mono Hb1.out.size)); have Hg2 := Lib.hid (Hg1.out.below hb2); have hs2 := hb2.size; have Hr2 := Lib.hid hr3
  clear hr3 hb2 H1 H21 Hg1 Hb1
  go_wp2_with fail
  refine (oText_any (opsOf l) a3 n3 c3 w2 Hr2.out (by omega) Hg2.out).mono ?_
  rintro e w3 ⟨rfl, hb3⟩
  rw [Htx.out, He0.out]
  have H23 := Lib.hid (H22.out.go u8Ok hb3); have Hr3 := Lib.hid (Hr2.out.go opdOkR hb3)
  have Hb3 := Lib.hid (Hb2.out.trans (hb3.mono Hb2.out.size)); have Hg3 := Lib.hid (Hg2.out.below hb3); have hs3 := hb3.size
  clear hb3 Hb2 Hg2 H22 Hr2
  go_wp2_with fail
  refine (reads_any (toldT l) (opsOf l) a3 n3 c3 w3 Hr3.out (by omega) (by omega) Hg3.out).mono ?_
  rintro e w4 ⟨rfl, hb4⟩
  rw [Ht1.out, decide_eq_true rfl]
  have H24 := Lib.hid (H23.out.go u8Ok hb4); have Hr4 := Lib.hid (Hr3.out.go opdOkR hb4)
  have Hb4 := Lib.hid (Hb3.out.trans (hb4.mono Hb3.out.size)); have Hg4 := Lib.hid (Hg3.out.below hb4); have hs4 := hb4.size
  clear hb4 Hb3 Hg3 H23 Hr3
  have h960 : ¬ (960 : Int) < ((toldT l).length : Int) := by omega
  go_wp2_with fail
  refine (splitAfter_any (toldT l) w4 Hg4.out (by omega)).mono ?_
  rintro e w5 ⟨rfl, rfl⟩
  have hb5 := (Below.refl w4.heap.size w4).alloc (Nat.le_refl _) (.cells (strCs (afterOf [] (toldT l))).toArray 9)
  have hB5 := heap_alloc_new w4 (.cells (strCs (afterOf [] (toldT l))).toArray 9)
  generalize (w4.alloc (.cells (strCs (afterOf [] (toldT l))).toArray 9)) = w5 at *
  have Hb5 := Lib.hid hb5; have HB5 := Lib.hid hB5; have Hg5 := Lib.hid (Hg4.out.below hb5)
  have h8 := Hg4.out.sz
  clear hb5 hB5 Hg4
  have hLp := Ht3.out.lines
  have hL0 : (afterOf [] (toldT l)).length ≤ 1000 := by
    have e1 := count_after _ (toldT l) (Nat.le_refl _)
    have e2 := count_le1 10 _ (toldT l) (Nat.le_refl _)
    omega
  generalize afterOf [] (toldT l) = L0 at *
  obtain ⟨N, hN⟩ : ∃ N, L0.length = N := ⟨_, rfl⟩
  rw [hN] at hLp ⊢
  have e4 : min (n2 : Int) 4 = ((min n2 4 : Nat) : Int) := by omega
  have hm4 : min n2 4 ≤ n2 ∧ min n2 4 ≤ 4 := ⟨Nat.min_le_left _ _, Nat.min_le_right _ _⟩
  go_wp2_with fail
  go_loopw [42] (fun iv wr => ∃ (k : Nat) (L : List (List UInt8)), k ≤ min n2 4 ∧ iv = .int .i64 (k : Int) ∧ L.length = N ∧ Kept (toldT l) (sK k) (tK k) L ∧ wr.heap[w4.heap.size]? = some (.cells (strCs L).toArray 9) ∧ Below w4.heap.size w4 wr ∧ GW wr) (fun iv _ => 4 - (intOf iv).toNat)
  case atStart => exact ⟨0, L0, by omega, rfl, hN, Ht3.out, HB5.out, Hb5.out, Hg5.out⟩
  case round =>
    obtain ⟨k, L, hk, rfl, hLN, hkept, hB, hb, hgr⟩ := hrel
    have Hkept := Lib.hid hkept; have HB := Lib.hid hB; have Hb := Lib.hid hb; have Hgr := Lib.hid hgr
    clear hkept hB hb hgr Hg5 Hb5 HB5 Ht3
    have hbs := Hb.out.size
    by_cases hk2 : k < min n2 4
    · obtain ⟨b, off, x, cs, rfl, hlt, hx, ⟨rfl, hx6⟩, hr⟩ := (H24.out.go u8Ok Hb.out).at (show k < n2 by omega)
      have q0 : wr.cell? ⟨b, off + k, none⟩ = some (.int .u8 (x : Int)) := by simpa using hr 0 _ rfl
      clear hr hx
      go_wp2_with fail
      have e5 : ((x : Int) / 5) % (N : Int) = ((x / 5 % N : Nat) : Int) := by push_cast; rfl
      have hq : x / 5 % N < N := Nat.mod_lt _ hLp
      rw [e5]
      clear e5
      generalize x / 5 % N = q at *
      obtain ⟨c0, hc0⟩ : ∃ c0, L[q]? = some c0 := ⟨_, List.getElem?_eq_getElem (by omega)⟩
      have hst := stK_le k (by omega)
      have hcl : c0.length ≤ 3500 := Nat.le_trans (part_len L c0 (List.mem_of_getElem? hc0)) (Nat.le_trans Hkept.out.len hst.2)
      have e6 := wrap_mod5 x k hx6 (by omega)
      have hi5 : (x + k) % 5 < 5 := Nat.mod_lt _ (by omega)
      generalize (x + k) % 5 = i5 at *
      have s0 : ({ data := #[10] } : ByteArray) ++ bs c0 = bs (chgT 0 c0) := bs_append [10] c0
      have s1a : ({ data := #[35, 32, 83, 80, 79, 84] } : ByteArray) ++ { data := #[10] } = bs [35, 32, 83, 80, 79, 84, 10] := bs_append [35, 32, 83, 80, 79, 84] [10]
      have s1 : bs [35, 32, 83, 80, 79, 84, 10] ++ bs c0 = bs (chgT 1 c0) := bs_append [35, 32, 83, 80, 79, 84, 10] c0
      have s2 : ({ data := #[32, 9] } : ByteArray) ++ bs c0 = bs (chgT 2 c0) := bs_append [32, 9] c0
      have s4 : ({ data := #[35, 10, 9, 10] } : ByteArray) ++ bs c0 = bs (chgT 4 c0) := bs_append [35, 10, 9, 10] c0
      have x0 : wr.cell? ⟨w4.heap.size, q, none⟩ = some (.string (bs c0)) := by
        rw [obj_cell HB.out q, List.getElem?_toArray]
        unfold strCs
        rw [List.getElem?_map, hc0]; rfl
      have hlB : w4.heap.size < wr.heap.size := lt_of_block HB.out
      have hbd : Below wr.heap.size wr wr.drew := below_dr' (Below.refl wr.heap.size wr)
      have hsd : Hid (wr.drew.heap.size = wr.heap.size) := Lib.hid rfl
      refine wpT_begin wr.heap.size 37 (by kernel_rfl) ?_
      generalize wr.drew = wD at *
      have xD := (hbd.cell (p := ⟨w4.heap.size, q, none⟩) hlB).trans x0
      refine wpT_reads (by kernel_rfl) (fun _ _ o _ _ h => by cases o <;> exact h) [0, 1, 2, 3, 4, 5, 6, 10, 11, 12, 13, 15, 16, 17, 18, 19, 20, 21, 22, 23, 25, 26, 27, 28, 29, 31, 32, 33, 34, 35] 9 _ _ _ _ rfl rfl (by kernel_rfl) ?_
      iterate 30
        refine wpRdT_yield (v := ?_) rfl (by rfl) ?_ ?_
        rotate_left
        · intro y hy
          have z0 := (hy.cell (p := ⟨w4.heap.size, q, none⟩) hlB).trans xD
          go_simp
          try rw [e6]
          try rw [if_neg (by omega)]
          first | rw [s0] | rw [s1a] | rw [s1] | rw [s2] | rw [s4] | skip
          all_goals with_reducible rfl
        try simp only [Act.put, List.setIfInBounds_toArray, List.set_cons_zero, List.set_cons_succ]
      refine wpRdT_nil ?_
      refine wpT_two (i := 7) (j := 24) (by kernel_rfl) (by decide) (by decide) rfl rfl rfl rfl ?wA ?wB
      case' wA =>
        intro K hK
        refine op_lit (.slice (some ⟨wD.heap.size, 0, none⟩) 1 1) (.cells #[.int .u8 10] 5) (by go_simp) ?_
        refine hK _ _ ((Below.refl wr.heap.size wD).alloc (Nat.le_of_eq hsd.out.symm) _) ?_
        clear hK K
        try simp only [Act.put, List.setIfInBounds_toArray, List.set_cons_zero, List.set_cons_succ]
        have hE := heap_alloc_new wD (.cells #[.int .u8 10] 5)
        have hbE : Below wr.heap.size wr (wD.alloc (.cells #[.int .u8 10] 5)) := hbd.trans ((Below.refl wr.heap.size wD).alloc (Nat.le_of_eq hsd.out.symm) _)
        have hsE : wD.heap.size < (wD.alloc (.cells #[.int .u8 10] 5)).heap.size := by simp
        generalize wD.alloc (.cells #[.int .u8 10] 5) = wE at *
        refine wpT_two (i := 8) (j := 24) (by kernel_rfl) (by decide) (by decide) rfl rfl rfl rfl ?wA1 ?wA2
        case' wA1 =>
          intro K hK
          refine op_val (.string { data := #[10] }) (by have zc := conv10 wE _ hE; go_simp) ?_
          refine hK _ _ (Below.refl _ _) ?_
          clear hK K
          try simp only [Act.put, List.setIfInBounds_toArray, List.set_cons_zero, List.set_cons_succ]
          refine wpT_reads (by kernel_rfl) (fun _ _ o _ _ h => by cases o <;> exact h) [9, 14] 5 _ _ _ _ rfl rfl (by kernel_rfl) ?_
          iterate 2
            refine wpRdT_yield (v := ?_) rfl (by rfl) ?_ ?_
            rotate_left
            · intro y hy
              go_simp
              try rw [e6]
              try rw [if_neg (by omega)]
              first | rw [s0] | rw [s1a] | rw [s1] | rw [s2] | rw [s4] | skip
              all_goals with_reducible rfl
            try simp only [Act.put, List.setIfInBounds_toArray, List.set_cons_zero, List.set_cons_succ]
          refine wpRdT_nil ?_
          refine wpT_one (i := 24) (by kernel_rfl) (by decide) rfl rfl ?_
          intro K hK
          go_simp
          refine (replaceChg_any c0 wE (Hgr.out.below hbE) (by omega)).mono ?_
          rintro e wF ⟨rfl, hb7⟩
          refine hK _ _ (hb7.mono (by have := hsd.out; omega)) ?_
          clear hK K
          try simp only [Act.put, List.setIfInBounds_toArray, List.set_cons_zero, List.set_cons_succ]
          have hF : Below wr.heap.size wr wF := hbE.trans (hb7.mono (by have := hsd.out; omega))
        case' wA2 =>
          intro K hK
          go_simp
          refine (replaceChg_any c0 wE (Hgr.out.below hbE) (by omega)).mono ?_
          rintro e wF ⟨rfl, hb7⟩
          refine hK _ _ (hb7.mono (by have := hsd.out; omega)) ?_
          clear hK K
          try simp only [Act.put, List.setIfInBounds_toArray, List.set_cons_zero, List.set_cons_succ]
          have hF : Below wr.heap.size wr wF := hbE.trans (hb7.mono (by have := hsd.out; omega))
          have hE7 := (hb7.block _ hsE).trans hE
          refine wpT_one (i := 8) (by kernel_rfl) (by decide) rfl rfl ?_
          intro K hK
          refine op_val (.string { data := #[10] }) (by have zc := conv10 wF _ hE7; go_simp) ?_
          refine hK _ _ (Below.refl _ _) ?_
          clear hK K
          try simp only [Act.put, List.setIfInBounds_toArray, List.set_cons_zero, List.set_cons_succ]
          refine wpT_reads (by kernel_rfl) (fun _ _ o _ _ h => by cases o <;> exact h) [9, 14] 4 _ _ _ _ rfl rfl (by kernel_rfl) ?_
          iterate 2
            refine wpRdT_yield (v := ?_) rfl (by rfl) ?_ ?_
            rotate_left
            · intro y hy
              go_simp
              try rw [e6]
              try rw [if_neg (by omega)]
              first | rw [s0] | rw [s1a] | rw [s1] | rw [s2] | rw [s4] | skip
              all_goals with_reducible rfl
            try simp only [Act.put, List.setIfInBounds_toArray, List.set_cons_zero, List.set_cons_succ]
          refine wpRdT_nil ?_
      case' wB =>
        intro K hK
        go_simp
        refine (replaceChg_any c0 wD (Hgr.out.below hbd) (by omega)).mono ?_
        rintro e w6 ⟨rfl, hb6⟩
        refine hK _ _ (hb6.mono (Nat.le_of_eq hsd.out.symm)) ?_
        clear hK K
        try simp only [Act.put, List.setIfInBounds_toArray, List.set_cons_zero, List.set_cons_succ]
        refine wpT_one (i := 7) (by kernel_rfl) (by decide) rfl rfl ?_
        intro K hK
        have hs6 : wr.heap.size ≤ w6.heap.size := by have := hb6.size; have := hsd.out; omega
        refine op_lit (.slice (some ⟨w6.heap.size, 0, none⟩) 1 1) (.cells #[.int .u8 10] 5) (by go_simp) ?_
        refine hK _ _ ((Below.refl wr.heap.size w6).alloc (hs6) _) ?_
        clear hK K
        try simp only [Act.put, List.setIfInBounds_toArray, List.set_cons_zero, List.set_cons_succ]
        have hE := heap_alloc_new w6 (.cells #[.int .u8 10] 5)
        have hF : Below wr.heap.size wr (w6.alloc (.cells #[.int .u8 10] 5)) := (hbd.trans (hb6.mono (Nat.le_of_eq hsd.out.symm))).trans ((Below.refl wr.heap.size w6).alloc hs6 _)
        generalize w6.alloc (.cells #[.int .u8 10] 5) = wF at *
        refine wpT_one (i := 8) (by kernel_rfl) (by decide) rfl rfl ?_
        intro K hK
        refine op_val (.string { data := #[10] }) (by have zc := conv10 wF _ hE; go_simp) ?_
        refine hK _ _ (Below.refl _ _) ?_
        clear hK K
        try simp only [Act.put, List.setIfInBounds_toArray, List.set_cons_zero, List.set_cons_succ]
        refine wpT_reads (by kernel_rfl) (fun _ _ o _ _ h => by cases o <;> exact h) [9, 14] 4 _ _ _ _ rfl rfl (by kernel_rfl) ?_
        iterate 2
          refine wpRdT_yield (v := ?_) rfl (by rfl) ?_ ?_
          rotate_left
          · intro y hy
            go_simp
            try rw [e6]
            try rw [if_neg (by omega)]
            first | rw [s0] | rw [s1a] | rw [s1] | rw [s2] | rw [s4] | skip
            all_goals with_reducible rfl
          try simp only [Act.put, List.setIfInBounds_toArray, List.set_cons_zero, List.set_cons_succ]
        refine wpRdT_nil ?_
      all_goals
        refine wpT_reads (by kernel_rfl) (fun _ _ o _ _ h => by cases o <;> exact h) [30, 36] 2 _ _ _ _ rfl rfl (by kernel_rfl) ?_
        iterate 2
          refine wpRdT_yield (v := ?_) rfl (by rfl) ?_ ?_
          rotate_left
          · intro y hy
            have zi := index_chg c0 i5 hi5 y
            go_simp
            try rw [e6]
            try rw [if_neg (by omega)]
            first | rw [s0] | rw [s1a] | rw [s1] | rw [s2] | rw [s4] | skip
            all_goals with_reducible rfl
          try simp only [Act.put, List.setIfInBounds_toArray, List.set_cons_zero, List.set_cons_succ]
        refine wpRdT_nil ?_
        refine wpT_tail (l := [_, _]) rfl rfl (by kernel_rfl) ?_
        have xF := (hF.cell (p := ⟨w4.heap.size, q, none⟩) hlB).trans x0
        have HF := (hF.block _ hlB).trans HB.out
        have fF : wF.frozen? ⟨w4.heap.size, q, none⟩ = false := by rw [World.frozen?, HF]; rfl
        have HF' := Lib.hid HF
        clear HF
        go_wp2_with fail
        go_roundw
        case rel =>
          refine ⟨k + 1, L.set q (chgT i5 c0), by omega, by go_num, by rw [List.length_set]; exact hLN, Hkept.out.set hc0 i5, ?_, (Hb.out.trans (hF.mono hbs)).setCell (Nat.le_refl _) _, Hgr.out.of ((hF.mono hbs).setCell (Nat.le_refl _) _) h8⟩
          rw [obj_setCell HF'.out q _, strCs_set]
        case measure => simp [intOf]; omega
    · obtain rfl : k = min n2 4 := by omega
      have hst := stK_le (min n2 4) hm4.2
      have hfl := Hkept.out.len
      subst hLN
      go_wp2_with fail
      refine (joinFlat_any L w4.heap.size L.length wr HB.out (Nat.le_refl _) (by omega) (by omega)).mono ?_
      rintro e w7 ⟨rfl, hb7⟩
      have Hb7 := Lib.hid (Hb.out.trans (hb7.mono hbs)); have Hg7 := Lib.hid (Hgr.out.below hb7)
      clear hb7 Hb Hgr
      have Hr7 := Lib.hid (Hr4.out.go opdOkR Hb7.out)
      go_wp2_with fail
      refine (reads_any L.flatten (opsOf l) a3 n3 c3 w7 Hr7.out (by omega) (by omega) Hg7.out).mono ?_
      rintro e w8 ⟨rfl, hb8⟩
      rw [readT_sig Ht1.out Hkept.out.sig (by omega), decide_eq_true rfl]
      have Hb8 := Lib.hid (Hb4.out.trans ((Hb7.out.trans (hb8.mono Hb7.out.size)).mono Hb4.out.size))
      clear hb8
      go_wp2_with fail
      go_ret
      exact ⟨rfl, Hb8.out⟩
end Go.Proofs.YtpicmhbjiaegpaaGreatDoor

namespace Go.Proofs.YtpicmhbjiaegpaaGreatDoor
open Go.ChangeShapes Go.WideShapes Go.ChangeAt Go.RowKit

theorem rd_u8row {H : Type} {enc : TypeId × Value → H} {w : World} {base : Nat} {sp : Nat → Bool} {held : Bool} {cs : List Value} (hl : cs.length = 1) (h : Rd enc Tryz.prog w base sp held 5 cs) : ∃ x : Nat, U8R (fun b => b < w.heap.size) w x cs := by
  match cs, hl with
  | [c0], _ =>
    obtain ⟨z, rfl, hz⟩ := rd_u8 Tryz.underlying5 h
    exact ⟨z, rfl, hz⟩
end Go.Proofs.YtpicmhbjiaegpaaGreatDoor
