/-
  DERIVED. Several texts in one: KnA, KnB, KnD, KnC, Knw.
-/
import Derived.Test.YtpicmhbjiaegpaaGreatDoorNaa
import Derived.Test.YtpicmhbjiaegpaaGreatDoorJaa
import Derived.Test.YtpicmhbjiaegpaaGreatDoorGah
import Derived.Test.YtpicmhbjiaegpaaGreatDoorGae
namespace Go.Proofs.YtpicmhbjiaegpaaGreatDoor
open Go.RowKit

/-- the example -/
def oneX : Opd := ⟨[79, 80, 68, 70], [4, 4, -2000000, 2000000, 0], 1, -1000000000000, 1000⟩
theorem one_text : textB [oneX] = [79, 80, 68, 70, 32, 52, 32, 52, 32, 45, 50, 32, 50, 32, 61, 32, 45, 49, 48, 48, 48, 48, 48, 48, 32, 49, 48, 48, 48, 10] ∧ checkE [oneX] = 0 ∧ opdOk oneX = true := ⟨by kernel_rfl, by kernel_rfl, by kernel_rfl⟩
theorem many_ok : checkE (List.replicate 12 oneX) = 0 ∧ checkE (List.replicate 13 oneX) = 330 ∧ checkE [] = 0 := ⟨by kernel_rfl, by kernel_rfl, by kernel_rfl⟩
/-- operands that are not valid -/
def wrong9 : List Opd := [⟨[], [0, 0, 0, 0, 0], 0, 0, 0⟩, ⟨[84, 82, 65, 67], [0, 0, 0, 0, 0], 1, 0, 0⟩, ⟨[84, 82, 65, 67], [0, 0, 0, 0, 0], 2, 0, 1⟩, ⟨[84, 82, 65, 67], [0, 0, 0, 0, 0], 4, 0, 0⟩, ⟨[84, 82, 65, 67], [0, 0, 0, 0, 1], 2, 0, 0⟩, ⟨[69, 70, 70, 76], [5, 0, 0, 0, 0], 2, 0, 0⟩, ⟨[80, 65, 82, 77], [0, 18, 0, 0, 0], 2, 0, 0⟩, ⟨[69, 68, 71, 69], [0, -1, 0, 0, 0], 3, 0, 0⟩, ⟨[84, 82, 65, 67], [0, 0, 0, 0, 0], 3, 1000000000001, 0⟩]
theorem wrong_all : ∀ x ∈ wrong9, textB [oneX, x] = [] ∧ checkE [oneX, x] = 330 ∧ checkE [x] = 330 := by
  have h : (wrong9.all fun x => (textB [oneX, x] == []) && (checkE [oneX, x] == 330) && (checkE [x] == 330)) = true := by kernel_rfl
  intro x hx
  have := List.all_eq_true.1 h x hx
  simp only [Bool.and_eq_true, beq_iff_eq] at this
  exact ⟨this.1.1, this.1.2, this.2⟩
/-- the least operand of a name -/
def argsN (nm : List UInt8) : List Int := if nm = [80, 65, 82, 77] then [0, 1, 0, 0, 0] else if nm = [83, 80, 79, 84] ∨ nm = [69, 88, 84, 69] ∨ nm = [77, 84, 70, 88] ∨ nm = [77, 84, 70, 89] then [0, 0, 15, 0, 0] else [0, 0, 0, 0, 0]
def leastX (nm : List UInt8) : Opd := ⟨nm, argsN nm, 1, 0, 1⟩
theorem least_all : ∀ e ∈ kindTab, checkE [leastX e.1] = 0 ∧ readT (textB [leastX e.1]) = .ok [leastX e.1] ∧ (textB [leastX e.1]).length ≤ 100 := by
  have h : (kindTab.all fun e => (checkE [leastX e.1] == 0) && decide (readT (textB [leastX e.1]) = .ok [leastX e.1]) && decide ((textB [leastX e.1]).length ≤ 100)) = true := by kernel_rfl
  intro e he
  have := List.all_eq_true.1 h e he
  simp only [Bool.and_eq_true, beq_iff_eq, decide_eq_true_eq] at this
  exact ⟨this.1.1, this.1.2, this.2⟩
/-- a remark -/
theorem words_plain : ∀ (l u : List UInt8), (∀ b ∈ l, isSp b = false) → u ++ l ≠ [] → wordsOf u l = [u ++ l]
  | [], u, _, hne => by
    rw [wordsOf, if_neg (by simpa using hne), List.append_nil]
  | b :: l, u, h, _ => by
    rw [wordsOf, h b List.mem_cons_self, if_neg (by simp), words_plain l (u ++ [b]) (fun d hd => h d (List.mem_cons_of_mem _ hd)) (by simp)]; simp
theorem mem_rep : ∀ (n : Nat) (b : UInt8), b ∈ Lib.repeatL [120] n → b = 120
  | 0, b, h => by simp [Lib.repeatL] at h
  | n + 1, b, h => by
    rw [Lib.repeatL, List.mem_append] at h
    rcases h with h | h
    · simpa using h
    · exact mem_rep n b h
theorem remark_reads (n : Nat) (hn : n ≤ 3999) : readT (35 :: Lib.repeatL [120] n) = .ok [] := by
  have hm : ∀ b ∈ (35 : UInt8) :: Lib.repeatL [120] n, b = 35 ∨ b = 120 := by
    intro b hb
    rcases List.mem_cons.1 hb with rfl | hb
    · exact Or.inl rfl
    · exact Or.inr (mem_rep n b hb)
  have hl : ((35 : UInt8) :: Lib.repeatL [120] n).length = n + 1 := by rw [List.length_cons, Lib.repeatL_length]; simp
  unfold readT
  rw [if_neg (by omega), linesOf_none _ _ (fun b hb => by rcases hm b hb with rfl | rfl <;> decide), List.nil_append, readLines]
  have hw := words_plain ((35 : UInt8) :: Lib.repeatL [120] n) [] (fun b hb => by rcases hm b hb with rfl | rfl <;> rfl) (by simp)
  rw [List.nil_append] at hw
  rw [hw, if_pos (by rfl), readLines]
theorem long_no {t : List UInt8} (h : 4000 < t.length) : readT t = .no 0 3 := by unfold readT; rw [if_pos h]
end Go.Proofs.YtpicmhbjiaegpaaGreatDoor

namespace Go.Proofs.YtpicmhbjiaegpaaGreatDoor
open Go.RowKit

theorem text_lit1 (x : Opd) (a0 a1 a2 a3 a4 : Int) (ha : x.ag = [a0, a1, a2, a3, a4]) (w : World) (hg : GW w) : Calls Tryz.prog 18 #[.slice (some ⟨w.heap.size, 0, none⟩) 1 1] (w.alloc (.cells #[.string (bs x.nm), .int .i64 a0, .int .i64 a1, .int .i64 a2, .int .i64 a3, .int .i64 a4, .int .i64 x.rel, .int .i64 x.tg, .int .i64 x.wt] 50)) (fun e w' => e = .returned (.tuple #[.string (bs (textB [x])), .int .i64 (checkE [x])]) ∧ Below w.heap.size w w') := by
  have hal := (Below.refl w.heap.size w).alloc (Nat.le_refl _) (.cells #[.string (bs x.nm), .int .i64 a0, .int .i64 a1, .int .i64 a2, .int .i64 a3, .int .i64 a4, .int .i64 x.rel, .int .i64 x.tg, .int .i64 x.wt] 50)
  refine (oText_any [x] _ 1 1 _ (rr_lit1 w x a0 a1 a2 a3 a4 ha) (by omega) (hg.below hal)).mono ?_
  rintro e w' ⟨rfl, hb⟩
  exact ⟨rfl, hal.trans (hb.mono hal.size)⟩
theorem check_lit1 (x : Opd) (a0 a1 a2 a3 a4 : Int) (ha : x.ag = [a0, a1, a2, a3, a4]) (w : World) : Calls Tryz.prog 19 #[.slice (some ⟨w.heap.size, 0, none⟩) 1 1] (w.alloc (.cells #[.string (bs x.nm), .int .i64 a0, .int .i64 a1, .int .i64 a2, .int .i64 a3, .int .i64 a4, .int .i64 x.rel, .int .i64 x.tg, .int .i64 x.wt] 50)) (fun e w' => e = .returned (.int .i64 (checkE [x])) ∧ Below w.heap.size w w') := by
  have hal := (Below.refl w.heap.size w).alloc (Nat.le_refl _) (.cells #[.string (bs x.nm), .int .i64 a0, .int .i64 a1, .int .i64 a2, .int .i64 a3, .int .i64 a4, .int .i64 x.rel, .int .i64 x.tg, .int .i64 x.wt] 50)
  refine (check_any [x] _ 1 1 _ (rr_lit1 w x a0 a1 a2 a3 a4 ha) (by omega)).mono ?_
  rintro e w' ⟨rfl, hb⟩
  exact ⟨rfl, hal.trans (hb.mono hal.size)⟩
theorem reads_lit1 (x : Opd) (a0 a1 a2 a3 a4 : Int) (ha : x.ag = [a0, a1, a2, a3, a4]) (l : List UInt8) (hl : l.length ≤ 1000000) (w : World) (hg : GW w) : Calls Tryz.prog 23 #[.string (bs l), .slice (some ⟨w.heap.size, 0, none⟩) 1 1] (w.alloc (.cells #[.string (bs x.nm), .int .i64 a0, .int .i64 a1, .int .i64 a2, .int .i64 a3, .int .i64 a4, .int .i64 x.rel, .int .i64 x.tg, .int .i64 x.wt] 50)) (fun e w' => e = .returned (.bool (decide (readT l = .ok [x]))) ∧ Below w.heap.size w w') := by
  have hal := (Below.refl w.heap.size w).alloc (Nat.le_refl _) (.cells #[.string (bs x.nm), .int .i64 a0, .int .i64 a1, .int .i64 a2, .int .i64 a3, .int .i64 a4, .int .i64 x.rel, .int .i64 x.tg, .int .i64 x.wt] 50)
  refine (reads_any l [x] _ 1 1 _ (rr_lit1 w x a0 a1 a2 a3 a4 ha) (by omega) hl (hg.below hal)).mono ?_
  rintro e w' ⟨rfl, hb⟩
  exact ⟨rfl, hal.trans (hb.mono hal.size)⟩
theorem reads_nil (l : List UInt8) (hl : l.length ≤ 1000000) (w : World) (hg : GW w) : Calls Tryz.prog 23 #[.string (bs l), .slice none 0 0] w (RetB w (.bool (decide (readT l = .ok [])))) :=
  reads_any l [] none 0 0 w (RR.nil _ _ _ _ _ _) (by omega) hl hg

/-- an operand of zeros, a list of them -/
def zeroO : Opd := ⟨[], [0, 0, 0, 0, 0], 0, 0, 0⟩
theorem infoOpF : ∃ i, Tryz.prog.info? 50 = some i ∧ i.zero = some (.agg (opCells zeroO 0 0 0 0 0).toArray) ∧ i.size = 9 ∧ i.bytes = 80 := by
  have h : (Tryz.prog.info? 50).map (fun i => (i.zero, i.size, i.bytes)) = some (some (.agg (opCells zeroO 0 0 0 0 0).toArray), 9, 80) := by kernel_rfl
  obtain ⟨i, h1, h2⟩ := Option.map_eq_some_iff.1 h
  simp only [Prod.mk.injEq] at h2
  exact ⟨i, h1, h2.1, h2.2.1, h2.2.2⟩
theorem flat_made : (madeCells (Value.agg (opCells zeroO 0 0 0 0 0).toArray).cells (13 * 9)).toList = (List.replicate 13 (opCells zeroO 0 0 0 0 0)).flatten := by kernel_rfl
theorem wpList_make13 {ops : Array Oper} {rest : List Oper} {o : Oper} {a : Act} {Q : Exit → Act → World → Prop} {w : World} (hgd : o.guard = none) (x y : Operand) (ho : o.op = Op.makeSlice 30 x y) (hx : a.eval x = .int .i64 13) (hy : a.eval y = .int .i64 13)
    (h : ∀ w', OwnR OpdR 9 50 w.heap.size w' (.slice (some ⟨w.heap.size, 0, none⟩) 13 13) (List.replicate 13 zeroO) → Below w.heap.size w w' → wpList Tryz.prog ops Q rest (a.put o.dst (.slice (some ⟨w.heap.size, 0, none⟩) 13 13)) w') : wpList Tryz.prog ops Q (o :: rest) a w := by
  obtain ⟨i, hi1, hi2, hi3, hi4⟩ := infoOpF
  refine wpList_make_full w hgd x y 30 ho w.heap.size 50 i _ 9 Tryz.underlying30 hi1 hi2 hi3 .i64 .i64 13 13 13 hx hy rfl rfl (by rw [hi4]; omega) (by unfold maxLen; omega) (Nat.le_refl _) ?_
  intro w' h1 h2
  rw [flat_made] at h1
  refine h w' ⟨List.replicate 13 (opCells zeroO 0 0 0 0 0), by simp, fun c hc => ?_, by simpa using h1, fun j x cs hx hc => ?_⟩ ((Below.refl _ _).grown h2 (Nat.le_refl _) (fun k hk => by cases hk))
  · rw [(List.mem_replicate.1 hc).2]; rfl
  · have e1 : x = zeroO := (List.mem_replicate.1 (List.mem_of_getElem? hx)).2
    have e2 : cs = opCells zeroO 0 0 0 0 0 := (List.mem_replicate.1 (List.mem_of_getElem? hc)).2
    subst e1 e2
    exact ⟨0, 0, 0, 0, 0, rfl, rfl⟩
theorem wpL_store_opAt {ops : Array Oper} {rest : List Oper} {op : Oper} {ac : Act} {w : World} {Q : Exit → Act → World → Prop} {g o : Nat} {x : Opd} {a0 a1 a2 a3 a4 : Int} (h : w.there g o 9) (hgd : op.guard = none) (p q : Operand) (ho : op.op = .store 50 p q)
    (hp : ac.eval p = .pointer (some ⟨g, o, none⟩)) (hq : ac.eval q = .agg (opCells x a0 a1 a2 a3 a4).toArray) (hk : wpList Tryz.prog ops Q rest (ac.put op.dst undef) (w.setCells g o (opCells x a0 a1 a2 a3 a4))) : wpList Tryz.prog ops Q (op :: rest) ac w :=
  wpList_store_mid hgd 50 p q ho g o _ hp hq h Tryz.infoOpd (by simp [Value.oneCell', opCells]) hk
theorem ones_set (i : Nat) (h : i < 13) : (List.replicate i oneX ++ List.replicate (13 - i) zeroO).set i oneX = List.replicate (i + 1) oneX ++ List.replicate (13 - (i + 1)) zeroO := by
  rw [show 13 - i = (13 - (i + 1)) + 1 by omega, List.replicate_succ, List.set_append_right _ _ (by simp)]
  simp [List.replicate_succ']
theorem rr_take {l : List Opd} {S : Nat → Prop} {w : World} {a : Option Addr} {n c : Nat} (h : RR OpdR 9 S w a n c l) (m : Nat) (hm : m ≤ n) : RR OpdR 9 S w a m c (l.take m) := by
  obtain ⟨h1, h2, h3⟩ := h
  refine ⟨by rw [List.length_take]; omega, by omega, fun hp => ?_⟩
  obtain ⟨b, off, e, hb, hel⟩ := h3 (by omega)
  refine ⟨b, off, e, hb, fun i x hx => ?_⟩
  rw [List.getElem?_take] at hx
  split at hx
  · exact hel i x hx
  · cases hx
theorem ones_take (m : Nat) (h : m ≤ 13) : (List.replicate 13 oneX).take m = List.replicate m oneX := by rw [List.take_replicate, Nat.min_eq_left h]
end Go.Proofs.YtpicmhbjiaegpaaGreatDoor

namespace Go.Proofs.YtpicmhbjiaegpaaGreatDoor
open Go.RowKit

def w9V : Value := .agg (wrong9.flatMap fun x => opCells x (argAt x.ag 0) (argAt x.ag 1) (argAt x.ag 2) (argAt x.ag 3) (argAt x.ag 4)).toArray
theorem lt9 {k : Nat} (h : k < 9) : k = 0 ∨ k = 1 ∨ k = 2 ∨ k = 3 ∨ k = 4 ∨ k = 5 ∨ k = 6 ∨ k = 7 ∨ k = 8 := by omega
theorem index_w9 (k : Nat) (h : k < 9) : ∃ x a0 a1 a2 a3 a4, x ∈ wrong9 ∧ x.ag = [a0, a1, a2, a3, a4] ∧ ∀ w, (Instr.index 51 w9V (.int .i64 (k : Int))).run Tryz.prog w = .ok (.agg #[.string (bs x.nm), .int .i64 a0, .int .i64 a1, .int .i64 a2, .int .i64 a3, .int .i64 a4, .int .i64 x.rel, .int .i64 x.tg, .int .i64 x.wt]) w := by
  rcases lt9 h with rfl | rfl | rfl | rfl | rfl | rfl | rfl | rfl | rfl
  · exact ⟨⟨[], [0, 0, 0, 0, 0], 0, 0, 0⟩, 0, 0, 0, 0, 0, by decide, rfl, fun w => by kernel_rfl⟩
  · exact ⟨⟨[84, 82, 65, 67], [0, 0, 0, 0, 0], 1, 0, 0⟩, 0, 0, 0, 0, 0, by decide, rfl, fun w => by kernel_rfl⟩
  · exact ⟨⟨[84, 82, 65, 67], [0, 0, 0, 0, 0], 2, 0, 1⟩, 0, 0, 0, 0, 0, by decide, rfl, fun w => by kernel_rfl⟩
  · exact ⟨⟨[84, 82, 65, 67], [0, 0, 0, 0, 0], 4, 0, 0⟩, 0, 0, 0, 0, 0, by decide, rfl, fun w => by kernel_rfl⟩
  · exact ⟨⟨[84, 82, 65, 67], [0, 0, 0, 0, 1], 2, 0, 0⟩, 0, 0, 0, 0, 1, by decide, rfl, fun w => by kernel_rfl⟩
  · exact ⟨⟨[69, 70, 70, 76], [5, 0, 0, 0, 0], 2, 0, 0⟩, 5, 0, 0, 0, 0, by decide, rfl, fun w => by kernel_rfl⟩
  · exact ⟨⟨[80, 65, 82, 77], [0, 18, 0, 0, 0], 2, 0, 0⟩, 0, 18, 0, 0, 0, by decide, rfl, fun w => by kernel_rfl⟩
  · exact ⟨⟨[69, 68, 71, 69], [0, -1, 0, 0, 0], 3, 0, 0⟩, 0, -1, 0, 0, 0, by decide, rfl, fun w => by kernel_rfl⟩
  · exact ⟨⟨[84, 82, 65, 67], [0, 0, 0, 0, 0], 3, 1000000000001, 0⟩, 0, 0, 0, 0, 0, by decide, rfl, fun w => by kernel_rfl⟩
theorem rr_lit2 (w : World) (x y : Opd) (a0 a1 a2 a3 a4 b0 b1 b2 b3 b4 : Int) (ha : x.ag = [a0, a1, a2, a3, a4]) (hb : y.ag = [b0, b1, b2, b3, b4]) : RR OpdR 9 (fun b => b < (w.alloc (.cells (opCells x a0 a1 a2 a3 a4 ++ opCells y b0 b1 b2 b3 b4).toArray 50)).heap.size) (w.alloc (.cells (opCells x a0 a1 a2 a3 a4 ++ opCells y b0 b1 b2 b3 b4).toArray 50)) (some ⟨w.heap.size, 0, none⟩) 2 2 [x, y] := by
  refine ⟨rfl, Nat.le_refl _, fun _ => ⟨w.heap.size, 0, rfl, by simp, fun i z hz => ?_⟩⟩
  match i, hz with
  | 0, hz =>
    cases hz
    refine ⟨opCells x a0 a1 a2 a3 a4, ⟨a0, a1, a2, a3, a4, ha, rfl⟩, fun j v hv => ?_⟩
    have := obj_cell (heap_alloc_new w (.cells (opCells x a0 a1 a2 a3 a4 ++ opCells y b0 b1 b2 b3 b4).toArray 50)) j
    rw [Nat.zero_mul, Nat.add_zero, Nat.zero_add, this]
    have hj := (List.getElem?_eq_some_iff.1 hv).1
    rw [List.getElem?_toArray, List.getElem?_append_left hj]; exact hv
  | 1, hz =>
    cases hz
    refine ⟨opCells y b0 b1 b2 b3 b4, ⟨b0, b1, b2, b3, b4, hb, rfl⟩, fun j v hv => ?_⟩
    have := obj_cell (heap_alloc_new w (.cells (opCells x a0 a1 a2 a3 a4 ++ opCells y b0 b1 b2 b3 b4).toArray 50)) (9 + j)
    rw [Nat.one_mul, Nat.zero_add, this, List.getElem?_toArray, List.getElem?_append_right (by simp [opCells])]
    simpa [opCells] using hv
theorem text_lit2 (x y : Opd) (a0 a1 a2 a3 a4 b0 b1 b2 b3 b4 : Int) (ha : x.ag = [a0, a1, a2, a3, a4]) (hb : y.ag = [b0, b1, b2, b3, b4]) (w : World) (hg : GW w) : Calls Tryz.prog 18 #[.slice (some ⟨w.heap.size, 0, none⟩) 2 2] (w.alloc (.cells #[.string (bs x.nm), .int .i64 a0, .int .i64 a1, .int .i64 a2, .int .i64 a3, .int .i64 a4, .int .i64 x.rel, .int .i64 x.tg, .int .i64 x.wt, .string (bs y.nm), .int .i64 b0, .int .i64 b1, .int .i64 b2, .int .i64 b3, .int .i64 b4, .int .i64 y.rel, .int .i64 y.tg, .int .i64 y.wt] 50)) (fun e w' => e = .returned (.tuple #[.string (bs (textB [x, y])), .int .i64 (checkE [x, y])]) ∧ Below w.heap.size w w') := by
  have hal := (Below.refl w.heap.size w).alloc (Nat.le_refl _) (.cells #[.string (bs x.nm), .int .i64 a0, .int .i64 a1, .int .i64 a2, .int .i64 a3, .int .i64 a4, .int .i64 x.rel, .int .i64 x.tg, .int .i64 x.wt, .string (bs y.nm), .int .i64 b0, .int .i64 b1, .int .i64 b2, .int .i64 b3, .int .i64 b4, .int .i64 y.rel, .int .i64 y.tg, .int .i64 y.wt] 50)
  refine (oText_any [x, y] _ 2 2 _ (rr_lit2 w x y a0 a1 a2 a3 a4 b0 b1 b2 b3 b4 ha hb) (by omega) (hg.below hal)).mono ?_
  rintro e w' ⟨rfl, hb⟩
  exact ⟨rfl, hal.trans (hb.mono hal.size)⟩
theorem wpL_store_args {ops : Array Oper} {rest : List Oper} {op : Oper} {ac : Act} {w : World} {Q : Exit → Act → World → Prop} {g : Nat} {cs : Array Value} (x y : Operand) (ho : op.op = .store 48 x y) (hgd : op.guard = none)
    (hx : ac.eval x = .pointer (some ⟨g, 1, none⟩)) (hy : ac.eval y = .agg #[.int .i64 0, .int .i64 0, .int .i64 0, .int .i64 0, .int .i64 0]) (h : w.heap[g]? = some (.cells cs 50 (0, 0))) (hsz : cs.size = 9) (hk : wpList Tryz.prog ops Q rest (ac.put op.dst undef) (w.setCells g 1 [.int .i64 0, .int .i64 0, .int .i64 0, .int .i64 0, .int .i64 0])) : wpList Tryz.prog ops Q (op :: rest) ac w :=
  wpList_store_mid hgd 48 x y ho g 1 _ hx hy (fun j hj => by
    have hj : j < 5 := hj
    have h9 : 1 + j < 9 := by omega
    simp [World.cell?, World.frozen?, h, hsz, h9]) (by kernel_rfl) (by simp [Value.oneCell']) hk
theorem args_stored {w : World} {g : Nat} {T : TypeId} {s m : ByteArray} (h : w.heap[g]? = some (.cells #[.string s, .int .i64 0, .int .i64 0, .int .i64 0, .int .i64 0, .int .i64 0, .int .i64 1, .int .i64 0, .int .i64 1] T (0, 0))) :
    ((((((w.setCell ⟨g, 0, none⟩ (.string m)).setCell ⟨g, 1, none⟩ (.int .i64 0)).setCell ⟨g, 2, none⟩ (.int .i64 0)).setCell ⟨g, 3, none⟩ (.int .i64 0)).setCell ⟨g, 4, none⟩ (.int .i64 0)).setCell ⟨g, 5, none⟩ (.int .i64 0)).heap[g]? = some (.cells #[.string m, .int .i64 0, .int .i64 0, .int .i64 0, .int .i64 0, .int .i64 0, .int .i64 1, .int .i64 0, .int .i64 1] T (0, 0)) := by
  have := obj_setCell (obj_setCell (obj_setCell (obj_setCell (obj_setCell (obj_setCell h 0 (.string m)) 1 (.int .i64 0)) 2 (.int .i64 0)) 3 (.int .i64 0)) 4 (.int .i64 0)) 5 (.int .i64 0)
  simpa using this
theorem args_below {w : World} {g : Nat} {m : ByteArray} {B : Nat} (hB : B ≤ g) : Below B w ((((((w.setCell ⟨g, 0, none⟩ (.string m)).setCell ⟨g, 1, none⟩ (.int .i64 0)).setCell ⟨g, 2, none⟩ (.int .i64 0)).setCell ⟨g, 3, none⟩ (.int .i64 0)).setCell ⟨g, 4, none⟩ (.int .i64 0)).setCell ⟨g, 5, none⟩ (.int .i64 0)) :=
  ((((((Below.refl B w).setCell (p := ⟨g, 0, none⟩) hB _).setCell (p := ⟨g, 1, none⟩) hB _).setCell (p := ⟨g, 2, none⟩) hB _).setCell (p := ⟨g, 3, none⟩) hB _).setCell (p := ⟨g, 4, none⟩) hB _).setCell (p := ⟨g, 5, none⟩) hB _
theorem wpL_load_opG {ops : Array Oper} {rest : List Oper} {op : Oper} {ac : Act} {w : World} {Q : Exit → Act → World → Prop} {b o : Nat} {x : Opd} {a0 a1 a2 a3 a4 : Int} (h : w.rangeAt b o (opCells x a0 a1 a2 a3 a4)) (hgd : Region.wanted op (yielded ops ac.tmps) = true) (p : Operand) (ho : op.op = .load 50 p)
    (hx : ac.eval p = .pointer (some ⟨b, o, none⟩)) (hk : wpList Tryz.prog ops Q rest (ac.put op.dst (.agg #[.string (bs x.nm), .int .i64 a0, .int .i64 a1, .int .i64 a2, .int .i64 a3, .int .i64 a4, .int .i64 x.rel, .int .i64 x.tg, .int .i64 x.wt])) w) : wpList Tryz.prog ops Q (op :: rest) ac w :=
  wpList_taken hgd fun _K hK => wp_load_mid 50 p ho b o hx (opCells x a0 a1 a2 a3 a4) _ h Tryz.underlying50 rfl Tryz.infoOpd (hK _ _ hk)
theorem dZero_any (w : World) : Calls Tryz.prog 25 #[.agg #[.int .u8 0, .int .u8 0, .int .u16 0, .int .u16 0, .int .u16 0, .int .u16 0, .int .u16 0, .int .i32 0, .int .u16 0]] w (RetB w (.agg #[.string { data := #[69, 70, 70, 76] }, .int .i64 0, .int .i64 0, .int .i64 0, .int .i64 0, .int .i64 0, .int .i64 1, .int .i64 0, .int .i64 1])) := by
  have h := dOperand_any ⟨0, 0, [0, 0, 0, 0, 0], 0, 0⟩ ⟨by decide, by decide, rfl, fun a ha => by simp at ha; omega, by decide, by decide⟩ w
  exact h
theorem name_at (k : Nat) (h : k < 24) : ∃ nm ks, (nm, ks) ∈ kindTab ∧ (strCs (kindTab.map (·.1)))[k]? = some (.string (bs nm)) := by
  have hk : k < kindTab.length := h
  refine ⟨(kindTab[k]).1, (kindTab[k]).2, List.getElem_mem hk, ?_⟩
  simp [strCs, List.getElem?_eq_getElem hk]
theorem args_of {nm : List UInt8} : (nm = [80, 65, 82, 77] → argsN nm = [0, 1, 0, 0, 0]) ∧ (nm = [83, 80, 79, 84] ∨ nm = [69, 88, 84, 69] ∨ nm = [77, 84, 70, 88] ∨ nm = [77, 84, 70, 89] → argsN nm = [0, 0, 15, 0, 0]) ∧ (nm ≠ [80, 65, 82, 77] → nm ≠ [83, 80, 79, 84] → nm ≠ [69, 88, 84, 69] → nm ≠ [77, 84, 70, 88] → nm ≠ [77, 84, 70, 89] → argsN nm = [0, 0, 0, 0, 0]) := by
  refine ⟨fun h => by subst h; rfl, fun h => by rcases h with rfl | rfl | rfl | rfl <;> rfl, fun h1 h2 h3 h4 h5 => ?_⟩
  unfold argsN
  rw [if_neg h1, if_neg (by simp [h2, h3, h4, h5])]
theorem name_no {nm m : List UInt8} (h : nm ≠ m) : (bs nm == bs m) = false := by rw [bs_beq]; simpa using h
theorem least_args (nm : List UInt8) : ∃ a1 a2, argsN nm = [0, a1, a2, 0, 0] := by
  unfold argsN
  split
  · exact ⟨1, 0, rfl⟩
  · split
    · exact ⟨0, 15, rfl⟩
    · exact ⟨0, 0, rfl⟩
/-- what the switch leaves -/
def CutRel (nm : List UInt8) (bo : Nat) (y3 wx : World) : Prop := ∃ a1 a2 : Int, argsN nm = [0, a1, a2, 0, 0] ∧ wx.heap[bo]? = some (.cells (opCells (leastX nm) 0 a1 a2 0 0).toArray 50 (0, 0)) ∧ Below bo y3 wx
theorem name_yes {nm m : List UInt8} (h : (nm == m) = true) : nm = m := by simpa using h
theorem cut_parm {nm : List UInt8} {bo : Nat} {y3 : World} (hp : y3.heap[bo]? = some (.cells #[.string (bs nm), .int .i64 0, .int .i64 0, .int .i64 0, .int .i64 0, .int .i64 0, .int .i64 1, .int .i64 0, .int .i64 1] 50 (0, 0)))
    (h : (nm == [80, 65, 82, 77]) = true) : CutRel nm bo y3 (y3.setCell ⟨bo, 2, none⟩ (.int .i64 1)) := by
  have e := name_yes (m := [80, 65, 82, 77]) h
  have ho := obj_setCell hp 2 (.int .i64 1)
  exact ⟨1, 0, (args_of (nm := nm)).1 e, by simpa [opCells, leastX] using ho, (Below.refl bo y3).setCell (p := ⟨bo, 2, none⟩) (Nat.le_refl _) _⟩
theorem cut_spot {nm : List UInt8} {bo : Nat} {y3 : World} (hp : y3.heap[bo]? = some (.cells #[.string (bs nm), .int .i64 0, .int .i64 0, .int .i64 0, .int .i64 0, .int .i64 0, .int .i64 1, .int .i64 0, .int .i64 1] 50 (0, 0)))
    (h : (nm == [83, 80, 79, 84]) = true ∨ (nm == [69, 88, 84, 69]) = true ∨ (nm == [77, 84, 70, 88]) = true ∨ (nm == [77, 84, 70, 89]) = true) : CutRel nm bo y3 (y3.setCell ⟨bo, 3, none⟩ (.int .i64 15)) := by
  have e : nm = [83, 80, 79, 84] ∨ nm = [69, 88, 84, 69] ∨ nm = [77, 84, 70, 88] ∨ nm = [77, 84, 70, 89] := by
    rcases h with h | h | h | h
    · exact Or.inl (name_yes (m := [83, 80, 79, 84]) h)
    · exact Or.inr (Or.inl (name_yes (m := [69, 88, 84, 69]) h))
    · exact Or.inr (Or.inr (Or.inl (name_yes (m := [77, 84, 70, 88]) h)))
    · exact Or.inr (Or.inr (Or.inr (name_yes (m := [77, 84, 70, 89]) h)))
  have ho := obj_setCell hp 3 (.int .i64 15)
  exact ⟨0, 15, (args_of (nm := nm)).2.1 e, by simpa [opCells, leastX] using ho, (Below.refl bo y3).setCell (p := ⟨bo, 3, none⟩) (Nat.le_refl _) _⟩
theorem no_both {a : List UInt8} (b : List UInt8) {P : Prop} (h : (a == b) = true) (h' : (a == b) = false) : P := by rw [h] at h'; cases h'
theorem cut_rest {nm : List UInt8} {bo : Nat} {y3 : World} (hp : y3.heap[bo]? = some (.cells #[.string (bs nm), .int .i64 0, .int .i64 0, .int .i64 0, .int .i64 0, .int .i64 0, .int .i64 1, .int .i64 0, .int .i64 1] 50 (0, 0)))
    (h0 : (nm == [80, 65, 82, 77]) = false) (h1 : (nm == [83, 80, 79, 84]) = false) (h2 : (nm == [69, 88, 84, 69]) = false) (h3 : (nm == [77, 84, 70, 88]) = false) (h4 : (nm == [77, 84, 70, 89]) = false) : CutRel nm bo y3 y3 := by
  have no : ∀ {m : List UInt8}, (nm == m) = false → nm ≠ m := fun h e => by rw [e] at h; simp at h
  exact ⟨0, 0, (args_of (nm := nm)).2.2 (no (m := [80, 65, 82, 77]) h0) (no (m := [83, 80, 79, 84]) h1) (no (m := [69, 88, 84, 69]) h2) (no (m := [77, 84, 70, 88]) h3) (no (m := [77, 84, 70, 89]) h4), by simpa [opCells, leastX] using hp, Below.refl bo y3⟩
set_option maxRecDepth 100000 in
theorem chain9 : Value.agg (((((((((((((((((((((((((((((((((((((((((((((((((((((((((((((((((((((((((((((((((Tryz.zeroCells51.setIfInBounds 0 (Value.string { data := #[] })).setIfInBounds 1 (Value.int .i64 0)).setIfInBounds 2 (Value.int .i64 0)).setIfInBounds 3 (Value.int .i64 0)).setIfInBounds 4 (Value.int .i64 0)).setIfInBounds 5 (Value.int .i64 0)).setIfInBounds 6 (Value.int .i64 0)).setIfInBounds 7 (Value.int .i64 0)).setIfInBounds 8 (Value.int .i64 0)).setIfInBounds 9 (Value.string { data := #[84, 82, 65, 67] })).setIfInBounds 10 (Value.int .i64 0)).setIfInBounds 11 (Value.int .i64 0)).setIfInBounds 12 (Value.int .i64 0)).setIfInBounds 13 (Value.int .i64 0)).setIfInBounds 14 (Value.int .i64 0)).setIfInBounds 15 (Value.int .i64 1)).setIfInBounds 16 (Value.int .i64 0)).setIfInBounds 17 (Value.int .i64 0)).setIfInBounds 18 (Value.string { data := #[84, 82, 65, 67] })).setIfInBounds 19 (Value.int .i64 0)).setIfInBounds 20 (Value.int .i64 0)).setIfInBounds 21 (Value.int .i64 0)).setIfInBounds 22 (Value.int .i64 0)).setIfInBounds 23 (Value.int .i64 0)).setIfInBounds 24 (Value.int .i64 2)).setIfInBounds 25 (Value.int .i64 0)).setIfInBounds 26 (Value.int .i64 1)).setIfInBounds 27 (Value.string { data := #[84, 82, 65, 67] })).setIfInBounds 28 (Value.int .i64 0)).setIfInBounds 29 (Value.int .i64 0)).setIfInBounds 30 (Value.int .i64 0)).setIfInBounds 31 (Value.int .i64 0)).setIfInBounds 32 (Value.int .i64 0)).setIfInBounds 33 (Value.int .i64 4)).setIfInBounds 34 (Value.int .i64 0)).setIfInBounds 35 (Value.int .i64 0)).setIfInBounds 36 (Value.string { data := #[84, 82, 65, 67] })).setIfInBounds 37 (Value.int .i64 0)).setIfInBounds 38 (Value.int .i64 0)).setIfInBounds 39 (Value.int .i64 0)).setIfInBounds 40 (Value.int .i64 0)).setIfInBounds 41 (Value.int .i64 1)).setIfInBounds 42 (Value.int .i64 2)).setIfInBounds 43 (Value.int .i64 0)).setIfInBounds 44 (Value.int .i64 0)).setIfInBounds 45 (Value.string { data := #[69, 70, 70, 76] })).setIfInBounds 46 (Value.int .i64 5)).setIfInBounds 47 (Value.int .i64 0)).setIfInBounds 48 (Value.int .i64 0)).setIfInBounds 49 (Value.int .i64 0)).setIfInBounds 50 (Value.int .i64 0)).setIfInBounds 51 (Value.int .i64 2)).setIfInBounds 52 (Value.int .i64 0)).setIfInBounds 53 (Value.int .i64 0)).setIfInBounds 54 (Value.string { data := #[80, 65, 82, 77] })).setIfInBounds 55 (Value.int .i64 0)).setIfInBounds 56 (Value.int .i64 18)).setIfInBounds 57 (Value.int .i64 0)).setIfInBounds 58 (Value.int .i64 0)).setIfInBounds 59 (Value.int .i64 0)).setIfInBounds 60 (Value.int .i64 2)).setIfInBounds 61 (Value.int .i64 0)).setIfInBounds 62 (Value.int .i64 0)).setIfInBounds 63 (Value.string { data := #[69, 68, 71, 69] })).setIfInBounds 64 (Value.int .i64 0)).setIfInBounds 65 (Value.int .i64 (-1))).setIfInBounds 66 (Value.int .i64 0)).setIfInBounds 67 (Value.int .i64 0)).setIfInBounds 68 (Value.int .i64 0)).setIfInBounds 69 (Value.int .i64 3)).setIfInBounds 70 (Value.int .i64 0)).setIfInBounds 71 (Value.int .i64 0)).setIfInBounds 72 (Value.string { data := #[84, 82, 65, 67] })).setIfInBounds 73 (Value.int .i64 0)).setIfInBounds 74 (Value.int .i64 0)).setIfInBounds 75 (Value.int .i64 0)).setIfInBounds 76 (Value.int .i64 0)).setIfInBounds 77 (Value.int .i64 0)).setIfInBounds 78 (Value.int .i64 3)).setIfInBounds 79 (Value.int .i64 1000000000001)).setIfInBounds 80 (Value.int .i64 0)) = w9V := by kernel_rfl
end Go.Proofs.YtpicmhbjiaegpaaGreatDoor

namespace Go.Proofs.YtpicmhbjiaegpaaGreatDoor
open Go.RowKit

def ManyF (b1 g i : Nat) (w wr : World) : Prop := OwnR OpdR 9 50 g wr (.slice (some ⟨g, 0, none⟩) 13 13) (List.replicate i oneX ++ List.replicate (13 - i) zeroO) ∧ wr.heap[b1]? = some (.cells (opCells oneX 4 4 (-2000000) 2000000 0).toArray 50 (0, 0)) ∧ Below w.heap.size w wr ∧ GW wr
theorem many_step {b1 g i : Nat} {w wr : World} (hi13 : i < 13) (h : ManyF b1 g i w wr) (hne : b1 ≠ g) (hwg : w.heap.size ≤ g) (h8 : 8 ≤ g) : ManyF b1 g (i + 1) w (wr.setCells g (i * 9) (opCells oneX 4 4 (-2000000) 2000000 0)) := by
  obtain ⟨hown, h1, hb, hgr⟩ := h
  have hset := hown.set opdOkR (i := i) (by simp; omega) (x := oneX) (cs := opCells oneX 4 4 (-2000000) 2000000 0) ⟨4, 4, -2000000, 2000000, 0, rfl, rfl⟩
  rw [ones_set i hi13] at hset
  exact ⟨hset, (keptOn_setCells g (opCells oneX 4 4 (-2000000) 2000000 0) (i * 9) wr b1 hne).trans h1, below_setCells (B := w.heap.size) (b := g) hwg (opCells oneX 4 4 (-2000000) 2000000 0) (i * 9) hb, hgr.of (below_setCells (B := g) (b := g) (Nat.le_refl _) (opCells oneX 4 4 (-2000000) 2000000 0) (i * 9) (Below.refl g wr)) h8⟩
theorem many_there {b1 g i : Nat} {w wr : World} (hi13 : i < 13) (h : ManyF b1 g i w wr) : wr.there g (i * 9) 9 := h.1.there (i := i) (by simp; omega)
/-- the list of thirteen in the making -/
def ManyRel (b1 g : Nat) (w : World) (iv : Value) (wr : World) : Prop := ∃ i : Nat, i ≤ 13 ∧ iv = .int .i64 (i : Int) ∧ ManyF b1 g i w wr
/-- the loop of the wrong ones -/
def WrongRel (b1 : Nat) (w : World) (iv : Value) (wr : World) : Prop := ∃ k : Nat, k ≤ 9 ∧ iv = .int .i64 (k : Int) ∧ Below w.heap.size w wr ∧ GW wr ∧ wr.heap[b1]? = some (.cells (opCells oneX 4 4 (-2000000) 2000000 0).toArray 50 (0, 0))
theorem x_cells {x : Opd} {a0 a1 a2 a3 a4 : Int} {b : Nat} {wx : World} (h : wx.heap[b]? = some (.cells (opCells x a0 a1 a2 a3 a4).toArray 50 (0, 0))) : wx.rangeAt b 0 (opCells x a0 a1 a2 a3 a4) := by
  intro j v hv
  rw [Nat.zero_add, obj_cell h j]
  simpa [opCells] using hv
/-- the loop of the names -/
def NameRel (bN : Nat) (w : World) (iv : Value) (wr : World) : Prop := ∃ k : Nat, k ≤ 24 ∧ iv = .int .i64 (k : Int) ∧ Below w.heap.size w wr ∧ GW wr ∧ wr.heap[bN]? = some (.cells (strCs (kindTab.map (·.1))).toArray 9 (0, 0))
set_option maxRecDepth 100000 in
set_option maxHeartbeats 6400000 in
theorem known_walk (w : World) (hg : GW w) : Calls Tryz.prog 6 #[] w (RetB w (.bool true)) := by
  have Hg := Lib.hid hg; clear hg
  go_enter Tryz.func6, Tryz.ntmps6
  go_wp2_with fail
  refine (works_any w Hg.out).mono ?_
  rintro e w1 ⟨rfl, hb1⟩
  have Hb1 := Lib.hid hb1; have Hg1 := Lib.hid (Hg.out.below hb1)
  have hs1 := hb1.size
  clear hb1 Hg
  go_upto_region 4 with fail
  refine step_world (fun wx => wx.heap[w1.heap.size]? = some (.cells (opCells oneX 4 4 (-2000000) 2000000 0).toArray 50 (0, 0)) ∧ Below w1.heap.size w1 wx) ⟨heap_alloc_new w1 _, (Below.refl w1.heap.size w1).alloc (Nat.le_refl _) _⟩ ?_
  rintro w2 ⟨h1, hb2⟩
  have hl1 := lt_of_block h1
  have hr1 : ∀ wx : World, wx.heap[w1.heap.size]? = some (.cells (opCells oneX 4 4 (-2000000) 2000000 0).toArray 50 (0, 0)) → wx.rangeAt w1.heap.size 0 (opCells oneX 4 4 (-2000000) 2000000 0) := by
    intro wx hwx j v hv
    rw [Nat.zero_add, obj_cell hwx j]
    simpa [opCells] using hv
  have Hr1 := Lib.hid hr1; have H1 := Lib.hid h1; have Hb2 := Lib.hid (Hb1.out.trans (hb2.mono Hb1.out.size)); have Hg2 := Lib.hid (Hg1.out.below hb2)
  clear hr1 h1 hb2 Hb1 Hg1
  have Hr2 := Lib.hid (Hr1.out w2 H1.out)
  go_wp2_with (refine wpL_load_op Hr2.out rfl (.tmp 1) rfl rfl ?_)
  refine (text_lit1 oneX 4 4 (-2000000) 2000000 0 rfl w2 Hg2.out).mono ?_
  rintro e w3 ⟨rfl, hb3⟩
  rw [one_text.1, one_text.2.1]
  have H3 := Lib.hid ((hb3.block w1.heap.size hl1).trans H1.out); have Hb3 := Lib.hid (Hb2.out.trans (hb3.mono Hb2.out.size)); have Hg3 := Lib.hid (Hg2.out.below hb3)
  have hs3 := hb3.size
  clear hb3 H1 Hb2 Hg2 Hr2
  go_wp2_with (refine wpList_make13 rfl _ _ rfl rfl rfl ?_; intro w4 hown4 hb4)
  have H4 := Lib.hid ((hb4.block w1.heap.size (by omega)).trans H3.out); have Hb4 := Lib.hid (Hb3.out.trans (hb4.mono Hb3.out.size)); have Hg4 := Lib.hid (Hg3.out.below hb4); have Hown4 := Lib.hid hown4
  have h8 := Hg3.out.sz
  have hs4 := hb4.size
  have hbw3 := Hb3.out.size
  clear hb4 hown4 H3 Hb3 Hg3
  go_loopw [30] (ManyRel w1.heap.size w3.heap.size w) (fun iv _ => 13 - (intOf iv).toNat)
  case atStart => exact ⟨0, by omega, rfl, Hown4.out, H4.out, Hb4.out, Hg4.out⟩
  case round =>
    obtain ⟨i, hi, rfl, hf⟩ := hrel
    have Hf := Lib.hid hf
    clear hf Hown4 H4 Hb4 Hg4
    by_cases hi13 : i < 13
    · have hr2 := Hr1.out wr Hf.out.2.1
      have Hr2 := Lib.hid hr2
      clear hr2
      go_wp2_with (first
        | (refine wpL_load_op Hr2.out rfl (.tmp 1) rfl rfl ?_)
        | (refine wpL_store_opAt (x := oneX) (a0 := 4) (a1 := 4) (a2 := -2000000) (a3 := 2000000) (a4 := 0) (many_there hi13 Hf.out) rfl (.tmp 36) (.tmp 35) rfl rfl rfl ?_; refine step_list (fun wx => ManyF w1.heap.size w3.heap.size (i + 1) w wx) (many_step hi13 Hf.out (by omega) (by omega) (by omega)) ?_; intro w5 hf5; have Hf5 := Lib.hid hf5; clear hf5))
      go_roundw
      case rel => exact ⟨i + 1, by omega, by go_num, Hf5.out⟩
      case measure => simp [intOf]; omega
    · obtain rfl : i = 13 := by omega
      rw [show ((13 : Nat) : Int) = 13 from rfl]
      obtain ⟨hown, h1, hb, hgr⟩ := Hf.out
      have hrr := hown.rr opdOkR
      rw [show List.replicate 13 oneX ++ List.replicate (13 - 13) zeroO = List.replicate 13 oneX by simp] at hrr
      have Hrr := Lib.hid hrr; have H5 := Lib.hid h1; have Hb5 := Lib.hid hb; have Hg5 := Lib.hid hgr
      clear hown h1 hb hgr hrr Hf
      go_upto_region 11 with fail
      have Hrr_w := Hrr; have Hb_w := Hb5; have Hg_w := Hg5; have H1_w := H5
      clear Hrr Hb5 Hg5 H5
      refine wp_region_floats 34 [] [] [(0, true), (1, true), (2, true), (3, true), (4, true), (5, true), (6, true), (7, true), (8, true), (9, false), (10, true), (11, true), (12, true), (13, true), (14, false), (15, true), (16, true), (17, true), (18, false), (19, true), (20, true), (21, true), (22, true), (23, true), (24, false), (25, true), (26, true), (27, true), (28, true), (29, true), (30, true), (31, false), (32, true), (33, true)] (by kernel_rfl) (by kernel_rfl) ⟨by simp, by simp, fun _ h => by cases h⟩ (fun _ _ _ _ _ h => h) (fun _ _ o _ _ h => by cases o <;> exact h) ?_
      iterate 9
        refine wpG_yield (v := ?_) rfl rfl (by rfl) ?_ ?_
        rotate_left
        · intro y hy
          go_simp
          all_goals with_reducible rfl
        try simp only [Act.put, List.setIfInBounds_toArray, List.set_cons_zero, List.set_cons_succ]
      refine wpG_stepw rfl (by rfl) (fun x1 hx1' K hK => ?_)
      go_simp
      have hx1 : Below wr.heap.size wr x1 := below_undrew (k := 1) hx1'
      refine (check_any ((List.replicate 13 oneX).take 12) _ 12 13 x1 (rr_take (Hrr_w.out.go opdOkR hx1) 12 (by omega)) (by omega)).mono ?_
      rintro e wA ⟨rfl, hb6⟩
      refine hK _ _ hb6 ?_
      clear hK K
      rw [ones_take 12 (by omega), many_ok.1]
      have hb7 := hx1.trans (hb6.mono hx1.size)
      have Hrr_wA := Lib.hid (Hrr_w.out.go opdOkR hb7); have Hb_wA := Lib.hid (Hb_w.out.trans (hb7.mono Hb_w.out.size)); have Hg_wA := Lib.hid (Hg_w.out.below hb7); have H1_wA := Lib.hid ((hb7.block w1.heap.size (lt_of_block H1_w.out)).trans H1_w.out)
      clear hx1 hx1' hb6 hb7 Hrr_w Hb_w Hg_w H1_w
      try simp only [Act.put, List.setIfInBounds_toArray, List.set_cons_zero, List.set_cons_succ]
      iterate 4
        refine wpG_yield (v := ?_) rfl rfl (by rfl) ?_ ?_
        rotate_left
        · intro y hy
          go_simp
          all_goals with_reducible rfl
        try simp only [Act.put, List.setIfInBounds_toArray, List.set_cons_zero, List.set_cons_succ]
      refine wpG_stepw rfl (by rfl) (fun x1 hx1' K hK => ?_)
      go_simp
      have hx1 : Below wA.heap.size wA x1 := hx1'
      refine (check_any (List.replicate 13 oneX) _ 13 13 x1 (Hrr_wA.out.go opdOkR hx1) (by omega)).mono ?_
      rintro e wB ⟨rfl, hb6⟩
      refine hK _ _ hb6 ?_
      clear hK K
      rw [many_ok.2.1]
      have hb7 := hx1.trans (hb6.mono hx1.size)
      have Hrr_wB := Lib.hid (Hrr_wA.out.go opdOkR hb7); have Hb_wB := Lib.hid (Hb_wA.out.trans (hb7.mono Hb_wA.out.size)); have Hg_wB := Lib.hid (Hg_wA.out.below hb7); have H1_wB := Lib.hid ((hb7.block w1.heap.size (lt_of_block H1_wA.out)).trans H1_wA.out)
      clear hx1 hx1' hb6 hb7 Hrr_wA Hb_wA Hg_wA H1_wA
      try simp only [Act.put, List.setIfInBounds_toArray, List.set_cons_zero, List.set_cons_succ]
      iterate 3
        refine wpG_yield (v := ?_) rfl rfl (by rfl) ?_ ?_
        rotate_left
        · intro y hy
          go_simp
          all_goals with_reducible rfl
        try simp only [Act.put, List.setIfInBounds_toArray, List.set_cons_zero, List.set_cons_succ]
      refine wpG_stepw rfl (by rfl) (fun x1 hx1' K hK => ?_)
      go_simp
      have hx1 : Below wB.heap.size wB x1 := hx1'
      refine (check_any [] none 0 0 x1 (RR.nil _ _ _ _ _ _) (by omega)).mono ?_
      rintro e wC ⟨rfl, hb6⟩
      refine hK _ _ hb6 ?_
      clear hK K
      rw [many_ok.2.2]
      have hb7 := hx1.trans (hb6.mono hx1.size)
      have Hrr_wC := Lib.hid (Hrr_wB.out.go opdOkR hb7); have Hb_wC := Lib.hid (Hb_wB.out.trans (hb7.mono Hb_wB.out.size)); have Hg_wC := Lib.hid (Hg_wB.out.below hb7); have H1_wC := Lib.hid ((hb7.block w1.heap.size (lt_of_block H1_wB.out)).trans H1_wB.out)
      clear hx1 hx1' hb6 hb7 Hrr_wB Hb_wB Hg_wB H1_wB
      try simp only [Act.put, List.setIfInBounds_toArray, List.set_cons_zero, List.set_cons_succ]
      iterate 5
        refine wpG_yield (v := ?_) rfl rfl (by rfl) ?_ ?_
        rotate_left
        · intro y hy
          go_simp
          all_goals with_reducible rfl
        try simp only [Act.put, List.setIfInBounds_toArray, List.set_cons_zero, List.set_cons_succ]
      refine wpG_stepw rfl (by rfl) (fun x1 hx1' K hK => ?_)
      go_simp
      have hx1 : Below wC.heap.size wC x1 := hx1'
      refine (osame_any [] ((List.replicate 13 oneX).take 0) none _ 0 0 0 13 x1 (RR.nil _ _ _ _ _ _) (rr_take (Hrr_wC.out.go opdOkR hx1) 0 (by omega)) (by omega) (by omega)).mono ?_
      rintro e wD ⟨rfl, hb6⟩
      refine hK _ _ hb6 ?_
      clear hK K
      rw [List.take_zero, decide_eq_true rfl]
      have hb7 := hx1.trans (hb6.mono hx1.size)
      have Hrr_wD := Lib.hid (Hrr_wC.out.go opdOkR hb7); have Hb_wD := Lib.hid (Hb_wC.out.trans (hb7.mono Hb_wC.out.size)); have Hg_wD := Lib.hid (Hg_wC.out.below hb7); have H1_wD := Lib.hid ((hb7.block w1.heap.size (lt_of_block H1_wC.out)).trans H1_wC.out)
      clear hx1 hx1' hb6 hb7 Hrr_wC Hb_wC Hg_wC H1_wC
      try simp only [Act.put, List.setIfInBounds_toArray, List.set_cons_zero, List.set_cons_succ]
      iterate 6
        refine wpG_yield (v := ?_) rfl rfl (by rfl) ?_ ?_
        rotate_left
        · intro y hy
          go_simp
          all_goals with_reducible rfl
        try simp only [Act.put, List.setIfInBounds_toArray, List.set_cons_zero, List.set_cons_succ]
      refine wpG_stepw rfl (by rfl) (fun x1 hx1' K hK => ?_)
      go_simp
      have hx1 : Below wD.heap.size wD x1 := hx1'
      refine (osame_any ((List.replicate 13 oneX).take 1) ((List.replicate 13 oneX).take 2) _ _ 1 2 13 13 x1 (rr_take (Hrr_wD.out.go opdOkR hx1) 1 (by omega)) (rr_take (Hrr_wD.out.go opdOkR hx1) 2 (by omega)) (by omega) (by omega)).mono ?_
      rintro e wE ⟨rfl, hb6⟩
      refine hK _ _ hb6 ?_
      clear hK K
      rw [ones_take 1 (by omega), ones_take 2 (by omega), decide_eq_false (show ¬ List.replicate 1 oneX = List.replicate 2 oneX by simp)]
      have hb7 := hx1.trans (hb6.mono hx1.size)
      have Hrr_wE := Lib.hid (Hrr_wD.out.go opdOkR hb7); have Hb_wE := Lib.hid (Hb_wD.out.trans (hb7.mono Hb_wD.out.size)); have Hg_wE := Lib.hid (Hg_wD.out.below hb7); have H1_wE := Lib.hid ((hb7.block w1.heap.size (lt_of_block H1_wD.out)).trans H1_wD.out)
      clear hx1 hx1' hb6 hb7 Hrr_wD Hb_wD Hg_wD H1_wD
      try simp only [Act.put, List.setIfInBounds_toArray, List.set_cons_zero, List.set_cons_succ]
      iterate 2
        refine wpG_yield (v := ?_) rfl rfl (by rfl) ?_ ?_
        rotate_left
        · intro y hy
          go_simp
          all_goals with_reducible rfl
        try simp only [Act.put, List.setIfInBounds_toArray, List.set_cons_zero, List.set_cons_succ]
      refine wpG_nil0 (l := [_]) rfl (fun wF hbF => ?_)
      have HbF := Lib.hid (Hb_wE.out.trans (hbF.mono Hb_wE.out.size)); have HgF := Lib.hid (Hg_wE.out.below hbF); have H1F := Lib.hid ((hbF.block w1.heap.size (lt_of_block H1_wE.out)).trans H1_wE.out)
      clear hbF Hrr_wE Hb_wE Hg_wE H1_wE
      go_upto_region 13 with fail
      generalize hK9 : Value.agg (((((((((((((((((((((((((((((((((((((((((((((((((((((((((((((((((((((((((((((((((Tryz.zeroCells51.setIfInBounds 0 (Value.string { data := #[] })).setIfInBounds 1 (Value.int .i64 0)).setIfInBounds 2 (Value.int .i64 0)).setIfInBounds 3 (Value.int .i64 0)).setIfInBounds 4 (Value.int .i64 0)).setIfInBounds 5 (Value.int .i64 0)).setIfInBounds 6 (Value.int .i64 0)).setIfInBounds 7 (Value.int .i64 0)).setIfInBounds 8 (Value.int .i64 0)).setIfInBounds 9 (Value.string { data := #[84, 82, 65, 67] })).setIfInBounds 10 (Value.int .i64 0)).setIfInBounds 11 (Value.int .i64 0)).setIfInBounds 12 (Value.int .i64 0)).setIfInBounds 13 (Value.int .i64 0)).setIfInBounds 14 (Value.int .i64 0)).setIfInBounds 15 (Value.int .i64 1)).setIfInBounds 16 (Value.int .i64 0)).setIfInBounds 17 (Value.int .i64 0)).setIfInBounds 18 (Value.string { data := #[84, 82, 65, 67] })).setIfInBounds 19 (Value.int .i64 0)).setIfInBounds 20 (Value.int .i64 0)).setIfInBounds 21 (Value.int .i64 0)).setIfInBounds 22 (Value.int .i64 0)).setIfInBounds 23 (Value.int .i64 0)).setIfInBounds 24 (Value.int .i64 2)).setIfInBounds 25 (Value.int .i64 0)).setIfInBounds 26 (Value.int .i64 1)).setIfInBounds 27 (Value.string { data := #[84, 82, 65, 67] })).setIfInBounds 28 (Value.int .i64 0)).setIfInBounds 29 (Value.int .i64 0)).setIfInBounds 30 (Value.int .i64 0)).setIfInBounds 31 (Value.int .i64 0)).setIfInBounds 32 (Value.int .i64 0)).setIfInBounds 33 (Value.int .i64 4)).setIfInBounds 34 (Value.int .i64 0)).setIfInBounds 35 (Value.int .i64 0)).setIfInBounds 36 (Value.string { data := #[84, 82, 65, 67] })).setIfInBounds 37 (Value.int .i64 0)).setIfInBounds 38 (Value.int .i64 0)).setIfInBounds 39 (Value.int .i64 0)).setIfInBounds 40 (Value.int .i64 0)).setIfInBounds 41 (Value.int .i64 1)).setIfInBounds 42 (Value.int .i64 2)).setIfInBounds 43 (Value.int .i64 0)).setIfInBounds 44 (Value.int .i64 0)).setIfInBounds 45 (Value.string { data := #[69, 70, 70, 76] })).setIfInBounds 46 (Value.int .i64 5)).setIfInBounds 47 (Value.int .i64 0)).setIfInBounds 48 (Value.int .i64 0)).setIfInBounds 49 (Value.int .i64 0)).setIfInBounds 50 (Value.int .i64 0)).setIfInBounds 51 (Value.int .i64 2)).setIfInBounds 52 (Value.int .i64 0)).setIfInBounds 53 (Value.int .i64 0)).setIfInBounds 54 (Value.string { data := #[80, 65, 82, 77] })).setIfInBounds 55 (Value.int .i64 0)).setIfInBounds 56 (Value.int .i64 18)).setIfInBounds 57 (Value.int .i64 0)).setIfInBounds 58 (Value.int .i64 0)).setIfInBounds 59 (Value.int .i64 0)).setIfInBounds 60 (Value.int .i64 2)).setIfInBounds 61 (Value.int .i64 0)).setIfInBounds 62 (Value.int .i64 0)).setIfInBounds 63 (Value.string { data := #[69, 68, 71, 69] })).setIfInBounds 64 (Value.int .i64 0)).setIfInBounds 65 (Value.int .i64 (-1))).setIfInBounds 66 (Value.int .i64 0)).setIfInBounds 67 (Value.int .i64 0)).setIfInBounds 68 (Value.int .i64 0)).setIfInBounds 69 (Value.int .i64 3)).setIfInBounds 70 (Value.int .i64 0)).setIfInBounds 71 (Value.int .i64 0)).setIfInBounds 72 (Value.string { data := #[84, 82, 65, 67] })).setIfInBounds 73 (Value.int .i64 0)).setIfInBounds 74 (Value.int .i64 0)).setIfInBounds 75 (Value.int .i64 0)).setIfInBounds 76 (Value.int .i64 0)).setIfInBounds 77 (Value.int .i64 0)).setIfInBounds 78 (Value.int .i64 3)).setIfInBounds 79 (Value.int .i64 1000000000001)).setIfInBounds 80 (Value.int .i64 0)) = K9
      have hK9' := hK9.symm.trans chain9
      have HK9 := Lib.hid hK9'
      clear hK9 hK9' hs3 hs4 h8 hl1
      go_loopw [86] (WrongRel w1.heap.size w) (fun iv _ => 9 - (intOf iv).toNat)
      case atStart => exact ⟨0, by omega, rfl, HbF.out, HgF.out, H1F.out⟩
      case round =>
        clear HbF HgF H1F
        obtain ⟨k, hk, rfl, hbk, hgk, h1k⟩ := hrel
        have Hb1 := Lib.hid hbk; have Hg1 := Lib.hid hgk; have H1 := Lib.hid h1k
        clear hbk hgk h1k
        by_cases hk9 : k < 9
        · obtain ⟨x, a0, a1, a2, a3, a4, hx, ha, hix0⟩ := index_w9 k hk9
          have hix : ∀ w, (Instr.index 51 K9 (.int .i64 (k : Int))).run Tryz.prog w = .ok (.agg #[.string (bs x.nm), .int .i64 a0, .int .i64 a1, .int .i64 a2, .int .i64 a3, .int .i64 a4, .int .i64 x.rel, .int .i64 x.tg, .int .i64 x.wt]) w := by rw [HK9.out]; exact hix0
          have hxx := wrong_all x hx
          have Hxx := Lib.hid hxx
          have hk8 : ¬ (8 : Int) < (k : Int) := by omega
          clear hix0 hx hxx
          go_upto_region 15 with fail
          clear hix
          refine step_world (fun wx => wx.heap[wr.heap.size]? = some (.cells (opCells x a0 a1 a2 a3 a4).toArray 50 (0, 0)) ∧ Below wr.heap.size wr wx) ⟨heap_alloc_new wr _, (Below.refl wr.heap.size wr).alloc (Nat.le_refl _) _⟩ ?_
          rintro y2 ⟨h8, hb2⟩
          have H12 := Lib.hid ((hb2.block w1.heap.size (lt_of_block H1.out)).trans H1.out); have H8 := Lib.hid h8; have Hb2 := Lib.hid (Hb1.out.trans (hb2.mono Hb1.out.size)); have Hg2 := Lib.hid (Hg1.out.below hb2)
          clear h8 hb2 Hb1 Hg1 H1
          have Hr1' := Lib.hid (Hr1.out y2 H12.out); have Hr8 := Lib.hid (x_cells H8.out)
          go_wp2_with (first
            | (refine wpL_load_op Hr1'.out rfl (.tmp 1) rfl rfl ?_)
            | (refine wpL_load_op Hr8.out rfl (.tmp 8) rfl rfl ?_))
          refine (text_lit2 oneX x 4 4 (-2000000) 2000000 0 a0 a1 a2 a3 a4 rfl ha y2 Hg2.out).mono ?_
          rintro e y3 ⟨rfl, hb3⟩
          rw [Hxx.out.1, Hxx.out.2.1, show bs [] = ({ data := #[] } : ByteArray) from rfl]
          have H13 := Lib.hid ((hb3.block w1.heap.size (lt_of_block H12.out)).trans H12.out); have H83 := Lib.hid ((hb3.block wr.heap.size (lt_of_block H8.out)).trans H8.out); have Hb3 := Lib.hid (Hb2.out.trans (hb3.mono Hb2.out.size)); have Hg3 := Lib.hid (Hg2.out.below hb3)
          clear hb3 H12 H8 Hb2 Hg2 Hr1' Hr8
          have Hr8 := Lib.hid (x_cells H83.out)
          go_wp2_with (refine wpL_load_op Hr8.out rfl (.tmp 8) rfl rfl ?_)
          refine (check_lit1 x a0 a1 a2 a3 a4 ha y3).mono ?_
          rintro e y4 ⟨rfl, hb4⟩
          rw [Hxx.out.2.2]
          have H14 := Lib.hid ((hb4.block w1.heap.size (lt_of_block H13.out)).trans H13.out); have Hb4 := Lib.hid (Hb3.out.trans (hb4.mono Hb3.out.size)); have Hg4 := Lib.hid (Hg3.out.below hb4)
          clear hb4 H13 H83 Hb3 Hg3 Hr8
          go_wp2_with fail
          go_roundw
          case rel => exact ⟨k + 1, by omega, by go_num, Hb4.out, Hg4.out, H14.out⟩
          case measure => simp [intOf]; omega
        · obtain rfl : k = 9 := by omega
          rw [show ((9 : Nat) : Int) = 9 from rfl]
          clear Hr1 HK9 H1
          go_wp2_with fail
          refine (names33_any wr).mono ?_
          rintro e y1 ⟨rfl, rfl⟩
          have hn1 := heap_alloc_new wr (.cells (strCs (kindTab.map (·.1))).toArray 9)
          have hb1 := (Below.refl wr.heap.size wr).alloc (Nat.le_refl _) (.cells (strCs (kindTab.map (·.1))).toArray 9)
          generalize (wr.alloc (.cells (strCs (kindTab.map (·.1))).toArray 9)) = y1 at *
          have HN1 := Lib.hid hn1; have Hb2 := Lib.hid (Hb1.out.trans (hb1.mono Hb1.out.size)); have Hg2 := Lib.hid (Hg1.out.below hb1)
          clear hn1 hb1 Hb1 Hg1
          go_upto_region 20 with fail
          obtain ⟨bN, hbN⟩ : ∃ bN, wr.heap.size = bN := ⟨_, rfl⟩
          rw [hbN] at HN1 ⊢
          clear hbN
          go_loopw [116] (NameRel bN w) (fun iv _ => 24 - (intOf iv).toNat)
          case atStart => exact ⟨0, by omega, rfl, Hb2.out, Hg2.out, HN1.out⟩
          case round =>
            clear Hb2 Hg2 HN1
            obtain ⟨k, hk, rfl, hbk, hgk, h1k⟩ := hrel
            have Hb1 := Lib.hid hbk; have Hg1 := Lib.hid hgk; have HN := Lib.hid h1k
            clear hbk hgk h1k
            by_cases hk24 : k < 24
            · obtain ⟨nm, ks, hmem, hat⟩ := name_at k hk24
              have hq : wr.cell? ⟨bN, k, none⟩ = some (.string (bs nm)) := by rw [obj_cell HN.out k, List.getElem?_toArray]; exact hat
              have hla := least_all _ hmem
              have Hla := Lib.hid hla
              clear hat hmem hla
              go_wp2_with fail
              refine (dZero_any wr).mono ?_
              rintro e y1 ⟨rfl, hb1⟩
              have HN1 := Lib.hid ((hb1.block bN (lt_of_block HN.out)).trans HN.out); have Hb2 := Lib.hid (Hb1.out.trans (hb1.mono Hb1.out.size)); have Hg2 := Lib.hid (Hg1.out.below hb1)
              clear hb1 hq Hb1 Hg1 HN
              go_upto_region 23 with fail
              refine step_world (fun wx => wx.heap[y1.heap.size]? = some (.cells #[.string { data := #[69, 70, 70, 76] }, .int .i64 0, .int .i64 0, .int .i64 0, .int .i64 0, .int .i64 0, .int .i64 1, .int .i64 0, .int .i64 1] 50 (0, 0)) ∧ Below y1.heap.size y1 wx) ⟨heap_alloc_new y1 _, (Below.refl y1.heap.size y1).alloc (Nat.le_refl _) _⟩ ?_
              rintro y2 ⟨hp2, hb2⟩
              have q0 : y2.cell? ⟨y1.heap.size, 0, none⟩ = some (.string { data := #[69, 70, 70, 76] }) := obj_cell hp2 0
              have f0 : y2.frozen? ⟨y1.heap.size, 0, none⟩ = false := by rw [World.frozen?, hp2]; rfl
              have q1 : y2.cell? ⟨y1.heap.size, 1, none⟩ = some (.int .i64 0) := obj_cell hp2 1
              have f1 : y2.frozen? ⟨y1.heap.size, 1, none⟩ = false := by rw [World.frozen?, hp2]; rfl
              have q2 : y2.cell? ⟨y1.heap.size, 2, none⟩ = some (.int .i64 0) := obj_cell hp2 2
              have f2 : y2.frozen? ⟨y1.heap.size, 2, none⟩ = false := by rw [World.frozen?, hp2]; rfl
              have q3 : y2.cell? ⟨y1.heap.size, 3, none⟩ = some (.int .i64 0) := obj_cell hp2 3
              have f3 : y2.frozen? ⟨y1.heap.size, 3, none⟩ = false := by rw [World.frozen?, hp2]; rfl
              have q4 : y2.cell? ⟨y1.heap.size, 4, none⟩ = some (.int .i64 0) := obj_cell hp2 4
              have f4 : y2.frozen? ⟨y1.heap.size, 4, none⟩ = false := by rw [World.frozen?, hp2]; rfl
              have q5 : y2.cell? ⟨y1.heap.size, 5, none⟩ = some (.int .i64 0) := obj_cell hp2 5
              have f5 : y2.frozen? ⟨y1.heap.size, 5, none⟩ = false := by rw [World.frozen?, hp2]; rfl
              have HP2 := Lib.hid hp2; have HN2 := Lib.hid ((hb2.block bN (lt_of_block HN1.out)).trans HN1.out); have Hb3 := Lib.hid (Hb2.out.trans (hb2.mono Hb2.out.size)); have Hg3 := Lib.hid (Hg2.out.below hb2)
              have hlb := lt_of_block HN1.out
              have hlw := Hb2.out.size
              have hl8 := Hg2.out.sz
              clear hp2 hb2 HN1 Hb2 Hg2
              go_upto_block 6 with fail
              refine step_world (fun wx => wx.heap[y1.heap.size]? = some (.cells #[.string (bs nm), .int .i64 0, .int .i64 0, .int .i64 0, .int .i64 0, .int .i64 0, .int .i64 1, .int .i64 0, .int .i64 1] 50 (0, 0)) ∧ Below y1.heap.size y2 wx) ⟨args_stored HP2.out, args_below (Nat.le_refl _)⟩ ?_
              rintro y3 ⟨hp3, hb3⟩
              have HP3 := Lib.hid hp3; have HN3 := Lib.hid ((hb3.block bN hlb).trans HN2.out); have Hb4 := Lib.hid (Hb3.out.trans (hb3.mono hlw)); have Hg4 := Lib.hid (Hg3.out.of hb3 hl8)
              clear hp3 hb3 q0 f0 q1 f1 q2 f2 q3 f3 q4 f4 q5 f5 HP2 HN2 Hb3 Hg3
              obtain ⟨bo, hbo⟩ : ∃ bo, y1.heap.size = bo := ⟨_, rfl⟩
              rw [hbo] at HP3 hlb hlw hl8 ⊢
              clear hbo
              go_cut [] (CutRel nm bo y3)
              case first =>
                have hp3 := HP3.out
                have q2 : y3.cell? ⟨bo, 2, none⟩ = some (.int .i64 0) := obj_cell hp3 2
                have f2 : y3.frozen? ⟨bo, 2, none⟩ = false := by rw [World.frozen?, hp3]; rfl
                have q3 : y3.cell? ⟨bo, 3, none⟩ = some (.int .i64 0) := obj_cell hp3 3
                have f3 : y3.frozen? ⟨bo, 3, none⟩ = false := by rw [World.frozen?, hp3]; rfl
                clear hp3 Hla HN3 Hb4 Hg4
                go_wp2_with fail
                all_goals
                  go_meet
                  first
                    | exact cut_parm HP3.out ‹_›
                    | exact cut_spot HP3.out (Or.inl ‹_›)
                    | exact cut_spot HP3.out (Or.inr (Or.inl ‹_›))
                    | exact cut_spot HP3.out (Or.inr (Or.inr (Or.inl ‹_›)))
                    | exact cut_spot HP3.out (Or.inr (Or.inr (Or.inr ‹_›)))
                    | exact cut_rest HP3.out ‹_› ‹_› ‹_› ‹_› ‹_›
                    | exact no_both [83, 80, 79, 84] ‹_› ‹_›
                    | exact no_both [69, 88, 84, 69] ‹_› ‹_›
                    | exact no_both [77, 84, 70, 88] ‹_› ‹_›
                    | exact no_both [77, 84, 70, 89] ‹_› ‹_›
              case rest =>
                obtain ⟨a1, a2, ha, hp, hb⟩ := hcut
                have HP := Lib.hid hp; have HN5 := Lib.hid ((hb.block bN hlb).trans HN3.out); have Hb5 := Lib.hid (Hb4.out.trans (hb.mono hlw)); have Hg5 := Lib.hid (Hg4.out.of hb hl8)
                clear hp hb HN3 HP3 Hb4 Hg4
                have Hr8 := Lib.hid (x_cells HP.out)
                go_wp2_with (refine wpL_load_op Hr8.out rfl (.tmp 13) rfl rfl ?_)
                refine (text_lit1 (leastX nm) 0 a1 a2 0 0 ha wc Hg5.out).mono ?_
                rintro e y5 ⟨rfl, hb6⟩
                rw [Hla.out.1]
                have HP6 := Lib.hid ((hb6.block bo (lt_of_block HP.out)).trans HP.out); have HN6 := Lib.hid ((hb6.block bN (lt_of_block HN5.out)).trans HN5.out); have Hb6 := Lib.hid (Hb5.out.trans (hb6.mono Hb5.out.size)); have Hg6 := Lib.hid (Hg5.out.below hb6)
                clear hb6 HP HN5 Hb5 Hg5 Hr8
                have Hr8 := Lib.hid (x_cells HP6.out)
                go_wp2_with (refine wpL_load_opG Hr8.out rfl (.tmp 13) rfl rfl ?_)
                refine (reads_lit1 (leastX nm) 0 a1 a2 0 0 ha (textB [leastX nm]) (Nat.le_trans Hla.out.2.2 (by decide)) y5 Hg6.out).mono ?_
                rintro e y6 ⟨rfl, hb7⟩
                rw [decide_eq_true Hla.out.2.1]
                have HN7 := Lib.hid ((hb7.block bN (lt_of_block HN6.out)).trans HN6.out); have Hb7 := Lib.hid (Hb6.out.trans (hb7.mono Hb6.out.size)); have Hg7 := Lib.hid (Hg6.out.below hb7)
                clear hb7 HP6 HN6 Hb6 Hg6 Hr8
                go_wp2_with fail
                go_roundw
                case rel => exact ⟨k + 1, by omega, by go_num, Hb7.out, Hg7.out, HN7.out⟩
                case measure => simp [intOf]; omega
            · obtain rfl : k = 24 := by omega
              rw [show ((24 : Nat) : Int) = 24 from rfl]
              clear HN
              go_wp2_with fail
              have hT0 := remark_reads 3999 (Nat.le_refl _)
              have hT1 : ((35 : UInt8) :: Lib.repeatL [120] 3999).length = 4000 := by rw [List.length_cons, Lib.repeatL_length]; rfl
              have hT3 : (Lib.repeatL [120] 3999).length ≤ 4000 := by rw [Lib.repeatL_length]; decide
              have hN1 : (Lib.repeatL [10] 4001).length = 4001 := by rw [Lib.repeatL_length]; rfl
              have hT2 : ({ data := #[35] } : ByteArray) ++ bs (Lib.repeatL [120] 3999) = bs (35 :: Lib.repeatL [120] 3999) := bs_append [35] _
              refine (repeat_any [120] 3999 wr (by decide) (by decide)).mono ?_
              rintro e y1 ⟨rfl, hb1⟩
              have Hb2 := Lib.hid (Hb1.out.trans (hb1.mono Hb1.out.size)); have Hg2 := Lib.hid (Hg1.out.below hb1)
              clear hb1 Hb1 Hg1
              generalize Lib.repeatL [120] 3999 = T0 at *
              generalize 35 :: T0 = T at *
              have HT0 := Lib.hid hT0; have HT1 := Lib.hid hT1
              have hT1' : T.length ≤ 4000 := by omega
              clear hT0 hT1
              have HN1 := Lib.hid hN1
              clear hN1
              go_upto_region 37 with fail
              clear hT2 hT3
              have hTx : bs T ++ ({ data := #[120] } : ByteArray) = bs (T ++ [120]) := bs_append T [120]
              generalize hN : Lib.repeatL [10] 4001 = M at *
              have HM := Lib.hid hN
              clear hN
              go_wp2_with fail
              refine (works_any y1 Hg2.out).mono ?_
              rintro e y2 ⟨rfl, hb⟩
              have Hb3 := Lib.hid (Hb2.out.trans (hb.mono Hb2.out.size)); have Hg3 := Lib.hid (Hg2.out.below hb)
              clear hb Hb2 Hg2
              go_wp2_with fail
              refine (reads_nil T (by rw [HT1.out]; decide) y2 Hg3.out).mono ?_
              rintro e y3 ⟨rfl, hb⟩
              rw [decide_eq_true HT0.out]
              have Hb4 := Lib.hid (Hb3.out.trans (hb.mono Hb3.out.size)); have Hg4 := Lib.hid (Hg3.out.below hb)
              clear hb Hb3 Hg3
              go_wp2_with fail
              refine (refuses_any (T ++ [120]) 0 3 y3 (by rw [List.length_append, HT1.out]; decide) Hg4.out).mono ?_
              rintro e y4 ⟨rfl, hb⟩
              rw [show refuseB (readT (T ++ [120])) 0 3 = true by rw [long_no (by rw [List.length_append, HT1.out]; decide)]; rfl]
              have Hb5 := Lib.hid (Hb4.out.trans (hb.mono Hb4.out.size)); have Hg5 := Lib.hid (Hg4.out.below hb)
              clear hb Hb4 Hg4
              go_wp2_with fail
              refine (repeat_any [10] 4001 y4 (by decide) (by decide)).mono ?_
              rintro e y5 ⟨rfl, hb⟩
              rw [HM.out]
              have Hb6 := Lib.hid (Hb5.out.trans (hb.mono Hb5.out.size)); have Hg6 := Lib.hid (Hg5.out.below hb)
              clear hb Hb5 Hg5
              go_wp2_with fail
              refine (refuses_any M 0 3 y5 (by rw [HN1.out]; decide) Hg6.out).mono ?_
              rintro e y6 ⟨rfl, hb⟩
              rw [show refuseB (readT M) 0 3 = true by rw [long_no (by rw [HN1.out]; decide)]; rfl]
              have Hb7 := Lib.hid (Hb6.out.trans (hb.mono Hb6.out.size)); have Hg7 := Lib.hid (Hg6.out.below hb)
              clear hb Hb6 Hg6
              go_wp2_with fail
              refine (reads_nil [] (by decide) y6 Hg7.out).mono ?_
              rintro e y7 ⟨rfl, hb⟩
              rw [show decide (readT [] = .ok []) = true by kernel_rfl]
              have Hb8 := Lib.hid (Hb7.out.trans (hb.mono Hb7.out.size)); have Hg8 := Lib.hid (Hg7.out.below hb)
              clear hb Hb7 Hg7
              go_wp2_with fail
              refine (reads_nil [10, 10] (by decide) y7 Hg8.out).mono ?_
              rintro e y8 ⟨rfl, hb⟩
              rw [show decide (readT [10, 10] = .ok []) = true by kernel_rfl]
              have Hb9 := Lib.hid (Hb8.out.trans (hb.mono Hb8.out.size)); have Hg9 := Lib.hid (Hg8.out.below hb)
              clear hb Hb8 Hg8
              go_wp2_with fail
              refine (refuses_any [10, 13, 10] 1 5 y8 (by decide) Hg9.out).mono ?_
              rintro e y9 ⟨rfl, hb⟩
              rw [show refuseB (readT [10, 13, 10]) 1 5 = true by kernel_rfl]
              have Hb10 := Lib.hid (Hb9.out.trans (hb.mono Hb9.out.size)); have Hg10 := Lib.hid (Hg9.out.below hb)
              clear hb Hb9 Hg9
              go_wp2_with fail
              refine (refuses_any [69, 70, 70, 76, 32, 48, 32, 61, 32, 49, 32, 49, 32, 59] 0 5 y9 (by decide) Hg10.out).mono ?_
              rintro e y10 ⟨rfl, hb⟩
              rw [show refuseB (readT [69, 70, 70, 76, 32, 48, 32, 61, 32, 49, 32, 49, 32, 59]) 0 5 = true by kernel_rfl]
              have Hb11 := Lib.hid (Hb10.out.trans (hb.mono Hb10.out.size)); have Hg11 := Lib.hid (Hg10.out.below hb)
              clear hb Hb10 Hg10
              go_wp2_with fail
              refine (refuses_any [69, 70, 70, 76, 32, 48, 48, 32, 61, 32, 49, 32, 49] 0 5 y10 (by decide) Hg11.out).mono ?_
              rintro e y11 ⟨rfl, hb⟩
              rw [show refuseB (readT [69, 70, 70, 76, 32, 48, 48, 32, 61, 32, 49, 32, 49]) 0 5 = true by kernel_rfl]
              have Hb12 := Lib.hid (Hb11.out.trans (hb.mono Hb11.out.size)); have Hg12 := Lib.hid (Hg11.out.below hb)
              clear hb Hb11 Hg11
              go_wp2_with fail
              refine (refuses_any [69, 70, 70, 76, 32, 45, 48, 32, 61, 32, 49, 32, 49] 0 5 y11 (by decide) Hg12.out).mono ?_
              rintro e y12 ⟨rfl, hb⟩
              rw [show refuseB (readT [69, 70, 70, 76, 32, 45, 48, 32, 61, 32, 49, 32, 49]) 0 5 = true by kernel_rfl]
              have Hb13 := Lib.hid (Hb12.out.trans (hb.mono Hb12.out.size)); have Hg13 := Lib.hid (Hg12.out.below hb)
              clear hb Hb12 Hg12
              go_wp2_with fail
              refine (refuses_any [69, 70, 70, 76, 32, 48, 32, 61, 32, 49, 48, 48, 48, 48, 48, 48, 46, 48, 48, 48, 48, 48, 49, 32, 49] 0 5 y12 (by decide) Hg13.out).mono ?_
              rintro e y13 ⟨rfl, hb⟩
              rw [show refuseB (readT [69, 70, 70, 76, 32, 48, 32, 61, 32, 49, 48, 48, 48, 48, 48, 48, 46, 48, 48, 48, 48, 48, 49, 32, 49]) 0 5 = true by kernel_rfl]
              have Hb14 := Lib.hid (Hb13.out.trans (hb.mono Hb13.out.size)); have Hg14 := Lib.hid (Hg13.out.below hb)
              clear hb Hb13 Hg13
              go_wp2_with fail
              refine (refuses_any [69, 70, 70, 76, 32, 48, 32, 61, 32, 49, 32, 49, 48, 48, 49] 0 5 y13 (by decide) Hg14.out).mono ?_
              rintro e y14 ⟨rfl, hb⟩
              rw [show refuseB (readT [69, 70, 70, 76, 32, 48, 32, 61, 32, 49, 32, 49, 48, 48, 49]) 0 5 = true by kernel_rfl]
              have Hb15 := Lib.hid (Hb14.out.trans (hb.mono Hb14.out.size)); have Hg15 := Lib.hid (Hg14.out.below hb)
              clear hb Hb14 Hg14
              go_wp2_with fail
              refine (refuses_any [69, 70, 70, 76, 32, 48, 32, 61, 62, 32, 49, 32, 49] 0 5 y14 (by decide) Hg15.out).mono ?_
              rintro e y15 ⟨rfl, hb⟩
              rw [show refuseB (readT [69, 70, 70, 76, 32, 48, 32, 61, 62, 32, 49, 32, 49]) 0 5 = true by kernel_rfl]
              have Hb16 := Lib.hid (Hb15.out.trans (hb.mono Hb15.out.size)); have Hg16 := Lib.hid (Hg15.out.below hb)
              clear hb Hb15 Hg15
              go_wp2_with fail
              refine (refuses_any [69, 70, 70, 76, 32, 48, 32] 0 5 y15 (by decide) Hg16.out).mono ?_
              rintro e y16 ⟨rfl, hb⟩
              rw [show refuseB (readT [69, 70, 70, 76, 32, 48, 32]) 0 5 = true by kernel_rfl]
              have Hb17 := Lib.hid (Hb16.out.trans (hb.mono Hb16.out.size)); have Hg17 := Lib.hid (Hg16.out.below hb)
              clear hb Hb16 Hg16
              go_wp2_with fail
              go_ret
              exact ⟨rfl, Hb17.out⟩
end Go.Proofs.YtpicmhbjiaegpaaGreatDoor

namespace Go.Proofs.YtpicmhbjiaegpaaGreatDoor
open Go.ChangeShapes Go.WideShapes Go.ChangeAt Go.RowKit

set_option maxRecDepth 100000 in
theorem knw_lifted (os : Os) (started : os.Started) (H : Type) (enc : TypeId × Value → H) :
    ReturnsInHanded {} Tryz.checked os 6 .any (fun w args => (Rows.operandKnownSpec.pre enc Tryz.prog Tryz.f6 [] false w args ∧ laidMetH Tryz.prog laid7 w) ∧ sizedMet enc Tryz.prog Tryz.f6 (OpenSpec.ofChange Rows.operandKnownSpec) false w args)
      (Rows.operandKnownSpec.post enc Tryz.prog Tryz.f6 false true false false) := by
  refine handed_shaped (C := Tryz.checked) (X := fun w _ => laidMetH Tryz.prog laid7 w) (fun _ _ _ hh h => h.of_heap hh) ownKnob_no started (by kernel_rfl) Tryz.func6
    (ChangeSpec.witness_shaped (enc := enc) (C := Tryz.checked) (os := os) (X := fun w _ => laidMetH Tryz.prog laid7 w) false (World.laidAll Tryz.prog os laid7)
      #[] 8 (World.laidAll_os _ _ _) (laid_shaped os _) (by kernel_rfl) (by kernel_rfl) (by kernel_rfl) (laid_world os _)) ?_
  intro W base args ds gs before hval0 hW hL hsh
  have hval : ∀ (j : Nat) t v, Tryz.f6.params[j]? = some t → args[j]? = some v → Value.okWide Tryz.prog W .any base t v := hval0
  have hW' := hW
  obtain ⟨p, q, hA0, hV, rfl, hfz, hnd⟩ := hW
  have hA : DataW.TrodAll enc Tryz.prog W 0 (fun _ => true) true Tryz.f6.params.toList args.toList ds p := hA0
  rw [Tryz.params6] at hA hval
  obtain ⟨hargs, rfl, rfl⟩ := trodAll_nil hA
  obtain rfl : args = #[] := by cases args; simp_all
  obtain ⟨rfl, rfl⟩ := trodVars_none hV
  refine (known_walk W (gw_of hsh hL)).mono fun e W' ⟨he, bel⟩ => ?_
  subst he
  exact ⟨_, rfl, _, _, _, [], _, [], hW', trodAll_mk1 (shut_bool Tryz.underlying4 _), trodAll_below bel _ _ _ _ (all_of (by kernel_rfl)) hA, rfl, bel.frame _, fun h => by cases h⟩

theorem knw_said : Rows.OperandKnownSaid :=
  OpenClaim.holds_of_wide 6 Tryz.f6 rfl rfl rfl rfl rfl rfl rfl ⟨rfl, rfl, rfl, rfl, rfl⟩ rfl rfl rfl rfl rfl (by kernel_rfl) Tryz.func6 (by kernel_rfl)
    (of_decide_eq_true (by kernel_rfl)) (by unfold Func.isWrapper; first | (rw [if_pos (by decide +kernel)]; kernel_rfl) | (rw [if_neg (by decide +kernel)]; exact ⟨rfl, rfl⟩))
    (fun os started H enc _ => knw_lifted os started H enc)
end Go.Proofs.YtpicmhbjiaegpaaGreatDoor
