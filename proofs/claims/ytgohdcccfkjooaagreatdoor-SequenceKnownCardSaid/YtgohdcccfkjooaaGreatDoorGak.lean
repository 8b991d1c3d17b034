/-
  DERIVED. Several texts in one: SqKa, SqKb, SqKc, SqKd, SqKe, SqKf, SqKg, SqKi.
-/
import Derived.Test.YtgohdcccfkjooaaGreatDoorHSqTe
import Derived.Test.YtgohdcccfkjooaaGreatDoorGaj
import Derived.Test.YtgohdcccfkjooaaGreatDoorGah
namespace Go.Proofs.YtgohdcccfkjooaaGreatDoor
open Go.RowKit

def flatS (t : Int) : SurfC := ⟨⟨1, 0, 0, 0, 0, 0, 0, 0, 0, 0, 0, 0, t, ⟨#[]⟩, 0, 0, 0, 0, 0, 0, 0⟩, []⟩
def flatD : LensD := ⟨⟨#[70]⟩, 0, 10000000, 0, 0, [0, 0, 0, 750000], [550000, 1], [flatS 10000000, flatS 0], []⟩
def plainL : List (List UInt8) := [[108, 101, 110, 115, 32, 70], [111, 98, 106, 101, 99, 116, 32, 105, 110, 102, 105, 110, 105, 116, 121], [112, 117, 112, 105, 108, 32, 49, 48], [115, 116, 111, 112, 32, 48], [112, 114, 105, 109, 97, 114, 121, 32, 48], [102, 105, 101, 108, 100, 32, 48, 32, 48], [102, 105, 101, 108, 100, 32, 48, 32, 48, 46, 55, 53], [119, 97, 118, 101, 32, 53, 53, 48, 32, 49], [115, 117, 114, 102, 97, 99, 101, 32, 115, 116, 97, 110, 100, 97, 114, 100], [116, 104, 105, 99, 107, 32, 49, 48], [115, 117, 114, 102, 97, 99, 101, 32, 115, 116, 97, 110, 100, 97, 114, 100], [101, 110, 100]]
def textL (ss : List (List UInt8)) : List UInt8 := (ss.map (· ++ [10])).flatten
def putT (i : Nat) (ws : List (List UInt8)) : List UInt8 := textL (plainL.take i ++ ws ++ plainL.drop (i + 1))
theorem flat_valid : validB flatD = true := by kernel_rfl
theorem flat_text : lensT flatD = textL plainL := by kernel_rfl
theorem flat_read : readS (textL plainL) = ⟨flatD, 0, 0⟩ := by kernel_rfl
end Go.Proofs.YtgohdcccfkjooaaGreatDoor

namespace Go.Proofs.YtgohdcccfkjooaaGreatDoor
open Go.RowKit

def curvedD : LensD := { flatD with l := [{ flatS 10000000 with s := { (flatS 10000000).s with curv := 10000000 } }, flatS 0] }
def failS (t : List UInt8) (line : Int) (e : Int) : Prop := readS t = ⟨lensN, line, e⟩
theorem ex_curved : readS (putT 9 [[116, 104, 105, 99, 107, 32, 49, 48], [99, 117, 114, 118, 32, 48, 46, 48, 49]]) = ⟨curvedD, 0, 0⟩ := by kernel_rfl
theorem ex_f1 : failS (putT 7 [[119, 97, 118, 101, 32, 53, 53, 48, 46, 48, 32, 49]]) 8 5 := by unfold failS; kernel_rfl
theorem ex_f2 : failS (putT 9 [[116, 104, 105, 99, 107, 32, 49, 48], [116, 104, 105, 99, 107, 32, 49, 48]]) 11 5 := by unfold failS; kernel_rfl
theorem ex_f3 : failS (putT 11 []) 12 5 := by unfold failS; kernel_rfl
theorem ex_f5 : failS (putT 3 [[115, 116, 111, 112, 32, 49]]) 0 120 := by unfold failS; kernel_rfl
theorem ex_e1 : failS (putT 5 [[115, 117, 114, 102, 97, 99, 101, 32, 115, 116, 97, 110, 100, 97, 114, 100]]) 7 5 := by unfold failS; kernel_rfl
theorem ex_e2 : failS (putT 10 [[99, 111, 110, 102, 105, 103]]) 11 5 := by unfold failS; kernel_rfl
theorem ex_h1 : failS (putT 11 [[101, 110, 100], [101, 110, 100]]) 13 5 := by unfold failS; kernel_rfl
theorem ex_h3 : failS (putT 10 [[115, 117, 114, 102, 97, 99, 101, 32, 115, 116, 97, 110, 100, 97, 114, 100], [99, 111, 110, 102, 105, 103, 32, 97], [99, 117, 114, 118, 32, 49]]) 13 5 := by unfold failS; kernel_rfl
theorem ex_f4 : failS [] 1 5 := by unfold failS; kernel_rfl
theorem ex_h2 : readS (putT 11 [[101, 110, 100], [32], [35, 32, 101, 110, 100], []]) = ⟨flatD, 0, 0⟩ := by kernel_rfl
theorem ex_zero : readS (putT 9 [[99, 117, 114, 118, 32, 48], [116, 104, 105, 99, 107, 32, 49, 48], [104, 111, 108, 101, 32, 48], [111, 114, 100, 101, 114, 32, 48]]) = ⟨flatD, 0, 0⟩ := by kernel_rfl
def badL : List (Nat × List UInt8) := [(0, [108, 101, 110, 115]), (0, [108, 101, 110, 115, 32, 97, 32, 98]), (1, [111, 98, 106, 101, 99, 116]), (1, [111, 98, 106, 101, 99, 116, 32, 73, 110, 102, 105, 110, 105, 116, 121]), (1, [111, 98, 106, 101, 99, 116, 32, 45]), (2, [112, 117, 112, 105, 108, 32, 49, 48, 32, 49]), (3, [115, 116, 111, 112, 32, 48, 46, 48]), (3, [112, 114, 105, 109, 97, 114, 121, 32, 48]), (5, [102, 105, 101, 108, 100, 32, 48]), (5, [102, 105, 101, 108, 100, 32, 48, 32, 48, 32, 48]), (7, [119, 97, 118, 101, 32, 53, 53, 48]), (8, [115, 117, 114, 102, 97, 99, 101, 32, 83, 116, 97, 110, 100, 97, 114, 100]), (8, [115, 117, 114, 102, 97, 99, 101]), (9, [116, 104, 105, 99, 107]), (9, [116, 104, 105, 99, 107, 32, 49, 32, 50]), (9, [116, 104, 105, 99, 107, 32, 43, 49]), (9, [119, 105, 100, 116, 104, 32, 49]), (9, [111, 114, 100, 101, 114, 32, 49, 46, 53]), (9, [102, 105, 108, 109, 32, 49, 32, 50]), (9, [99, 104, 97, 110, 103, 101, 32, 48, 32, 116, 104, 105, 99, 107, 32, 49]), (9, [103, 108, 97, 115, 115]), (10, [102, 105, 101, 108, 100, 32, 48, 32, 49]), (11, [101, 110, 100, 32, 101, 110, 100]), (11, [69, 78, 68])]
theorem bad_0 : failS (putT 0 [[108, 101, 110, 115]]) 1 5 := by unfold failS; kernel_rfl
theorem bad_1 : failS (putT 0 [[108, 101, 110, 115, 32, 97, 32, 98]]) 1 5 := by unfold failS; kernel_rfl
theorem bad_2 : failS (putT 1 [[111, 98, 106, 101, 99, 116]]) 2 5 := by unfold failS; kernel_rfl
theorem bad_3 : failS (putT 1 [[111, 98, 106, 101, 99, 116, 32, 73, 110, 102, 105, 110, 105, 116, 121]]) 2 5 := by unfold failS; kernel_rfl
theorem bad_4 : failS (putT 1 [[111, 98, 106, 101, 99, 116, 32, 45]]) 2 5 := by unfold failS; kernel_rfl
theorem bad_5 : failS (putT 2 [[112, 117, 112, 105, 108, 32, 49, 48, 32, 49]]) 3 5 := by unfold failS; kernel_rfl
theorem bad_6 : failS (putT 3 [[115, 116, 111, 112, 32, 48, 46, 48]]) 4 5 := by unfold failS; kernel_rfl
theorem bad_7 : failS (putT 3 [[112, 114, 105, 109, 97, 114, 121, 32, 48]]) 4 5 := by unfold failS; kernel_rfl
theorem bad_8 : failS (putT 5 [[102, 105, 101, 108, 100, 32, 48]]) 6 5 := by unfold failS; kernel_rfl
theorem bad_9 : failS (putT 5 [[102, 105, 101, 108, 100, 32, 48, 32, 48, 32, 48]]) 6 5 := by unfold failS; kernel_rfl
theorem bad_10 : failS (putT 7 [[119, 97, 118, 101, 32, 53, 53, 48]]) 8 5 := by unfold failS; kernel_rfl
theorem bad_11 : failS (putT 8 [[115, 117, 114, 102, 97, 99, 101, 32, 83, 116, 97, 110, 100, 97, 114, 100]]) 9 5 := by unfold failS; kernel_rfl
theorem bad_12 : failS (putT 8 [[115, 117, 114, 102, 97, 99, 101]]) 9 5 := by unfold failS; kernel_rfl
theorem bad_13 : failS (putT 9 [[116, 104, 105, 99, 107]]) 10 5 := by unfold failS; kernel_rfl
theorem bad_14 : failS (putT 9 [[116, 104, 105, 99, 107, 32, 49, 32, 50]]) 10 5 := by unfold failS; kernel_rfl
theorem bad_15 : failS (putT 9 [[116, 104, 105, 99, 107, 32, 43, 49]]) 10 5 := by unfold failS; kernel_rfl
theorem bad_16 : failS (putT 9 [[119, 105, 100, 116, 104, 32, 49]]) 10 5 := by unfold failS; kernel_rfl
theorem bad_17 : failS (putT 9 [[111, 114, 100, 101, 114, 32, 49, 46, 53]]) 10 5 := by unfold failS; kernel_rfl
theorem bad_18 : failS (putT 9 [[102, 105, 108, 109, 32, 49, 32, 50]]) 10 5 := by unfold failS; kernel_rfl
theorem bad_19 : failS (putT 9 [[99, 104, 97, 110, 103, 101, 32, 48, 32, 116, 104, 105, 99, 107, 32, 49]]) 10 5 := by unfold failS; kernel_rfl
theorem bad_20 : failS (putT 9 [[103, 108, 97, 115, 115]]) 10 5 := by unfold failS; kernel_rfl
theorem bad_21 : failS (putT 10 [[102, 105, 101, 108, 100, 32, 48, 32, 49]]) 11 5 := by unfold failS; kernel_rfl
theorem bad_22 : failS (putT 11 [[101, 110, 100, 32, 101, 110, 100]]) 12 5 := by unfold failS; kernel_rfl
theorem bad_23 : failS (putT 11 [[69, 78, 68]]) 12 5 := by unfold failS; kernel_rfl
theorem badS_any (k : Nat) (hk : k < 24) : ∃ i s, badL[k]? = some (i, s) ∧ i < 12 ∧ s.length ≤ 30 ∧ failS (putT i [s]) ((i : Int) + 1) 5 := by
  match k, hk with
  | 0, _ => exact ⟨0, _, rfl, by omega, by decide, bad_0⟩
  | 1, _ => exact ⟨0, _, rfl, by omega, by decide, bad_1⟩
  | 2, _ => exact ⟨1, _, rfl, by omega, by decide, bad_2⟩
  | 3, _ => exact ⟨1, _, rfl, by omega, by decide, bad_3⟩
  | 4, _ => exact ⟨1, _, rfl, by omega, by decide, bad_4⟩
  | 5, _ => exact ⟨2, _, rfl, by omega, by decide, bad_5⟩
  | 6, _ => exact ⟨3, _, rfl, by omega, by decide, bad_6⟩
  | 7, _ => exact ⟨3, _, rfl, by omega, by decide, bad_7⟩
  | 8, _ => exact ⟨5, _, rfl, by omega, by decide, bad_8⟩
  | 9, _ => exact ⟨5, _, rfl, by omega, by decide, bad_9⟩
  | 10, _ => exact ⟨7, _, rfl, by omega, by decide, bad_10⟩
  | 11, _ => exact ⟨8, _, rfl, by omega, by decide, bad_11⟩
  | 12, _ => exact ⟨8, _, rfl, by omega, by decide, bad_12⟩
  | 13, _ => exact ⟨9, _, rfl, by omega, by decide, bad_13⟩
  | 14, _ => exact ⟨9, _, rfl, by omega, by decide, bad_14⟩
  | 15, _ => exact ⟨9, _, rfl, by omega, by decide, bad_15⟩
  | 16, _ => exact ⟨9, _, rfl, by omega, by decide, bad_16⟩
  | 17, _ => exact ⟨9, _, rfl, by omega, by decide, bad_17⟩
  | 18, _ => exact ⟨9, _, rfl, by omega, by decide, bad_18⟩
  | 19, _ => exact ⟨9, _, rfl, by omega, by decide, bad_19⟩
  | 20, _ => exact ⟨9, _, rfl, by omega, by decide, bad_20⟩
  | 21, _ => exact ⟨10, _, rfl, by omega, by decide, bad_21⟩
  | 22, _ => exact ⟨11, _, rfl, by omega, by decide, bad_22⟩
  | 23, _ => exact ⟨11, _, rfl, by omega, by decide, bad_23⟩
  | k + 24, hk => omega
def fullL : List (List UInt8) := [[108, 101, 110, 115, 32, 70], [111, 98, 106, 101, 99, 116, 32, 49, 46, 53], [112, 117, 112, 105, 108, 32, 49, 48], [115, 116, 111, 112, 32, 48], [112, 114, 105, 109, 97, 114, 121, 32, 49], [102, 105, 101, 108, 100, 32, 48, 32, 48], [102, 105, 101, 108, 100, 32, 48, 32, 48, 46, 55, 53], [119, 97, 118, 101, 32, 52, 56, 54, 46, 49, 51, 51, 32, 49], [119, 97, 118, 101, 32, 53, 56, 55, 46, 53, 54, 50, 32, 49, 48, 48], [115, 117, 114, 102, 97, 99, 101, 32, 115, 116, 97, 110, 100, 97, 114, 100], [99, 117, 114, 118, 32, 45, 48, 46, 48, 48, 48, 48, 48, 48, 48, 48, 49], [99, 111, 110, 105, 99, 32, 45, 49], [97, 115, 112, 104, 52, 32, 48, 46, 48, 48, 48, 48, 48, 49], [97, 115, 112, 104, 54, 32, 45, 48, 46, 48, 48, 48, 48, 48, 50], [97, 115, 112, 104, 56, 32, 48, 46, 48, 48, 48, 48, 48, 51], [97, 115, 112, 104, 49, 48, 32, 49, 48, 48, 48], [116, 104, 105, 99, 107, 32, 45, 48, 46, 48, 48, 48, 48, 48, 53], [115, 101, 109, 105, 32, 48, 46, 48, 48, 48, 48, 48, 50], [104, 111, 108, 101, 32, 48, 46, 48, 48, 48, 48, 48, 49], [111, 114, 100, 101, 114, 32, 45, 50], [112, 104, 97, 115, 101, 50, 32, 48, 46, 48, 48, 53], [112, 104, 97, 115, 101, 52, 32, 45, 49, 46, 53], [103, 108, 97, 115, 115, 32, 78, 45, 66, 75, 55], [102, 105, 108, 109, 32, 49, 46, 51, 56, 32, 49, 32, 50], [102, 105, 108, 109, 32, 52, 32, 48, 32, 49], [115, 117, 114, 102, 97, 99, 101, 32, 98, 105, 99, 111, 110, 105, 99], [99, 117, 114, 118, 32, 49], [99, 117, 114, 118, 120, 32, 48, 46, 48, 48, 48, 48, 48, 48, 48, 50], [99, 111, 110, 105, 99, 120, 32, 48, 46, 48, 48, 48, 48, 48, 55], [115, 117, 114, 102, 97, 99, 101, 32, 98, 114, 101, 97, 107], [100, 120, 32, 48, 46, 48, 48, 48, 48, 48, 49], [100, 121, 32, 48, 46, 48, 48, 48, 48, 48, 50], [97, 120, 32, 57, 48], [97, 121, 32, 45, 48, 46, 48, 48, 48, 48, 48, 52], [97, 122, 32, 48, 46, 48, 48, 48, 48, 48, 53], [115, 117, 114, 102, 97, 99, 101, 32, 105, 100, 101, 97, 108], [99, 117, 114, 118, 32, 48, 46, 48, 48, 48, 48, 48, 48, 48, 53], [115, 117, 114, 102, 97, 99, 101, 32, 115, 116, 97, 110, 100, 97, 114, 100], [99, 111, 110, 102, 105, 103, 32, 97], [99, 104, 97, 110, 103, 101, 32, 51, 32, 99, 117, 114, 118, 32, 45, 48, 46, 48, 48, 48, 48, 48, 48, 48, 55], [99, 104, 97, 110, 103, 101, 32, 48, 32, 112, 104, 97, 115, 101, 52, 32, 48, 46, 48, 48, 50], [99, 111, 110, 102, 105, 103, 32, 98], [101, 110, 100]]
def fullD : LensD := ⟨⟨#[70]⟩, 1500000, 10000000, 0, 1, [0, 0, 0, 750000], [486133, 1, 587562, 100], [⟨⟨1, -1, -1000000, 0, 0, 1, -2, 3, 1000000000, 5, -1500, -2, -5, ⟨#[78, 45, 66, 75, 55]⟩, 2, 1, 0, 0, 0, 0, 0⟩, [13800000, 1, 2, 40000000, 0, 1]⟩, ⟨⟨2, 1000000000, 0, 20, 7, 0, 0, 0, 0, 0, 0, 0, 0, ⟨#[]⟩, 0, 0, 0, 0, 0, 0, 0⟩, []⟩, ⟨⟨3, 0, 0, 0, 0, 0, 0, 0, 0, 0, 0, 0, 0, ⟨#[]⟩, 0, 0, 1, 2, 90000000, -4, 5⟩, []⟩, ⟨⟨4, 50, 0, 0, 0, 0, 0, 0, 0, 0, 0, 0, 0, ⟨#[]⟩, 0, 0, 0, 0, 0, 0, 0⟩, []⟩, ⟨⟨1, 0, 0, 0, 0, 0, 0, 0, 0, 0, 0, 0, 0, ⟨#[]⟩, 0, 0, 0, 0, 0, 0, 0⟩, []⟩], [⟨⟨#[97]⟩, [3, 1, -70, 0, 17, 2]⟩, ⟨⟨#[98]⟩, []⟩]⟩
theorem full_valid : validB fullD = true := by kernel_rfl
theorem full_text : lensT fullD = textL fullL := by kernel_rfl
theorem full_read : readS (textL fullL) = ⟨fullD, 0, 0⟩ := by kernel_rfl
theorem none_valid : validB lensN = false := by kernel_rfl
theorem linesOf_free : ∀ (l w : List UInt8), (∀ b ∈ l, b ≠ 10) → linesOf w l = [w ++ l]
  | [], w, _ => by rw [linesOf, List.append_nil]
  | b :: l, w, h => by
    have hb : (b == 10) = false := by rw [beq_eq_false_iff_ne]; exact h b (by simp)
    rw [linesOf, hb]
    simp only [Bool.false_eq_true, if_false]
    rw [linesOf_free l (w ++ [b]) (fun x hx => h x (by simp [hx]))]
    simp
theorem wordsS_free : ∀ (l w : List UInt8), (∀ b ∈ l, b ≠ 32) → w ++ l ≠ [] → wordsS w l = [w ++ l]
  | [], w, _, h => by
    rw [List.append_nil] at h
    unfold wordsS
    simp [h]
  | b :: l, w, h, _ => by
    have hb : isS b = false := by
      show (b == 32) = false
      rw [beq_eq_false_iff_ne]; exact h b (by simp)
    unfold wordsS
    rw [hb]
    simp only [Bool.false_eq_true, if_false]
    rw [wordsS_free l (w ++ [b]) (fun x hx => h x (by simp [hx])) (by simp)]
    simp
/-- a text of one comment -/
theorem hash_read (n : Nat) (hn : n ≤ 20000) (h0 : 0 < n) : failS (List.replicate n 35) 1 5 := by
  have hw : skipS (wordsS [] (List.replicate n 35)) = true := by
    rw [wordsS_free _ [] (fun b hb => by rw [List.eq_of_mem_replicate hb]; decide) (by rw [List.nil_append]; intro e; have := congrArg List.length e; rw [List.length_replicate] at this; simp at this; omega)]
    obtain ⟨m, rfl⟩ : ∃ m, n = m + 1 := ⟨n - 1, by omega⟩
    rw [List.nil_append, List.replicate_succ]
    rfl
  unfold failS readS
  rw [if_neg (by rw [List.length_replicate]; omega), linesOf_free _ [] (fun b hb => by rw [List.eq_of_mem_replicate hb]; decide)]
  simp only [List.nil_append]
  unfold linesR
  rw [if_pos hw]
  rfl
theorem hash_long : readS (List.replicate 20001 35) = ⟨lensN, 0, 3⟩ := by
  unfold readS
  rw [if_pos (by rw [List.length_replicate]; omega)]
end Go.Proofs.YtgohdcccfkjooaaGreatDoor

namespace Go.Proofs.YtgohdcccfkjooaaGreatDoor
open Go.RowKit

/-- the lens F, where it lies -/
structure FlatAt (N : Nat) (w w' : World) : Prop where
  f : w'.heap[N + 1]? = some (.cells #[.int .i64 0, .int .i64 0, .int .i64 0, .int .i64 750000] 112 (0, 0))
  v : w'.heap[N + 2]? = some (.cells #[.int .i64 550000, .int .i64 1] 63 (0, 0))
  s : w'.heap[N + 3]? = some (.cells (cells22 (flatS 10000000).s none 0 0 ++ cells22 (flatS 0).s none 0 0).toArray 70 (0, 0))
  be : Below N w w'
  sz : w'.heap.size = N + 4
def flatV (N : Nat) : Value := lensV flatD ⟨some ⟨N + 1, 0, none⟩, 2, 2⟩ ⟨some ⟨N + 2, 0, none⟩, 1, 1⟩ ⟨some ⟨N + 3, 0, none⟩, 2, 2⟩ ptr0
theorem four_allocs (w : World) (o0 o1 o2 o3 : Obj) : ((((w.alloc o0).alloc o1).alloc o2).alloc o3).heap[w.heap.size]? = some o0 ∧ ((((w.alloc o0).alloc o1).alloc o2).alloc o3).heap[w.heap.size + 1]? = some o1 ∧ ((((w.alloc o0).alloc o1).alloc o2).alloc o3).heap[w.heap.size + 2]? = some o2 ∧ ((((w.alloc o0).alloc o1).alloc o2).alloc o3).heap[w.heap.size + 3]? = some o3 ∧ Below w.heap.size w ((((w.alloc o0).alloc o1).alloc o2).alloc o3) ∧ ((((w.alloc o0).alloc o1).alloc o2).alloc o3).heap.size = w.heap.size + 4 := by
  have s1 : (w.alloc o0).heap.size = w.heap.size + 1 := by simp
  have s2 : ((w.alloc o0).alloc o1).heap.size = w.heap.size + 2 := by simp
  have s3 : (((w.alloc o0).alloc o1).alloc o2).heap.size = w.heap.size + 3 := by simp
  exact ⟨(alloc_old (by omega)).trans ((alloc_old (by omega)).trans ((alloc_old (by omega)).trans (alloc_at rfl))), (alloc_old (by omega)).trans ((alloc_old (by omega)).trans (alloc_at s1)), (alloc_old (by omega)).trans (alloc_at s2), alloc_at s3, below_al (below_al (below_al (below_al (Below.refl _ _)))), by simp⟩
set_option maxRecDepth 100000 in
set_option maxHeartbeats 1600000 in
theorem flat_any (w : World) : Calls Tryz.prog 20 #[] w fun e w' => e = .returned (flatV w.heap.size) ∧ FlatAt w.heap.size w w' := by
  go_enter Tryz.func20, Tryz.ntmps20
  go_wp2_with fail
  obtain ⟨q0, q1, q2, q3, q4, q5⟩ := four_allocs w (.cells (cells9 flatD ⟨some ⟨w.heap.size + 1, 0, none⟩, 2, 2⟩ ⟨some ⟨w.heap.size + 2, 0, none⟩, 1, 1⟩ ⟨some ⟨w.heap.size + 3, 0, none⟩, 2, 2⟩ ptr0).toArray 37) (.cells #[.int .i64 0, .int .i64 0, .int .i64 0, .int .i64 750000] 112) (.cells #[.int .i64 550000, .int .i64 1] 63) (.cells (cells22 (flatS 10000000).s none 0 0 ++ cells22 (flatS 0).s none 0 0).toArray 70)
  refine bodyPost_ret (results_cell_row rfl _ _ w.heap.size 37 _ (0, 0) _ rfl q0 Tryz.underlying37 rfl Tryz.infoLens) rfl ?_
  exact ⟨rfl, q1, q2, q3, q4, q5⟩
/-- its lists -/
theorem FlatAt.lens {N : Nat} {w w' : World} (h : FlatAt N w w') : LensAt (fun b => N ≤ b ∧ b < w'.heap.size) w' flatD ⟨some ⟨N + 1, 0, none⟩, 2, 2⟩ ⟨some ⟨N + 2, 0, none⟩, 1, 1⟩ ⟨some ⟨N + 3, 0, none⟩, 2, 2⟩ ptr0 := by
  have hs := h.sz
  refine ⟨⟨rfl, Nat.le_refl _, fun _ => ⟨N + 1, 0, rfl, ⟨by omega, by omega⟩, fun j hj => ?_⟩⟩, ⟨rfl, Nat.le_refl _, fun _ => ⟨N + 2, 0, rfl, ⟨by omega, by omega⟩, fun j hj => ?_⟩⟩,
    ⟨rfl, Nat.le_refl _, fun _ => ⟨N + 3, 0, rfl, ⟨by omega, by omega⟩, fun i y hy => ?_⟩⟩, RR.nil _ _ _ _ _ _, by show (2 : Nat) ≤ _; omega, by show (1 : Nat) ≤ _; omega, by show (2 : Nat) ≤ _; omega, by decide, fun e => (by cases e), fun e => (by cases e), by decide⟩
  · have hj4 : j < 4 := hj
    match j, hj4 with
    | 0, _ => exact obj_cell h.f 0
    | 1, _ => exact obj_cell h.f 1
    | 2, _ => exact obj_cell h.f 2
    | 3, _ => exact obj_cell h.f 3
    | j + 4, hj => omega
  · have hj2 : j < 2 := hj
    match j, hj2 with
    | 0, _ => exact obj_cell h.v 0
    | 1, _ => exact obj_cell h.v 1
    | j + 2, hj => omega
  · match i, hy with
    | 0, hy =>
      cases hy
      exact ⟨_, ⟨none, 0, 0, rfl, IRp.nil _ _ _ _ _, by decide, fun _ => rfl, by decide⟩, fun j v hv => by
        have hl := (List.getElem?_eq_some_iff.1 hv).1
        have hl2 : j < 22 := hl
        rw [obj_cell h.s, List.getElem?_toArray]
        show (cells22 _ none 0 0 ++ cells22 _ none 0 0)[0 + 0 * 22 + j]? = _
        rw [show 0 + 0 * 22 + j = j by omega, List.getElem?_append_left hl]; exact hv⟩
    | 1, hy =>
      cases hy
      exact ⟨_, ⟨none, 0, 0, rfl, IRp.nil _ _ _ _ _, by decide, fun _ => rfl, by decide⟩, fun j v hv => by
        rw [obj_cell h.s, List.getElem?_toArray]
        show (cells22 _ none 0 0 ++ cells22 _ none 0 0)[0 + 1 * 22 + j]? = _
        rw [List.getElem?_append_right (by show 22 ≤ _; omega)]
        show (cells22 _ none 0 0)[0 + 1 * 22 + j - 22]? = _
        rw [show 0 + 1 * 22 + j - 22 = j by omega]; exact hv⟩
    | i + 2, hy => cases hy
end Go.Proofs.YtgohdcccfkjooaaGreatDoor

namespace Go.Proofs.YtgohdcccfkjooaaGreatDoor
open Go.RowKit

set_option maxRecDepth 100000 in
theorem plain_any (w : World) : Calls Tryz.prog 44 #[] w fun e w' => e = .returned (.slice (some ⟨w.heap.size, 0, none⟩) 12 12) ∧ w' = w.alloc (.cells (strCs plainL).toArray 9) := by
  go_enter Tryz.func44, Tryz.ntmps44
  go_wp2_with fail
  go_ret
  exact ⟨rfl, rfl⟩
theorem textL_join : ∀ (ws : List (List UInt8)), ws ≠ [] → textL ws = Lib.join ws [10] ++ [10]
  | [], h => absurd rfl h
  | [a], _ => by unfold textL; simp [Lib.join]
  | a :: b :: r, _ => by
    have h := textL_join (b :: r) (by simp)
    have e : textL (a :: b :: r) = (a ++ [10]) ++ textL (b :: r) := by unfold textL; simp
    rw [e, h]
    simp [Lib.join]
theorem textN_any (ws : List (List UInt8)) (g off c : Nat) (w : World) (h : ∀ i x, ws[i]? = some x → w.cell? ⟨g, off + i, none⟩ = some (.string (bs x))) (hg : g < w.heap.size) (hc : ws.length ≤ c) (hn : ws.length ≤ 1000000) (hl : (textL ws).length ≤ 1000000) (h0 : ws ≠ []) :
    Calls Tryz.prog 21 #[.slice (some ⟨g, off, none⟩) ws.length c] w (RetB w (.string (bs (textL ws)))) := by
  have hmm : (ws.map bs).map (fun b => b.data.toList) = ws := by rw [List.map_map]; exact List.map_id'' (fun x => rfl) ws
  have hcells : ∀ (j : Nat) x, (ws.map bs)[j]? = some x → w.cell? ⟨g, off + j, none⟩ = some (.string x) := fun j x hx => by
    rw [List.getElem?_map] at hx
    cases hw : ws[j]? with
    | none => rw [hw] at hx; cases hx
    | some y => rw [hw] at hx; cases hx; exact h j y hw
  have ht := textL_join ws h0
  have hJ : (Lib.join ws [10]).length ≤ 1000000 := by rw [ht, List.length_append] at hl; omega
  have key := Tryz.strings_Join g off c (ws.map bs) { data := #[10] } w hcells hg (by rw [List.length_map]; omega) (by rw [List.length_map]; omega) (by rw [hmm]; show (Lib.join ws [10]).length ≤ _; omega)
  rw [List.length_map, hmm] at key
  have hcat : bs (Lib.join ws [10]) ++ ({ data := #[10] } : ByteArray) = bs (textL ws) := by rw [ht]; exact bs_append _ [10]
  have Key := Lib.hid key; have Hcat := Lib.hid hcat
  clear h hcells hmm key hcat ht hl
  go_enter Tryz.func21, Tryz.ntmps21
  go_wp2_with fail
  refine Key.out.mono ?_
  rintro e w2 ⟨rfl, hb2⟩
  have Hb2 := Lib.hid hb2; clear hb2 Key
  change (Lib.join ws [10]).length ≤ 1000000 at hJ
  have hcat := Hcat.out
  clear Hcat
  have hnb : ¬ 9223372036854775807 < (Lib.join ws [10]).length + 1 := by omega
  have Hcat := Lib.hid hcat; clear hcat
  go_wp2_with fail
  go_ret
  exact ⟨by rw [← Hcat.out]; rfl, Hb2.out⟩
theorem strCs_at {W : World} {N : Nat} {ws : List (List UInt8)} (h : W.heap[N]? = some (.cells (strCs ws).toArray 9 (0, 0))) (j : Nat) (x : List UInt8) (hx : ws[j]? = some x) : W.cell? ⟨N, j, none⟩ = some (.string (bs x)) := by
  rw [obj_cell h j, List.getElem?_toArray]
  unfold strCs
  rw [List.getElem?_map, hx]; rfl
/-- append of strings to a row of one's own, at an operation -/
theorem wp_append_strs {o : Oper} {a : Act} {K : Act → World → Prop} {Q : Exit → Act → World → Prop} {w : World} (s x : Operand) (t : TypeId) (ho : o.op = .call { callee := .builtin .append, args := #[s, x], argTypes := #[t, t] }) (ht : Tryz.prog.underlying t = some (.slice 9))
    (base : Nat) (v : Value) (n : Nat) (l ys : List (List UInt8)) (hs : a.eval s = v) (hown : w.ownsRow base 9 1 v n (strCs l)) (sp : Option Addr) (m c : Nat) (hx : a.eval x = .slice sp m c) (hys : ys.length = m)
    (hnews : 0 < m → ∃ b off, sp = some ⟨b, off, none⟩ ∧ ∀ (j : Nat) y, ys[j]? = some y → w.cell? ⟨b, off + j, none⟩ = some (.string (bs y))) (hmn : sp = none → m = 0 ∧ c = 0) (hnm : n + m ≤ 1000000) (hbase : base ≤ w.heap.size)
    (h : ∀ v' w', w'.ownsRow base 9 1 v' (n + m) (strCs (l ++ ys)) → w.grownBy w' v.ownBlock → K (a.put o.dst v') w') : o.wp Tryz.prog a w K Q := by
  obtain ⟨i, hi1, hi2, hi3, hi4⟩ := info_of Tryz.infoStr
  cases sp with
  | none =>
    obtain ⟨rfl, rfl⟩ := hmn rfl
    obtain rfl : ys = [] := List.length_eq_zero_iff.1 hys
    have hrun := run_append_owned_none (P := Tryz.prog) (w := w) base t o.type _ i 1 ht hi1 v n (strCs l) hown
    unfold Oper.wp execOp
    simp only [ho, resolve, invoke, builtin, Sem.run_bind, Sem.run_pure, Result.andThen_ok, List.map_toArray, List.map_cons, List.map_nil, hs, hx, hrun]
    exact h v w (by simpa using hown) ⟨rfl, rfl, rfl, Nat.le_refl _, fun _ _ _ => rfl⟩
  | some ad =>
    obtain ⟨v', w', hr, h2, h3, _, _⟩ := run_append_own_at (P := Tryz.prog) w base t o.type _ i (.string { data := #[] }) 1 16 ht hi1 hi2 hi3 hi4 (by simp [Value.cells]) (by omega) v n (strCs l) hown ad m c (strCs ys) (by rw [strCs_len, hys, Nat.mul_one]) (fun j u hj => by
      by_cases hm : 0 < m
      · obtain ⟨b, off, he, hc⟩ := hnews hm
        obtain rfl := Option.some.inj he
        unfold strCs at hj
        rw [List.getElem?_map] at hj
        cases hy : ys[j]? with
        | none => rw [hy] at hj; cases hj
        | some y =>
          rw [hy] at hj; cases hj
          have := hc j y hy
          unfold Addr.add
          by_cases h0 : j = 0
          · subst h0; simpa using this
          · simpa [h0] using this
      · have : ys.length = 0 := by omega
        rw [List.length_eq_zero_iff.1 this] at hj; cases hj) (by unfold strCs; simp [Value.oneCell']) (by unfold maxLen; omega) (by omega) hbase
    unfold Oper.wp execOp
    simp only [ho, resolve, invoke, builtin, Sem.run_bind, Sem.run_pure, Result.andThen_ok, List.map_toArray, List.map_cons, List.map_nil, hs, hx, hr]
    rw [← strCs_append] at h2
    exact h v' w' h2 h3
set_option maxRecDepth 100000 in
set_option maxHeartbeats 1600000 in
theorem put_lines (i : Nat) (hi : i < 12) (ws : List (List UInt8)) (a : Option Addr) (n c : Nat) (w : World) (hw : Wds w a n c ws w.heap.size) (hn : n ≤ 10) (hl : (putT i ws).length ≤ 1000000) (hna : a = none → c = 0) (hne : plainL.take i ++ ws ++ plainL.drop (i + 1) ≠ []) :
    Calls Tryz.prog 24 #[.int .i64 (i : Int), .slice a n c] w (RetB w (.string (bs (putT i ws)))) := by
  have Hw := Lib.hid hw; have Hl := Lib.hid hl; have Hne := Lib.hid hne
  have hn0 := hw.1
  clear hw hl hne
  have hi' : (i : Int) < 12 := by omega
  have hiw : IntKind.i64.wrap ((i : Int) + 1) = (i : Int) + 1 := IntWalk.i64_in _ (by omega)
  have hi1 : (i : Int) + 1 ≤ 12 := by omega
  have hi2 : (i : Int) ≤ 12 := by omega
  have hi0 : (0 : Int) ≤ (i : Int) + 1 := by omega
  go_enter Tryz.func24, Tryz.ntmps24
  go_wp2_with (refine (plain_any _).mono ?_; rintro e w1 ⟨rfl, rfl⟩)
  by_cases h11 : i = 11
  · subst h11
    have hw12 : IntKind.i64.wrap 12 = 12 := IntWalk.i64_in _ (by omega)
    refine wp_region_eagerK (S := fun _ => False) 13 [(1, true), (2, true), (3, true), (5, true), (7, true), (8, true), (9, true), (10, true), (0, false), (4, false), (6, false), (11, false), (12, false)] (by kernel_rfl) (by kernel_rfl) ?_
    iterate 8
      refine wpOrd_yieldK (v := ?_) rfl (fun _ _ _ h => h) (by rfl) ?_ ?_
      rotate_left
      · intro y hy
        skip
        go_simp
        with_reducible rfl
      try simp only [Act.put, List.setIfInBounds_toArray, List.set_cons_zero, List.set_cons_succ]
    refine wpOrd_stepK rfl rfl (fun K hK => ?_)
    go_simp
    refine hK _ _ (fun x hx => hx.elim) ?_
    clear hK K
    try simp only [Act.put, List.setIfInBounds_toArray, List.set_cons_zero, List.set_cons_succ]
    have hP : (w.alloc (.cells (strCs plainL).toArray 9)).heap[w.heap.size]? = some (.cells (strCs plainL).toArray 9 (0, 0)) := heap_alloc_new w _
    have hbw : Below w.heap.size w (w.alloc (.cells (strCs plainL).toArray 9)) := (Below.refl _ _).alloc (Nat.le_refl _) _
    have hsP : (w.alloc (.cells (strCs plainL).toArray 9)).heap.size = w.heap.size + 1 := by simp
    have hown1 := World.ownsRow_made (e := 9) (size := 1) (base := w.heap.size + 1) (w.alloc (.cells (strCs plainL).toArray 9)) #[] 0 (by omega) (by unfold maxLen; omega) rfl
    rw [hsP] at hown1
    have hb1 : Below (w.heap.size + 1) (w.alloc (.cells (strCs plainL).toArray 9)) ((w.alloc (.cells (strCs plainL).toArray 9)).alloc (.cells #[] 9)).drew := ((Below.refl _ _).alloc (by omega) _).drew
    have hs1 := hb1.size
    refine wpOrd_stepK rfl rfl (fun K hK => ?_)
    refine wp_append_strs _ _ _ rfl Tryz.underlying52 (w.heap.size + 1) _ 0 [] (plainL.take 11) rfl hown1 _ 11 12 rfl (by rw [List.length_take]; show min 11 12 = 11; omega) (fun _ => ⟨w.heap.size, 0, rfl, fun j y hy => by
      rw [Nat.zero_add]
      exact (hb1.cell (p := ⟨w.heap.size, j, none⟩) (by show w.heap.size < w.heap.size + 1; omega)).trans (strCs_at hP j y (by
        have hj := (List.getElem?_eq_some_iff.1 hy).1
        rw [List.length_take] at hj
        rw [List.getElem?_take_of_lt (by omega)] at hy; exact hy))⟩) (by intro e; cases e) (by omega) (by omega) ?_
    intro v2 W2 hown2 hg2
    refine hK _ _ (fun x hx => hx.elim) ?_
    clear hK K
    try simp only [Act.put, List.setIfInBounds_toArray, List.set_cons_zero, List.set_cons_succ]
    have hb2 := hb1.grown hg2 (by omega) (fun k e => (hown1.lt k e).1)
    have hs2 := hb2.size
    rw [Nat.zero_add, List.nil_append] at hown2
    have hw2 := hbw.trans (hb2.mono (by omega))
    refine wpOrd_stepK rfl rfl (fun K hK => ?_)
    refine wp_append_strs _ _ _ rfl Tryz.underlying52 (w.heap.size + 1) _ 11 (plainL.take 11) ws rfl hown2 a n c rfl hn0 (fun h0 => by
      obtain ⟨gb, off, e, hlt, hcs⟩ := Hw.out.2.2 h0
      exact ⟨gb, off, e, fun j y hy => (hw2.cell (p := ⟨gb, off + j, none⟩) hlt).trans (hcs j y hy)⟩) (fun e => ⟨by have := Hw.out.2.1; have := hna e; omega, hna e⟩) (by omega) (by omega) ?_
    intro v3 W3 hown3 hg3
    refine hK _ _ (fun x hx => hx.elim) ?_
    clear hK K
    try simp only [Act.put, List.setIfInBounds_toArray, List.set_cons_zero, List.set_cons_succ]
    have hb3 := hb2.grown hg3 (by omega) (fun k e => (hown2.lt k e).1)
    have hs3 := hb3.size
    refine wpOrd_stepK rfl rfl (fun K hK => ?_)
    refine wp_append_strs _ _ _ rfl Tryz.underlying52 (w.heap.size + 1) _ (11 + n) (plainL.take 11 ++ ws) (plainL.drop (11 + 1)) rfl hown3 _ (0) (0) rfl (by rw [List.length_drop]; show 12 - (11 + 1) = 0; omega) (fun _ => ⟨w.heap.size, 0, rfl, fun j y hy => by
      rw [List.getElem?_drop] at hy
      have h1 := (List.getElem?_eq_some_iff.1 hy).1; have h2 : plainL.length = 12 := rfl; omega⟩) (by intro e; cases e) (by omega) (by omega) ?_
    intro v4 W4 hown4 hg4
    refine hK _ _ (fun x hx => hx.elim) ?_
    clear hK K
    try simp only [Act.put, List.setIfInBounds_toArray, List.set_cons_zero, List.set_cons_succ]
    have hb4 := hb3.grown hg4 (by omega) (fun k e => (hown3.lt k e).1)
    have hw4 := hbw.trans (hb4.mono (by omega))
    obtain ⟨a4, c4, rfl⟩ := owns_slice hown4
    obtain ⟨g4, rfl, _, hg4l, hn4, hc4, hcs4⟩ := owns_str_at hown4 (List.length_pos_iff.2 Hne.out)
    have key := textN_any (plainL.take 11 ++ ws ++ plainL.drop (11 + 1)) g4 0 c4 W4 (fun j y hy => hcs4 j (bs y) (by rw [List.getElem?_map, hy]; rfl)) hg4l (by omega) (by rw [← hn4]; omega) Hl.out Hne.out
    rw [← hn4] at key
    have Key := Lib.hid key
    clear key hn4
    refine wpOrd_stepK rfl rfl (fun K hK => ?_)
    go_simp
    refine Key.out.mono ?_
    rintro e W5 ⟨rfl, hb5⟩
    refine hK _ _ (fun x hx => hx.elim) ?_
    clear hK K
    try simp only [Act.put, List.setIfInBounds_toArray, List.set_cons_zero, List.set_cons_succ]
    refine wpOrd_nilK rfl ?_
    have Hb5 := Lib.hid (below_chain hw4 hb5)
    clear hb5 hw4 hb4 hb3 hb2 hb1 hw2 hbw hcs4 hown4 hown3 hown2 hown1 hP hg2 hg3 hg4
    go_wp2_with fail
    go_ret
    exact ⟨by first | rfl | (unfold putT; rw [List.append_assoc]; rfl), Hb5.out⟩
  · refine wp_region_eagerK (S := fun _ => False) 13 [(1, true), (2, true), (3, true), (5, true), (7, true), (8, true), (9, true), (10, true), (0, false), (4, false), (6, false), (11, false), (12, false)] (by kernel_rfl) (by kernel_rfl) ?_
    have hr11 : ¬ 12 = i + 1 := by omega
    have hr12 : ¬ i + 1 = 12 := by omega
    iterate 8
      refine wpOrd_yieldK (v := ?_) rfl (fun _ _ _ h => h) (by rfl) ?_ ?_
      rotate_left
      · intro y hy
        skip
        go_simp
        with_reducible rfl
      try simp only [Act.put, List.setIfInBounds_toArray, List.set_cons_zero, List.set_cons_succ]
    refine wpOrd_stepK rfl rfl (fun K hK => ?_)
    go_simp
    refine hK _ _ (fun x hx => hx.elim) ?_
    clear hK K
    try simp only [Act.put, List.setIfInBounds_toArray, List.set_cons_zero, List.set_cons_succ]
    have hP : (w.alloc (.cells (strCs plainL).toArray 9)).heap[w.heap.size]? = some (.cells (strCs plainL).toArray 9 (0, 0)) := heap_alloc_new w _
    have hbw : Below w.heap.size w (w.alloc (.cells (strCs plainL).toArray 9)) := (Below.refl _ _).alloc (Nat.le_refl _) _
    have hsP : (w.alloc (.cells (strCs plainL).toArray 9)).heap.size = w.heap.size + 1 := by simp
    have hown1 := World.ownsRow_made (e := 9) (size := 1) (base := w.heap.size + 1) (w.alloc (.cells (strCs plainL).toArray 9)) #[] 0 (by omega) (by unfold maxLen; omega) rfl
    rw [hsP] at hown1
    have hb1 : Below (w.heap.size + 1) (w.alloc (.cells (strCs plainL).toArray 9)) ((w.alloc (.cells (strCs plainL).toArray 9)).alloc (.cells #[] 9)).drew := ((Below.refl _ _).alloc (by omega) _).drew
    have hs1 := hb1.size
    refine wpOrd_stepK rfl rfl (fun K hK => ?_)
    refine wp_append_strs _ _ _ rfl Tryz.underlying52 (w.heap.size + 1) _ 0 [] (plainL.take i) rfl hown1 _ i 12 rfl (by rw [List.length_take]; show min i 12 = i; omega) (fun _ => ⟨w.heap.size, 0, rfl, fun j y hy => by
      rw [Nat.zero_add]
      exact (hb1.cell (p := ⟨w.heap.size, j, none⟩) (by show w.heap.size < w.heap.size + 1; omega)).trans (strCs_at hP j y (by
        have hj := (List.getElem?_eq_some_iff.1 hy).1
        rw [List.length_take] at hj
        rw [List.getElem?_take_of_lt (by omega)] at hy; exact hy))⟩) (by intro e; cases e) (by omega) (by omega) ?_
    intro v2 W2 hown2 hg2
    refine hK _ _ (fun x hx => hx.elim) ?_
    clear hK K
    try simp only [Act.put, List.setIfInBounds_toArray, List.set_cons_zero, List.set_cons_succ]
    have hb2 := hb1.grown hg2 (by omega) (fun k e => (hown1.lt k e).1)
    have hs2 := hb2.size
    rw [Nat.zero_add, List.nil_append] at hown2
    have hw2 := hbw.trans (hb2.mono (by omega))
    refine wpOrd_stepK rfl rfl (fun K hK => ?_)
    refine wp_append_strs _ _ _ rfl Tryz.underlying52 (w.heap.size + 1) _ i (plainL.take i) ws rfl hown2 a n c rfl hn0 (fun h0 => by
      obtain ⟨gb, off, e, hlt, hcs⟩ := Hw.out.2.2 h0
      exact ⟨gb, off, e, fun j y hy => (hw2.cell (p := ⟨gb, off + j, none⟩) hlt).trans (hcs j y hy)⟩) (fun e => ⟨by have := Hw.out.2.1; have := hna e; omega, hna e⟩) (by omega) (by omega) ?_
    intro v3 W3 hown3 hg3
    refine hK _ _ (fun x hx => hx.elim) ?_
    clear hK K
    try simp only [Act.put, List.setIfInBounds_toArray, List.set_cons_zero, List.set_cons_succ]
    have hb3 := hb2.grown hg3 (by omega) (fun k e => (hown2.lt k e).1)
    have hs3 := hb3.size
    refine wpOrd_stepK rfl rfl (fun K hK => ?_)
    refine wp_append_strs _ _ _ rfl Tryz.underlying52 (w.heap.size + 1) _ (i + n) (plainL.take i ++ ws) (plainL.drop (i + 1)) rfl hown3 _ (11 - i) (11 - i) rfl (by rw [List.length_drop]; show 12 - (i + 1) = 11 - i; omega) (fun _ => ⟨w.heap.size, i + 1, rfl, fun j y hy => by
      rw [List.getElem?_drop] at hy
      exact (hb3.cell (p := ⟨w.heap.size, i + 1 + j, none⟩) (by show w.heap.size < w.heap.size + 1; omega)).trans (strCs_at hP (i + 1 + j) y hy)⟩) (by intro e; cases e) (by omega) (by omega) ?_
    intro v4 W4 hown4 hg4
    refine hK _ _ (fun x hx => hx.elim) ?_
    clear hK K
    try simp only [Act.put, List.setIfInBounds_toArray, List.set_cons_zero, List.set_cons_succ]
    have hb4 := hb3.grown hg4 (by omega) (fun k e => (hown3.lt k e).1)
    have hw4 := hbw.trans (hb4.mono (by omega))
    obtain ⟨a4, c4, rfl⟩ := owns_slice hown4
    obtain ⟨g4, rfl, _, hg4l, hn4, hc4, hcs4⟩ := owns_str_at hown4 (List.length_pos_iff.2 Hne.out)
    have key := textN_any (plainL.take i ++ ws ++ plainL.drop (i + 1)) g4 0 c4 W4 (fun j y hy => hcs4 j (bs y) (by rw [List.getElem?_map, hy]; rfl)) hg4l (by omega) (by rw [← hn4]; omega) Hl.out Hne.out
    rw [← hn4] at key
    have Key := Lib.hid key
    clear key hn4
    refine wpOrd_stepK rfl rfl (fun K hK => ?_)
    go_simp
    refine Key.out.mono ?_
    rintro e W5 ⟨rfl, hb5⟩
    refine hK _ _ (fun x hx => hx.elim) ?_
    clear hK K
    try simp only [Act.put, List.setIfInBounds_toArray, List.set_cons_zero, List.set_cons_succ]
    refine wpOrd_nilK rfl ?_
    have Hb5 := Lib.hid (below_chain hw4 hb5)
    clear hb5 hw4 hb4 hb3 hb2 hb1 hw2 hbw hcs4 hown4 hown3 hown2 hown1 hP hg2 hg3 hg4
    go_wp2_with fail
    go_ret
    exact ⟨by first | rfl | (unfold putT; rw [List.append_assoc]; rfl), Hb5.out⟩
end Go.Proofs.YtgohdcccfkjooaaGreatDoor

namespace Go.Proofs.YtgohdcccfkjooaaGreatDoor
open Go.RowKit

/-- .. under a guard -/
theorem wpL_load_lensG {ops : Array Oper} {rest : List Oper} {op : Oper} {ac : Act} {w : World} {Q : Exit → Act → World → Prop} {g : Nat} {T : TypeId} {x : LensD} {f v s k : Ptr} (h : BenchB w g T x f v s k) (hgd : Region.wanted op (yielded ops ac.tmps) = true) (y : Operand) (ho : op.op = .load 37 y)
    (hx : ac.eval y = .pointer (some ⟨g, 0, none⟩)) (hk : wpList Tryz.prog ops Q rest (ac.put op.dst (.agg #[.string x.nm, .int .i64 x.dist, .int .i64 x.pupil, .int .i64 x.stop, .int .i64 x.prim, .slice f.a f.n f.c, .slice v.a v.n v.c, .slice s.a s.n s.c, .slice k.a k.n k.c])) w) : wpList Tryz.prog ops Q (op :: rest) ac w :=
  wpList_taken hgd fun _K hK => wp_load_mid 37 y ho g 0 hx (cells9 x f v s k) _ h.range Tryz.underlying37 rfl Tryz.infoLens (hK _ _ hk)
theorem lensN_at (S : Nat → Prop) (w : World) : LensAt S w lensN ptr0 ptr0 ptr0 ptr0 :=
  ⟨IRp.nil _ _ _ _ _, IRp.nil _ _ _ _ _, RR.nil _ _ _ _ _ _, RR.nil _ _ _ _ _ _, by decide, by decide, by decide, by decide, fun _ => rfl, fun _ => rfl, by decide⟩
structure KW (w : World) : Prop where
  g : GW w
  P : Places w.heap.size w
  T : TW w.heap.size w
theorem TW.go {w w' : World} (h : TW w.heap.size w) (hb : Below w.heap.size w w') : TW w'.heap.size w' := (h.below hb).mono hb.size
theorem KW.go {w w' : World} (h : KW w) (hb : Below w.heap.size w w') : KW w' := ⟨h.g.below hb, h.P.go hb, h.T.go hb⟩
set_option maxRecDepth 100000 in
set_option maxHeartbeats 1600000 in
theorem reads_any (t : List UInt8) (x : LensD) (h : readS t = ⟨x, 0, 0⟩) (f v s k : Ptr) (w : World) (hx : LensAt (fun b => b < w.heap.size) w x f v s k) (hw : KW w) (ht : t.length ≤ 100000) :
    Calls Tryz.prog 22 #[.string (bs t), lensV x f v s k] w (RetB w (.bool true)) := by
  have hal : Below w.heap.size w (w.alloc (.cells (cells9 x f v s k).toArray 37)) := (Below.refl w.heap.size w).alloc (Nat.le_refl _) _
  have hnew : BenchB (w.alloc (.cells (cells9 x f v s k).toArray 37)) w.heap.size 37 x f v s k := heap_alloc_new w _
  have Hx := Lib.hid hx; have Hw := Lib.hid hw; have Hal := Lib.hid hal; have Hnew := Lib.hid hnew; have H := Lib.hid h
  clear hx hw hal hnew h
  unfold lensV
  go_enter Tryz.func22, Tryz.ntmps22
  go_upto_region 1 with fail
  refine step_world (fun wx => BenchB wx w.heap.size 37 x f v s k ∧ Below w.heap.size w wx) ⟨Hnew.out, Hal.out⟩ ?_
  clear Hnew Hal
  rintro w1 ⟨h9, hb1⟩
  have hp : Calls Tryz.prog 18 #[.string (bs t)] w1 (RetPS w1 ⟨x, 0, 0⟩) := by
    rw [← H.out]
    exact sparse_any t w1 (Hw.out.go hb1).g (Hw.out.go hb1).T (Hw.out.go hb1).P ht
  have Hp := Lib.hid hp; have H9 := Lib.hid h9; have Hb1 := Lib.hid hb1
  clear hp h9 hb1 H
  go_wp2_with (first
    | (refine Hp.out.mono ?_; rintro e w2 ⟨f', v', s', k', rfl, hL, hb2⟩; unfold lensV; have HL := Lib.hid hL; have Hb2 := Lib.hid hb2; clear hL hb2)
    | (refine wpL_store_lens x f' v' s' k' (heap_alloc_new w2 _) rfl rfl (.tmp 5) (.tmp 11) rfl rfl rfl ?_; intro w3 h3 hw3; have hb3 : Below w2.heap.size w2 w3 := (by rw [hw3]; exact below_setCells (Nat.le_refl _) _ _ ((Below.refl _ _).alloc (Nat.le_refl _) _)); have hL3 := HL.out.go hb3; have hx3 := Hx.out.go (below_chain (below_chain Hb1.out Hb2.out) hb3); have h93 := BenchB.go (BenchB.go H9.out Hb2.out) hb3; have H3 := Lib.hid h3; have HL3 := Lib.hid hL3; have Hx3 := Lib.hid hx3; have H93 := Lib.hid h93; have Hb3 := Lib.hid (below_chain (below_chain Hb1.out Hb2.out) hb3); clear h3 hw3 hb3 hL3 hx3 h93)
    | (refine wpL_load_lensG H3.out rfl (.tmp 5) rfl rfl ?_)
    | (refine wpL_load_lensG H93.out rfl (.tmp 3) rfl rfl ?_)
    | (refine (rlSame_eq x f' v' s' k' f v s k w3 HL3.out Hx3.out).mono ?_; rintro e w4 ⟨rfl, hb4⟩; have Hb4 := Lib.hid hb4; clear hb4))
  go_ret
  exact ⟨rfl, below_chain Hb3.out Hb4.out⟩
set_option maxRecDepth 100000 in
set_option maxHeartbeats 1600000 in
theorem fails_any (t : List UInt8) (line code : Int) (h : failS t line code) (w : World) (hw : KW w) (ht : t.length ≤ 100000) :
    Calls Tryz.prog 23 #[.string (bs t), .int .i64 line, .int .i64 code] w (RetB w (.bool true)) := by
  have hp : Calls Tryz.prog 18 #[.string (bs t)] w (RetPS w ⟨lensN, line, code⟩) := by
    unfold failS at h
    rw [← h]
    exact sparse_any t w hw.g hw.T hw.P ht
  have Hp := Lib.hid hp; clear hp hw h
  go_enter Tryz.func23, Tryz.ntmps23
  go_wp2_with (first
    | (refine Hp.out.mono ?_; rintro e w2 ⟨f', v', s', k', rfl, hL, hb2⟩; unfold lensV; have HL := Lib.hid hL; have Hb2 := Lib.hid hb2; clear hL hb2)
    | (refine wpL_store_lens lensN f' v' s' k' (heap_alloc_new w2 _) rfl rfl (.tmp 7) (.tmp 13) rfl rfl rfl ?_; intro w3 h3 hw3; have hb3 : Below w2.heap.size w2 w3 := (by rw [hw3]; exact below_setCells (Nat.le_refl _) _ _ ((Below.refl _ _).alloc (Nat.le_refl _) _)); have hL3 := HL.out.go hb3; have H3 := Lib.hid h3; have HL3 := Lib.hid hL3; have Hb3 := Lib.hid (below_chain Hb2.out hb3); clear h3 hw3 hb3 hL3)
    | (refine wpL_load_lensG H3.out rfl (.tmp 7) rfl rfl ?_)
    | (refine (rlSame_eq lensN f' v' s' k' ptr0 ptr0 ptr0 ptr0 w3 HL3.out (lensN_at _ _)).mono ?_; rintro e w4 ⟨rfl, hb4⟩; have Hb4 := Lib.hid hb4; clear hb4))
  go_ret
  exact ⟨rfl, below_chain Hb3.out Hb4.out⟩
end Go.Proofs.YtgohdcccfkjooaaGreatDoor

namespace Go.Proofs.YtgohdcccfkjooaaGreatDoor
open Go.RowKit

theorem lens9_load {P : Program} {op : Oper} {ac : Act} {y : World} {b : Nat} {T : TypeId} {x : LensD} {f v s k : Ptr} {d : TypeDesc} (h : BenchB y b T x f v s k) (hu : P.underlying 37 = some d) (hd : d.isRow = true) (hi : (P.info? 37).map (·.size) = some 9) (z : Operand) (ho : op.op = .load 37 z)
    (hx : ac.eval z = .pointer (some ⟨b, 0, none⟩)) : (execOp ac.eval op).run P y = .ok (.value (.agg #[.string x.nm, .int .i64 x.dist, .int .i64 x.pupil, .int .i64 x.stop, .int .i64 x.prim, .slice f.a f.n f.c, .slice v.a v.n v.c, .slice s.a s.n s.c, .slice k.a k.n k.c])) y := by
  unfold execOp
  simp only [ho, hx, Instr.loadAt, Instr.sureAddr, Sem.run_bind, Sem.run_pure, Result.andThen_ok, run_loadVar_mid y b 0 37 (cells9 x f v s k) d h.range hu hd hi]
  rfl
theorem wpG_load_lens {ops : Array Oper} {Q : Exit → Act → World → Prop} {N i : Nat} {pu : List Nat} {fs : List (Nat × Tmp × Obj)} {C : Nat → Prop} {rest : List (Nat × Bool)} {op : Oper} {ac : Act} {w : World} (hi : ops.toList[i]? = some op) (hpu : pu.contains i = false)
    (hw : Region.wanted op (yielded ops ac.tmps) = true) {b : Nat} {T : TypeId} {x : LensD} {f v s k : Ptr} (h : ∀ y, Below w.heap.size w y → BenchB y b T x f v s k) (z : Operand) (ho : op.op = .load 37 z)
    (hx : ac.eval z = .pointer (some ⟨b, 0, none⟩)) (hk : wpG Tryz.prog ops Q N pu fs C rest (ac.put op.dst (.agg #[.string x.nm, .int .i64 x.dist, .int .i64 x.pupil, .int .i64 x.stop, .int .i64 x.prim, .slice f.a f.n f.c, .slice v.a v.n v.c, .slice s.a s.n s.c, .slice k.a k.n k.c])) w) : wpG Tryz.prog ops Q N pu fs C ((i, true) :: rest) ac w :=
  wpG_yield hi hpu hw (fun y hy => lens9_load (h y hy) Tryz.underlying37 rfl Tryz.infoLens z ho hx) hk

theorem textV_flat : textV flatD = .tuple #[.string (bs (textL plainL)), .int .i64 0] := by
  unfold textV
  rw [flat_valid, if_pos rfl, if_pos rfl, flat_text]
theorem stext_flat (N : Nat) (w0 w : World) (h : FlatAt N w0 w) (hw : KW w) : Calls Tryz.prog 11 #[flatV N] w (RetB w (.tuple #[.string (bs (textL plainL)), .int .i64 0])) := by
  rw [← textV_flat]
  exact stext_any flatD _ _ _ _ w (h.lens.kept (KeptOn.refl _ _) (fun b hb => hb.2)) hw.g hw.P hw.T (fun _ => by rw [flat_text]; exact Nat.le_of_ble_eq_true (by kernel_rfl))
theorem keptOn_below' {N : Nat} {w w' : World} (h : Below w.heap.size w w') : KeptOn (fun b => N ≤ b ∧ b < w.heap.size) w w' := fun b hb => h.block b hb.2
theorem wds_new {W : World} {N : Nat} {ws : List (List UInt8)} (h : W.heap[N]? = some (.cells (strCs ws).toArray 9 (0, 0))) : Wds W (some ⟨N, 0, none⟩) ws.length ws.length ws W.heap.size :=
  ⟨rfl, Nat.le_refl _, fun _ => ⟨N, 0, rfl, lt_of_block h, fun i x hx => by rw [Nat.zero_add]; exact strCs_at h i x hx⟩⟩
/-- the lens F with a curvature: where its first surface is written -/
theorem curve_lens {N : Nat} {w w' : World} (h : FlatAt N w w') {W : World} (hb : Below w'.heap.size w' W) : LensAt (fun b => b < (W.setCell ⟨N + 3, 1, none⟩ (.int .i64 10000000)).heap.size) (W.setCell ⟨N + 3, 1, none⟩ (.int .i64 10000000)) curvedD ⟨some ⟨N + 1, 0, none⟩, 2, 2⟩ ⟨some ⟨N + 2, 0, none⟩, 1, 1⟩ ⟨some ⟨N + 3, 0, none⟩, 2, 2⟩ ptr0 := by
  have hs := h.sz
  have hsb := hb.size
  have hsW : (W.setCell ⟨N + 3, 1, none⟩ (.int .i64 10000000)).heap.size = W.heap.size := by simp
  have hf := (cell_other (u := .int .i64 10000000) (j := 1) (show N + 1 ≠ N + 3 by omega)).trans ((hb.block (N + 1) (by omega)).trans h.f)
  have hv := (cell_other (u := .int .i64 10000000) (j := 1) (show N + 2 ≠ N + 3 by omega)).trans ((hb.block (N + 2) (by omega)).trans h.v)
  have hS0 := obj_setCell ((hb.block (N + 3) (by omega)).trans h.s) 1 (.int .i64 10000000)
  have hS : (W.setCell ⟨N + 3, 1, none⟩ (.int .i64 10000000)).heap[N + 3]? = some (.cells (cells22 { (flatS 10000000).s with curv := 10000000 } none 0 0 ++ cells22 (flatS 0).s none 0 0).toArray 70 (0, 0)) := hS0
  refine ⟨⟨rfl, Nat.le_refl _, fun _ => ⟨N + 1, 0, rfl, by omega, fun j hj => ?_⟩⟩, ⟨rfl, Nat.le_refl _, fun _ => ⟨N + 2, 0, rfl, by omega, fun j hj => ?_⟩⟩,
    ⟨rfl, Nat.le_refl _, fun _ => ⟨N + 3, 0, rfl, by omega, fun i y hy => ?_⟩⟩, RR.nil _ _ _ _ _ _, by show (2 : Nat) ≤ _; omega, by show (1 : Nat) ≤ _; omega, by show (2 : Nat) ≤ _; omega, by decide, fun e => (by cases e), fun e => (by cases e), by decide⟩
  · have hj4 : j < 4 := hj
    match j, hj4 with
    | 0, _ => exact obj_cell hf 0
    | 1, _ => exact obj_cell hf 1
    | 2, _ => exact obj_cell hf 2
    | 3, _ => exact obj_cell hf 3
    | j + 4, hj => omega
  · have hj2 : j < 2 := hj
    match j, hj2 with
    | 0, _ => exact obj_cell hv 0
    | 1, _ => exact obj_cell hv 1
    | j + 2, hj => omega
  · match i, hy with
    | 0, hy =>
      cases hy
      exact ⟨_, ⟨none, 0, 0, rfl, IRp.nil _ _ _ _ _, by decide, fun _ => rfl, by decide⟩, fun j v hv => by
        have hl := (List.getElem?_eq_some_iff.1 hv).1
        rw [obj_cell hS, List.getElem?_toArray]
        show (cells22 _ none 0 0 ++ cells22 _ none 0 0)[0 + 0 * 22 + j]? = _
        rw [show 0 + 0 * 22 + j = j by omega, List.getElem?_append_left hl]; exact hv⟩
    | 1, hy =>
      cases hy
      exact ⟨_, ⟨none, 0, 0, rfl, IRp.nil _ _ _ _ _, by decide, fun _ => rfl, by decide⟩, fun j v hv => by
        rw [obj_cell hS, List.getElem?_toArray]
        show (cells22 _ none 0 0 ++ cells22 _ none 0 0)[0 + 1 * 22 + j]? = _
        rw [List.getElem?_append_right (by show 22 ≤ _; omega)]
        show (cells22 _ none 0 0)[0 + 1 * 22 + j - 22]? = _
        rw [show 0 + 1 * 22 + j - 22 = j by omega]; exact hv⟩
    | i + 2, hy => cases hy
set_option maxRecDepth 100000 in
set_option maxHeartbeats 3200000 in
theorem works_any (w : World) (hw : KW w) : Calls Tryz.prog 13 #[] w (RetB w (.bool true)) := by
  have Hw := Lib.hid hw; clear hw
  go_enter Tryz.func13, Tryz.ntmps13
  go_wp2_with fail
  refine (flat_any w).mono ?_
  rintro e w1 ⟨rfl, hf⟩
  have ht := stext_flat w.heap.size w w1 hf (Hw.out.go hf.be)
  generalize flatV w.heap.size = V at *
  have Ht := Lib.hid ht; have Hf := Lib.hid hf
  clear ht hf
  obtain ⟨T0, hT0⟩ : ∃ T0, textL plainL = T0 := ⟨_, rfl⟩
  rw [hT0] at Ht
  have HT0 := Lib.hid hT0; clear hT0
  go_wp2_with (refine Ht.out.mono ?_; rintro e w2 ⟨rfl, hb2⟩; have Hb2 := Lib.hid hb2; clear hb2)
  refine (flat_any w2).mono ?_
  rintro e w3 ⟨rfl, hf2⟩
  have Hf2 := Lib.hid hf2; clear hf2
  go_upto_region 3 with (refine wpL_store_lens flatD ⟨some ⟨w2.heap.size + 1, 0, none⟩, 2, 2⟩ ⟨some ⟨w2.heap.size + 2, 0, none⟩, 1, 1⟩ ⟨some ⟨w2.heap.size + 3, 0, none⟩, 2, 2⟩ ptr0 (heap_alloc_new w3 _) rfl rfl (.tmp 3) (.tmp 11) rfl rfl rfl ?_; intro w4 h4 hw4; have hb4 : Below w3.heap.size w3 w4 := (by rw [hw4]; exact below_setCells (Nat.le_refl _) _ _ ((Below.refl _ _).alloc (Nat.le_refl _) _)); have H4 := Lib.hid h4; have Hb4 := Lib.hid hb4; clear h4 hb4 hw4)
  have hsz := Hf2.out.sz
  have c7 : w4.cell? ⟨w3.heap.size, 7, none⟩ = some (.slice (some ⟨w2.heap.size + 3, 0, none⟩) 2 2) := obj_cell H4.out 7
  have hS := (Hb4.out.block (w2.heap.size + 3) (by omega)).trans Hf2.out.s
  have d1 : w4.cell? ⟨w2.heap.size + 3, 1, none⟩ = some (.int .i64 0) := obj_cell hS 1
  have g1 : w4.frozen? ⟨w2.heap.size + 3, 1, none⟩ = false := obj_free hS 1
  have HS := Lib.hid hS; clear hS
  have Hsz := Lib.hid hsz; clear hsz
  go_wp2_with fail
  have hL := curve_lens Hf2.out Hb4.out
  have hB : BenchB (w4.setCell ⟨w2.heap.size + 3, 1, none⟩ (.int .i64 10000000)) w3.heap.size 37 curvedD ⟨some ⟨w2.heap.size + 1, 0, none⟩, 2, 2⟩ ⟨some ⟨w2.heap.size + 2, 0, none⟩, 1, 1⟩ ⟨some ⟨w2.heap.size + 3, 0, none⟩, 2, 2⟩ ptr0 := (cell_other (by have := Hsz.out; omega)).trans H4.out
  have hb5 : Below w.heap.size w (w4.setCell ⟨w2.heap.size + 3, 1, none⟩ (.int .i64 10000000)) := by
    have h1 := Hf.out.be
    have h2 := below_chain h1 Hb2.out
    have h3 := below_chain h2 Hf2.out.be
    exact below_cell (below_chain h3 Hb4.out) (by have := h2.size; omega)
  clear c7 d1 g1
  generalize w4.setCell ⟨w2.heap.size + 3, 1, none⟩ (.int .i64 10000000) = W5 at *
  have HL := Lib.hid hL; have HB := Lib.hid hB; have Hb5 := Lib.hid hb5; have HK5 := Lib.hid (Hw.out.go hb5)
  clear hL hB hb5 HS Hb4 H4 Hf2 Hb2 Hf Ht
  refine (plain_any W5).mono ?_
  rintro e w6 ⟨rfl, rfl⟩
  have htx := textN_any plainL W5.heap.size 0 12 (W5.alloc (.cells (strCs plainL).toArray 9)) (fun j x hx => by rw [Nat.zero_add]; exact strCs_at (heap_alloc_new W5 _) j x hx) (by simp) (by decide) (by decide) (Nat.le_of_ble_eq_true (by kernel_rfl)) (by decide)
  rw [HT0.out] at htx
  have hal6 : Below W5.heap.size W5 (W5.alloc (.cells (strCs plainL).toArray 9)) := (Below.refl _ _).alloc (Nat.le_refl _) _
  have Hal6 := Lib.hid hal6; have Htx := Lib.hid htx
  clear htx hal6
  go_wp2_with (refine Htx.out.mono ?_; rintro e w7 ⟨rfl, hb7⟩; have Hb7 := Lib.hid (below_chain Hal6.out hb7); clear hb7)
  have hr0 : readS T0 = ⟨flatD, 0, 0⟩ := by rw [← HT0.out]; exact flat_read
  have hT0l : T0.length ≤ 100000 := by rw [← HT0.out]; exact Nat.le_of_ble_eq_true (by kernel_rfl)
  have HL7 := Lib.hid (HL.out.go Hb7.out); have HB7 := Lib.hid (HB.out.go Hb7.out); have HK7 := Lib.hid (HK5.out.go Hb7.out); have Hr0 := Lib.hid hr0; have HT0l := Lib.hid hT0l; have Hb57 := Lib.hid (below_chain Hb5.out Hb7.out)
  clear hr0 hT0l HL HB HK5 Hb7 Hal6 Htx Hb5 Hw
  refine wp_region_floats 18 [] [] [(0, true), (1, true), (2, true), (3, true), (4, true), (5, true), (6, true), (7, true), (8, true), (9, false), (10, false), (11, true), (12, true), (15, true), (13, false), (14, false), (16, false), (17, true)] (by kernel_rfl) (by kernel_rfl) ⟨by simp, by simp, fun _ h => by cases h⟩ (fun _ _ _ _ _ h => h) (fun _ _ o _ _ h => by cases o <;> exact h) ?_
  iterate 9
    refine wpG_yield (v := ?_) rfl rfl (by rfl) ?_ ?_
    rotate_left
    · intro y hy
      skip
      go_simp
      with_reducible rfl
    try simp only [Act.put, List.setIfInBounds_toArray, List.set_cons_zero, List.set_cons_succ]
  refine wpG_stepw rfl (by rfl) (fun x1 hx1 K hK => ?_)
  go_simp
  refine (flat_any x1).mono ?_
  rintro e x2 ⟨rfl, hf⟩
  refine hK _ _ hf.be ?_
  clear hK K
  have hx1' : Below w7.heap.size w7 x1 := below_undrew (k := 1) hx1
  have hx2 := below_chain hx1' hf.be
  try simp only [Act.put, List.setIfInBounds_toArray, List.set_cons_zero, List.set_cons_succ]
  refine wpG_stepw rfl (by rfl) (fun x3 hx3 K hK => ?_)
  go_simp
  refine (reads_any T0 flatD Hr0.out _ _ _ _ x3 (hf.lens.kept (keptOn_below' hx3) (fun b hb => Nat.lt_of_lt_of_le hb.2 hx3.size)) (HK7.out.go (below_chain hx2 hx3)) HT0l.out).mono ?_
  rintro e x4 ⟨rfl, hb4⟩
  refine hK _ _ hb4 ?_
  clear hK K
  have hx4 := below_chain (below_chain hx2 hx3) hb4
  clear hf hx1 hx1' hx2 hx3 hb4
  try simp only [Act.put, List.setIfInBounds_toArray, List.set_cons_zero, List.set_cons_succ]
  iterate 2
    refine wpG_yield (v := ?_) rfl rfl (by rfl) ?_ ?_
    rotate_left
    · intro y hy
      skip
      go_simp
      with_reducible rfl
    try simp only [Act.put, List.setIfInBounds_toArray, List.set_cons_zero, List.set_cons_succ]
  refine wpG_load_lens rfl rfl (by rfl) (fun y hy => HB7.out.go (below_chain hx4 hy)) (.tmp 3) rfl rfl ?_
  try simp only [Act.put, List.setIfInBounds_toArray, List.set_cons_zero, List.set_cons_succ]
  refine wpG_stepw rfl (by rfl) (fun x5 hx5 K hK => ?_)
  go_simp
  refine hK _ _ ((Below.refl _ _).alloc (Nat.le_refl _) _) ?_
  clear hK K
  have hn5 : (x5.alloc (.cells (strCs [[116, 104, 105, 99, 107, 32, 49, 48], [99, 117, 114, 118, 32, 48, 46, 48, 49]]).toArray 9)).heap[x5.heap.size]? = some (.cells (strCs [[116, 104, 105, 99, 107, 32, 49, 48], [99, 117, 114, 118, 32, 48, 46, 48, 49]]).toArray 9 (0, 0)) := heap_alloc_new x5 _
  have hx6 : Below w7.heap.size w7 (x5.alloc (.cells (strCs [[116, 104, 105, 99, 107, 32, 49, 48], [99, 117, 114, 118, 32, 48, 46, 48, 49]]).toArray 9)) := below_al (below_chain hx4 hx5)
  try simp only [Act.put, List.setIfInBounds_toArray, List.set_cons_zero, List.set_cons_succ]
  refine wpG_stepw rfl (by rfl) (fun x7 hx7 K hK => ?_)
  go_simp
  have hn7 := (hx7.block _ (lt_of_block hn5)).trans hn5
  refine (put_lines 9 (by omega) [[116, 104, 105, 99, 107, 32, 49, 48], [99, 117, 114, 118, 32, 48, 46, 48, 49]] _ 2 2 x7 (wds_new hn7) (by omega) (Nat.le_of_ble_eq_true (by kernel_rfl)) (by intro e; cases e) (by decide)).mono ?_
  rintro e x8 ⟨rfl, hb8⟩
  refine hK _ _ hb8 ?_
  clear hK K
  have hx8 := below_chain (below_chain hx6 hx7) hb8
  clear hn5 hn7 hx6 hx7 hb8 hx5 hx4
  obtain ⟨T1, hT1⟩ : ∃ T1, putT 9 [[116, 104, 105, 99, 107, 32, 49, 48], [99, 117, 114, 118, 32, 48, 46, 48, 49]] = T1 := ⟨_, rfl⟩
  have hr1 : readS T1 = ⟨curvedD, 0, 0⟩ := by rw [← hT1]; exact ex_curved
  have hT1l : T1.length ≤ 100000 := by rw [← hT1]; exact Nat.le_of_ble_eq_true (by kernel_rfl)
  rw [hT1]
  have Hr1 := Lib.hid hr1; have HT1l := Lib.hid hT1l
  clear hr1 hT1l hT1
  try simp only [Act.put, List.setIfInBounds_toArray, List.set_cons_zero, List.set_cons_succ]
  refine wpG_stepw rfl (by rfl) (fun x9 hx9 K hK => ?_)
  go_simp
  refine (reads_any T1 curvedD Hr1.out ⟨some ⟨w2.heap.size + 1, 0, none⟩, 2, 2⟩ ⟨some ⟨w2.heap.size + 2, 0, none⟩, 1, 1⟩ ⟨some ⟨w2.heap.size + 3, 0, none⟩, 2, 2⟩ ptr0 x9 (HL7.out.go (below_chain hx8 hx9)) (HK7.out.go (below_chain hx8 hx9)) HT1l.out).mono ?_
  rintro e x10 ⟨rfl, hb10⟩
  refine hK _ _ hb10 ?_
  clear hK K
  have hx10 := below_chain (below_chain hx8 hx9) hb10
  clear hx8 hx9 hb10
  try simp only [Act.put, List.setIfInBounds_toArray, List.set_cons_zero, List.set_cons_succ]
  iterate 1
    refine wpG_yield (v := ?_) rfl rfl (by rfl) ?_ ?_
    rotate_left
    · intro y hy
      skip
      go_simp
      with_reducible rfl
    try simp only [Act.put, List.setIfInBounds_toArray, List.set_cons_zero, List.set_cons_succ]
  refine wpG_nil0 (l := [_]) rfl (fun x11 hx11 => ?_)
  have hk11 := HK7.out.go (below_chain hx10 hx11)
  have hb11 := below_chain Hb57.out (below_chain hx10 hx11)
  have Hk11 := Lib.hid hk11; have Hb11 := Lib.hid hb11
  clear hk11 hb11 hx10 hx11 HL7 HB7 HK7 Hb57 Hr0 HT0l Hr1 HT1l
  -- the five refused
  go_wp2_with fail
  have HK := Hk11; have HB := Hb11
  clear Hk11 Hb11
  have hal1 : Below x11.heap.size x11 (x11.alloc (.cells (strCs [[119, 97, 118, 101, 32, 53, 53, 48, 46, 48, 32, 49]]).toArray 9)) := (Below.refl _ _).alloc (Nat.le_refl _) _
  refine (put_lines 7 (by omega) [[119, 97, 118, 101, 32, 53, 53, 48, 46, 48, 32, 49]] _ 1 1 _ (wds_new (heap_alloc_new x11 _)) (by omega) (Nat.le_of_ble_eq_true (by kernel_rfl)) (by intro e; cases e) (by decide)).mono ?_
  rintro e ya1 ⟨rfl, hba1⟩
  have hbb1 := below_chain hal1 hba1
  obtain ⟨P1, hP1⟩ : ∃ T, putT 7 [[119, 97, 118, 101, 32, 53, 53, 48, 46, 48, 32, 49]] = T := ⟨_, rfl⟩
  have hf1 : failS P1 8 5 := by rw [← hP1]; exact ex_f1
  have hl1 : P1.length ≤ 100000 := by rw [← hP1]; exact Nat.le_of_ble_eq_true (by kernel_rfl)
  rw [hP1]
  have Hf1 := Lib.hid hf1; have Hl1 := Lib.hid hl1; have HKa1 := Lib.hid (HK.out.go hbb1); have HBa1 := Lib.hid (below_chain HB.out hbb1)
  clear hf1 hl1 hP1 hbb1 hba1 HK HB hal1
  have HK := HKa1; have HB := HBa1
  go_wp2_with fail
  refine (fails_any P1 8 5 Hf1.out ya1 HK.out Hl1.out).mono ?_
  rintro e yb1 ⟨rfl, hbc1⟩
  have HKb1 := Lib.hid (HKa1.out.go hbc1); have HBb1 := Lib.hid (below_chain HBa1.out hbc1)
  clear hbc1
  clear HK HB
  have HK := HKb1; have HB := HBb1
  go_wp2_with fail
  have hal2 : Below yb1.heap.size yb1 (yb1.alloc (.cells (strCs [[116, 104, 105, 99, 107, 32, 49, 48], [116, 104, 105, 99, 107, 32, 49, 48]]).toArray 9)) := (Below.refl _ _).alloc (Nat.le_refl _) _
  refine (put_lines 9 (by omega) [[116, 104, 105, 99, 107, 32, 49, 48], [116, 104, 105, 99, 107, 32, 49, 48]] _ 2 2 _ (wds_new (heap_alloc_new yb1 _)) (by omega) (Nat.le_of_ble_eq_true (by kernel_rfl)) (by intro e; cases e) (by decide)).mono ?_
  rintro e ya2 ⟨rfl, hba2⟩
  have hbb2 := below_chain hal2 hba2
  obtain ⟨P2, hP2⟩ : ∃ T, putT 9 [[116, 104, 105, 99, 107, 32, 49, 48], [116, 104, 105, 99, 107, 32, 49, 48]] = T := ⟨_, rfl⟩
  have hf2 : failS P2 11 5 := by rw [← hP2]; exact ex_f2
  have hl2 : P2.length ≤ 100000 := by rw [← hP2]; exact Nat.le_of_ble_eq_true (by kernel_rfl)
  rw [hP2]
  have Hf2 := Lib.hid hf2; have Hl2 := Lib.hid hl2; have HKa2 := Lib.hid (HK.out.go hbb2); have HBa2 := Lib.hid (below_chain HB.out hbb2)
  clear hf2 hl2 hP2 hbb2 hba2 HK HB hal2
  have HK := HKa2; have HB := HBa2
  go_wp2_with fail
  refine (fails_any P2 11 5 Hf2.out ya2 HK.out Hl2.out).mono ?_
  rintro e yb2 ⟨rfl, hbc2⟩
  have HKb2 := Lib.hid (HKa2.out.go hbc2); have HBb2 := Lib.hid (below_chain HBa2.out hbc2)
  clear hbc2
  clear HK HB
  have HK := HKb2; have HB := HBb2
  go_wp2_with fail
  refine (put_lines 11 (by omega) [] none 0 0 yb2 ⟨rfl, Nat.le_refl _, fun h => absurd h (by omega)⟩ (by omega) (Nat.le_of_ble_eq_true (by kernel_rfl)) (fun _ => rfl) (by decide)).mono ?_
  rintro e ya3 ⟨rfl, hba3⟩
  have hbb3 := hba3
  obtain ⟨P3, hP3⟩ : ∃ T, putT 11 [] = T := ⟨_, rfl⟩
  have hf3 : failS P3 12 5 := by rw [← hP3]; exact ex_f3
  have hl3 : P3.length ≤ 100000 := by rw [← hP3]; exact Nat.le_of_ble_eq_true (by kernel_rfl)
  rw [hP3]
  have Hf3 := Lib.hid hf3; have Hl3 := Lib.hid hl3; have HKa3 := Lib.hid (HK.out.go hbb3); have HBa3 := Lib.hid (below_chain HB.out hbb3)
  clear hf3 hl3 hP3 hbb3 hba3 HK HB
  have HK := HKa3; have HB := HBa3
  go_wp2_with fail
  refine (fails_any P3 12 5 Hf3.out ya3 HK.out Hl3.out).mono ?_
  rintro e yb3 ⟨rfl, hbc3⟩
  have HKb3 := Lib.hid (HKa3.out.go hbc3); have HBb3 := Lib.hid (below_chain HBa3.out hbc3)
  clear hbc3
  clear HK HB
  have HK := HKb3; have HB := HBb3
  go_wp2_with fail
  refine (fails_any [] 1 5 ex_f4 yb3 HK.out (by decide)).mono ?_
  rintro e yb4 ⟨rfl, hbc4⟩
  have HKb4 := Lib.hid (HK.out.go hbc4); have HBb4 := Lib.hid (below_chain HB.out hbc4)
  clear HK HB hbc4
  have HK := HKb4; have HB := HBb4
  go_wp2_with fail
  have hal5 : Below yb4.heap.size yb4 (yb4.alloc (.cells (strCs [[115, 116, 111, 112, 32, 49]]).toArray 9)) := (Below.refl _ _).alloc (Nat.le_refl _) _
  refine (put_lines 3 (by omega) [[115, 116, 111, 112, 32, 49]] _ 1 1 _ (wds_new (heap_alloc_new yb4 _)) (by omega) (Nat.le_of_ble_eq_true (by kernel_rfl)) (by intro e; cases e) (by decide)).mono ?_
  rintro e ya5 ⟨rfl, hba5⟩
  have hbb5 := below_chain hal5 hba5
  obtain ⟨P5, hP5⟩ : ∃ T, putT 3 [[115, 116, 111, 112, 32, 49]] = T := ⟨_, rfl⟩
  have hf5 : failS P5 0 120 := by rw [← hP5]; exact ex_f5
  have hl5 : P5.length ≤ 100000 := by rw [← hP5]; exact Nat.le_of_ble_eq_true (by kernel_rfl)
  rw [hP5]
  have Hf5 := Lib.hid hf5; have Hl5 := Lib.hid hl5; have HKa5 := Lib.hid (HK.out.go hbb5); have HBa5 := Lib.hid (below_chain HB.out hbb5)
  clear hf5 hl5 hP5 hbb5 hba5 HK HB hal5
  have HK := HKa5; have HB := HBa5
  go_wp2_with fail
  refine (fails_any P5 0 120 Hf5.out ya5 HK.out Hl5.out).mono ?_
  rintro e yb5 ⟨rfl, hbc5⟩
  have HKb5 := Lib.hid (HKa5.out.go hbc5); have HBb5 := Lib.hid (below_chain HBa5.out hbc5)
  clear hbc5
  clear HK HB
  have HK := HKb5; have HB := HBb5
  go_wp2_with fail
  go_ret
  exact ⟨rfl, HB.out⟩
end Go.Proofs.YtgohdcccfkjooaaGreatDoor

namespace Go.Proofs.YtgohdcccfkjooaaGreatDoor
open Go.RowKit

/-- a block of ints read as records -/
theorem irp_block {S : Nat → Prop} {W : World} {b k n : Nat} {T : TypeId} {fr : Nat × Nat} {zs : List Int} (h : W.heap[b]? = some (.cells (zs.map (Value.int .i64)).toArray T fr)) (hS : S b) (hl : zs.length = n * k) : IRp S W k (some ⟨b, 0, none⟩) n n zs := by
  refine ⟨hl, Nat.le_refl _, fun _ => ⟨b, 0, rfl, hS, fun j hj => ?_⟩⟩
  rw [Nat.zero_add, cell_of_row W b j _ T fr h, List.getElem?_toArray, List.getElem?_map, List.getElem?_eq_getElem (by omega)]
  simp [List.getD_eq_getElem?_getD, List.getElem?_eq_getElem (show j < zs.length by omega)]
/-- a block of records -/
theorem rr_block {α : Type} {R : Rep α} {k : Nat} {S : Nat → Prop} {W : World} {b : Nat} {T : TypeId} {fr : Nat × Nat} {css : List (List Value)} {l : List α} (h : W.heap[b]? = some (.cells css.flatten.toArray T fr)) (hS : S b) (hk : ∀ cs ∈ css, cs.length = k) (hl : css.length = l.length)
    (hr : ∀ (i : Nat) (x : α) (cs : List Value), l[i]? = some x → css[i]? = some cs → R S W x cs) : RR R k S W (some ⟨b, 0, none⟩) l.length l.length l := by
  refine ⟨rfl, Nat.le_refl _, fun _ => ⟨b, 0, rfl, hS, fun i x hx => ?_⟩⟩
  have hi := (List.getElem?_eq_some_iff.1 hx).1
  have hci : css[i]? = some css[i] := List.getElem?_eq_getElem (by omega)
  refine ⟨css[i], hr i x _ hx hci, fun j v hv => ?_⟩
  have hj : j < k := by
    have := (List.getElem?_eq_some_iff.1 hv).1
    rw [hk css[i] (List.getElem_mem _)] at this; exact this
  rw [Nat.zero_add, cell_of_row W b _ _ T fr h, List.getElem?_toArray, flatten_at css i _ j hk hci hj]
  exact hv
def fullCss (N : Nat) : List (List Value) := [cells22 (fullD.l.getD 0 (newSurf 0)).s (some ⟨N, 0, none⟩) 2 2, cells22 (fullD.l.getD 1 (newSurf 0)).s none 0 0, cells22 (fullD.l.getD 2 (newSurf 0)).s none 0 0, cells22 (fullD.l.getD 3 (newSurf 0)).s none 0 0, cells22 (fullD.l.getD 4 (newSurf 0)).s none 0 0]
def fullCfs (N : Nat) : List (List Value) := [[.string ⟨#[97]⟩, .slice (some ⟨N, 0, none⟩) 2 2], [.string ⟨#[98]⟩, .slice none 0 0]]
/-- the lens 'full', where its lists lie in blocks of their own -/
theorem full_lens {W : World} {F V M S C K : Nat} (hf : W.heap[F]? = some (.cells #[.int .i64 0, .int .i64 0, .int .i64 0, .int .i64 750000] 112 (0, 0))) (hv : W.heap[V]? = some (.cells #[.int .i64 486133, .int .i64 1, .int .i64 587562, .int .i64 100] 63 (0, 0)))
    (hm : W.heap[M]? = some (.cells #[.int .i64 13800000, .int .i64 1, .int .i64 2, .int .i64 40000000, .int .i64 0, .int .i64 1] 67 (0, 0))) (hs : W.heap[S]? = some (.cells (fullCss M).flatten.toArray 70 (0, 0)))
    (hc : W.heap[C]? = some (.cells #[.int .i64 3, .int .i64 1, .int .i64 (-70), .int .i64 0, .int .i64 17, .int .i64 2] 72 (0, 0))) (hk : W.heap[K]? = some (.cells (fullCfs C).flatten.toArray 75 (0, 0))) :
    LensAt (fun b => b < W.heap.size) W fullD ⟨some ⟨F, 0, none⟩, 2, 2⟩ ⟨some ⟨V, 0, none⟩, 2, 2⟩ ⟨some ⟨S, 0, none⟩, 5, 5⟩ ⟨some ⟨K, 0, none⟩, 2, 2⟩ := by
  refine ⟨irp_block (zs := fullD.fs) (n := 2) hf (lt_of_block hf) rfl, irp_block (zs := fullD.ws) (n := 2) hv (lt_of_block hv) rfl, rr_block (css := fullCss M) (l := fullD.l) hs (lt_of_block hs) ?_ rfl ?_, rr_block (css := fullCfs C) (l := fullD.cf) hk (lt_of_block hk) ?_ rfl ?_, by show (2 : Nat) ≤ _; omega, by show (2 : Nat) ≤ _; omega, by show (5 : Nat) ≤ _; omega, by show (2 : Nat) ≤ _; omega, fun e => (by cases e), fun e => (by cases e), by decide⟩
  · intro cs h
    unfold fullCss at h
    simp only [List.mem_cons, List.not_mem_nil, or_false] at h
    rcases h with rfl | rfl | rfl | rfl | rfl <;> rfl
  · intro i x cs hx hcs
    match i, hx, hcs with
    | 0, hx, hcs => cases hx; cases hcs; exact ⟨some ⟨M, 0, none⟩, 2, 2, rfl, irp_block (zs := [13800000, 1, 2, 40000000, 0, 1]) (n := 2) hm (lt_of_block hm) rfl, by decide, fun e => (by cases e), by decide⟩
    | 1, hx, hcs => cases hx; cases hcs; exact ⟨none, 0, 0, rfl, IRp.nil _ _ _ _ _, by decide, fun _ => rfl, by decide⟩
    | 2, hx, hcs => cases hx; cases hcs; exact ⟨none, 0, 0, rfl, IRp.nil _ _ _ _ _, by decide, fun _ => rfl, by decide⟩
    | 3, hx, hcs => cases hx; cases hcs; exact ⟨none, 0, 0, rfl, IRp.nil _ _ _ _ _, by decide, fun _ => rfl, by decide⟩
    | 4, hx, hcs => cases hx; cases hcs; exact ⟨none, 0, 0, rfl, IRp.nil _ _ _ _ _, by decide, fun _ => rfl, by decide⟩
    | i + 5, hx, _ => cases hx
  · intro cs h
    unfold fullCfs at h
    simp only [List.mem_cons, List.not_mem_nil, or_false] at h
    rcases h with rfl | rfl <;> rfl
  · intro i x cs hx hcs
    match i, hx, hcs with
    | 0, hx, hcs => cases hx; cases hcs; exact ⟨some ⟨C, 0, none⟩, 2, 2, rfl, irp_block (zs := [3, 1, -70, 0, 17, 2]) (n := 2) hc (lt_of_block hc) rfl, by decide, fun e => (by cases e), by decide⟩
    | 1, hx, hcs => cases hx; cases hcs; exact ⟨none, 0, 0, rfl, IRp.nil _ _ _ _ _, by decide, fun _ => rfl, by decide⟩
    | i + 2, hx, _ => cases hx
end Go.Proofs.YtgohdcccfkjooaaGreatDoor

namespace Go.Proofs.YtgohdcccfkjooaaGreatDoor
open Go.RowKit

theorem textL_app (a b : List (List UInt8)) : textL (a ++ b) = textL a ++ textL b := by unfold textL; rw [List.map_append, List.flatten_append]
theorem put_len1 {i : Nat} (hi : i < 12) {s : List UInt8} (hs : s.length ≤ 30) : (putT i [s]).length ≤ 1000 := by
  have h : ∀ i, i < 12 → (textL (plainL.take i)).length + (textL (plainL.drop (i + 1))).length ≤ 500 := by decide +kernel
  have := h i hi
  unfold putT
  rw [textL_app, textL_app, List.length_append, List.length_append]
  have e : (textL [s]).length = s.length + 1 := by simp [textL]
  omega
def badCs : List (List Value) := badL.map fun p => [.int .i64 (p.1 : Int), .string (bs p.2)]
theorem bad_cell {W : World} {g k i : Nat} {s : List UInt8} {T : TypeId} (h : W.heap[g]? = some (.cells badCs.flatten.toArray T (0, 0))) (hk : badL[k]? = some (i, s)) : W.cell? ⟨g, k * 2, none⟩ = some (.int .i64 (i : Int)) ∧ W.cell? ⟨g, k * 2 + 1, none⟩ = some (.string (bs s)) := by
  have h2 : ∀ c ∈ badCs, c.length = 2 := fun c hc => by
    obtain ⟨p, _, rfl⟩ := List.mem_map.1 hc; rfl
  have hc : badCs[k]? = some [.int .i64 (i : Int), .string (bs s)] := by unfold badCs; rw [List.getElem?_map, hk]; rfl
  refine ⟨?_, ?_⟩
  · have := flatten_at badCs k _ 0 h2 hc (by omega)
    rw [obj_cell h, List.getElem?_toArray]
    exact this
  · have := flatten_at badCs k _ 1 h2 hc (by omega)
    rw [obj_cell h, List.getElem?_toArray]
    exact this
theorem hash_rep : ∀ n, Lib.repeatL [35] n = List.replicate n 35
  | 0 => rfl
  | n + 1 => by rw [Lib.repeatL, hash_rep n]; rfl
theorem repeat_hash (n : Nat) (w : World) (hn : n ≤ 1000000) : Calls Tryz.prog 25 #[.string ⟨#[35]⟩, .int .i64 (n : Int)] w (RetB w (.string (bs (List.replicate n 35)))) := by
  rw [← hash_rep]
  exact repeat_any [35] n w hn (by decide)
theorem stext_none (w : World) (hw : KW w) : Calls Tryz.prog 11 #[.agg #[.string ⟨#[]⟩, .int .i64 0, .int .i64 0, .int .i64 0, .int .i64 0, .slice none 0 0, .slice none 0 0, .slice none 0 0, .slice none 0 0]] w (RetB w (.tuple #[.string ⟨#[]⟩, .int .i64 120])) := by
  have h := stext_any lensN ptr0 ptr0 ptr0 ptr0 w (lensN_at _ _) hw.g hw.P hw.T (fun h => by rw [none_valid] at h; cases h)
  have e : textV lensN = .tuple #[.string ⟨#[]⟩, .int .i64 120] := by
    unfold textV
    rw [none_valid]; rfl
  rwa [e] at h
/-- a line put in, its list just made -/
theorem put_fails (i : Nat) (hi : i < 12) (ws : List (List UInt8)) (w : World) (hn : ws.length ≤ 10) (h0 : ws ≠ []) (P : List UInt8) (hP : putT i ws = P) (hl : P.length ≤ 100000) :
    Calls Tryz.prog 24 #[.int .i64 (i : Int), .slice (some ⟨w.heap.size, 0, none⟩) ws.length ws.length] (w.alloc (.cells (strCs ws).toArray 9)) (RetB (w.alloc (.cells (strCs ws).toArray 9)) (.string (bs P))) := by
  rw [← hP]
  exact put_lines i hi ws _ ws.length ws.length _ (wds_new (heap_alloc_new w _)) (by omega) (by rw [hP]; omega) (by intro e; cases e) (by simp [h0])
theorem wrap1 {i : Nat} (hi : i < 12) : IntKind.i64.wrap ((i : Int) + 1) = (i : Int) + 1 := by
  have : ∀ i : Nat, i < 12 → IntKind.i64.wrap ((i : Int) + 1) = (i : Int) + 1 := by decide +kernel
  exact this i hi
theorem al_chain {w w' : World} {o : Obj} (h : Below (w.alloc o).heap.size (w.alloc o) w') : Below w.heap.size w w' :=
  ((Below.refl _ _).alloc (Nat.le_refl _) o).trans (h.mono (by simp))
end Go.Proofs.YtgohdcccfkjooaaGreatDoor
