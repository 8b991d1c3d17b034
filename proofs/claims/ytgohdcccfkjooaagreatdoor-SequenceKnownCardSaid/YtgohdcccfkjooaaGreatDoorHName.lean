/-
  DERIVED. Names: package glass's Name, and the reference's.
-/
import Derived.Test.YtgohdcccfkjooaaGreatDoorGab
namespace Go.Proofs.YtgohdcccfkjooaaGreatDoor
open Go.RowKit

def letterI (c : Int) : Bool := decide ((65 ≤ c ∧ c ≤ 90) ∨ (97 ≤ c ∧ c ≤ 122) ∨ (48 ≤ c ∧ c ≤ 57) ∨ c = 45 ∨ c = 95)
def nameB (s : ByteArray) : Bool := (s.data.toList.all fun c => letterI (c.toNat : Int)) && decide (1 ≤ s.size) && decide (s.size ≤ 16)

/-- the tests of a letter, one way each -/
theorem letter_ways (c : Int) : (letterI c = true ∧ ((65 ≤ c ∧ c ≤ 90 ∧ (c == 45) = false ∧ (c == 95) = false) ∨ (97 ≤ c ∧ c ≤ 122 ∧ (c == 45) = false ∧ (c == 95) = false) ∨ (48 ≤ c ∧ c ≤ 57 ∧ (c == 45) = false ∧ (c == 95) = false) ∨ (45 ≤ c ∧ c ≤ 45 ∧ (c == 45) = true ∧ (c == 95) = false) ∨ (95 ≤ c ∧ c ≤ 95 ∧ (c == 45) = false ∧ (c == 95) = true))) ∨
    (letterI c = false ∧ (c == 45) = false ∧ (c == 95) = false ∧ (c < 48 ∨ (¬ c ≤ 57 ∧ c < 65) ∨ (¬ c ≤ 90 ∧ c < 97) ∨ ¬ c ≤ 122)) := by
  by_cases h : (65 ≤ c ∧ c ≤ 90) ∨ (97 ≤ c ∧ c ≤ 122) ∨ (48 ≤ c ∧ c ≤ 57) ∨ c = 45 ∨ c = 95
  · refine Or.inl ⟨decide_eq_true h, ?_⟩
    simp only [beq_eq_false_iff_ne, beq_iff_eq]
    omega
  · refine Or.inr ⟨decide_eq_false h, ?_⟩
    simp only [beq_eq_false_iff_ne]
    omega

set_option maxRecDepth 100000 in
set_option maxHeartbeats 1600000 in
theorem letter_any (c : Int) (w : World) : Calls Tryz.prog 162 #[.int .u8 c] w (RetB w (.bool (letterI c))) := by
  rcases letter_ways c with ⟨hl, ⟨h1, h2, h3, h4⟩ | ⟨h1, h2, h3, h4⟩ | ⟨h1, h2, h3, h4⟩ | ⟨h1, h2, h3, h4⟩ | ⟨h1, h2, h3, h4⟩⟩ | ⟨hl, h3, h4, h1 | ⟨h1, h2⟩ | ⟨h1, h2⟩ | h1⟩
  all_goals
    rw [hl]
    clear hl
    go_enter Tryz.func162, Tryz.ntmps162
    go_wp2
    go_ret
    exact ⟨by simp <;> omega, Below.refl _ _⟩

theorem all_take {s : ByteArray} {f : UInt8 → Bool} {k : Nat} (h : k < s.size) (h0 : (s.data.toList.take k).all f = true) : (s.data.toList.take (k + 1)).all f = f s[k] := by
  rw [List.take_succ_eq_append_getElem (by simpa using h), List.all_append, h0]
  simp
  rfl
theorem all_bad {s : ByteArray} {f : UInt8 → Bool} {k : Nat} (h : k < s.size) (h0 : f s[k] = false) : s.data.toList.all f = false := by
  rw [Bool.eq_false_iff]
  intro hall
  have := List.all_eq_true.1 hall s[k] (by
    have : s[k] = s.data.toList[k]'(by simpa using h) := rfl
    rw [this]; exact List.getElem_mem _)
  rw [h0] at this; cases this

set_option maxRecDepth 100000 in
set_option maxHeartbeats 1600000 in
theorem name_any (s : ByteArray) (w : World) (hs : s.size ≤ 9223372036854775807) : Calls Tryz.prog 120 #[.string s] w (RetB w (.bool (nameB s))) := by
  go_enter Tryz.func120, Tryz.ntmps120
  go_wp2_with fail
  go_loopw [6] (fun iv wr => ∃ k : Nat, k ≤ s.size ∧ iv = .int .i64 (k : Int) ∧ ((s.data.toList.take k).all fun c => letterI (c.toNat : Int)) = true ∧ Below w.heap.size w wr) (fun iv _ => s.size - (intOf iv).toNat)
  case atStart => exact ⟨0, Nat.zero_le _, rfl, rfl, Below.refl _ _⟩
  case round =>
    obtain ⟨k, hk, rfl, ho, hb⟩ := hrel
    have Ho := Lib.hid ho; have Hb := Lib.hid hb
    clear ho hb
    by_cases hkn : k < s.size
    · have hnext := all_take hkn Ho.out
      have Hn := Lib.hid hnext; clear hnext
      by_cases hv : letterI (s[k].toNat : Int) = true
      · have Hv := Lib.hid hv; clear hv
        go_wp2_with ((with_reducible refine (letter_any _ _).mono ?_); rintro e w2 ⟨he, hb2⟩; rw [Hv.out] at he; subst he)
        go_roundw
        case rel => exact ⟨k + 1, by omega, by go_num, Hn.out.trans Hv.out, below_chain Hb.out hb2⟩
        case measure => simp [intOf]; omega
      · have hv : letterI (s[k].toNat : Int) = false := by simpa using hv
        have Hv := Lib.hid hv; clear hv
        go_wp2_with ((with_reducible refine (letter_any _ _).mono ?_); rintro e w2 ⟨he, hb2⟩; rw [Hv.out] at he; subst he)
        go_ret
        refine ⟨?_, below_chain Hb.out hb2⟩
        unfold nameB
        rw [all_bad hkn Hv.out]; rfl
    · obtain rfl : k = s.size := by omega
      have h1 : (s.data.toList.all fun c => letterI (c.toNat : Int)) = true := by
        have := Ho.out
        rwa [List.take_of_length_le (by simp)] at this
      have H1 := Lib.hid h1; clear h1
      by_cases q1 : 1 ≤ s.size <;> by_cases q2 : s.size ≤ 16
      all_goals
        go_wp2
        all_goals
          go_ret
          refine ⟨?_, Hb.out⟩
          unfold nameB
          rw [H1.out]
          simp [q1, q2] <;> omega

end Go.Proofs.YtgohdcccfkjooaaGreatDoor
