/-
  DERIVED. Several texts in one: RfA, RfB, RfC, RfD, RfE, ChA, ChB, ChC, OqD.
-/
import Derived.Test.YtpicmhbjiaegpaaGreatDoorGae
import Derived.Test.YtpicmhbjiaegpaaGreatDoorGaf
import Derived.Test.YtpicmhbjiaegpaaGreatDoorGag
import Derived.Test.YtpicmhbjiaegpaaGreatDoorGah
namespace Go.Proofs.YtpicmhbjiaegpaaGreatDoor
open Go.RowKit

set_option maxHeartbeats 800000 in
theorem limits33_any (k : Nat) (h1 : 1 ≤ k) (h8 : k ≤ 8) (w : World) : Calls Tryz.prog 60 #[.int .u8 ((letOf k).toNat : Int)] w fun e w' => e = .returned (.tuple #[.int .i64 (rangeOf k).1, .int .i64 (rangeOf k).2.1, .int .i64 (digitsOf k : Int)]) ∧ w = w' := by
  have hk : k = 1 ∨ k = 2 ∨ k = 3 ∨ k = 4 ∨ k = 5 ∨ k = 6 ∨ k = 7 ∨ k = 8 := by omega
  rcases hk with rfl | rfl | rfl | rfl | rfl | rfl | rfl | rfl
  · rw [show (((letOf 1).toNat : Nat) : Int) = 119 from rfl]
    go_enter Tryz.func60, Tryz.ntmps60
    go_wp2_with fail
    go_ret3
    exact ⟨rfl, rfl⟩
  · rw [show (((letOf 2).toNat : Nat) : Int) = 102 from rfl]
    go_enter Tryz.func60, Tryz.ntmps60
    go_wp2_with fail
    go_ret3
    exact ⟨rfl, rfl⟩
  · rw [show (((letOf 3).toNat : Nat) : Int) = 115 from rfl]
    go_enter Tryz.func60, Tryz.ntmps60
    go_wp2_with fail
    go_ret3
    exact ⟨rfl, rfl⟩
  · rw [show (((letOf 4).toNat : Nat) : Int) = 112 from rfl]
    go_enter Tryz.func60, Tryz.ntmps60
    go_wp2_with fail
    go_ret3
    exact ⟨rfl, rfl⟩
  · rw [show (((letOf 5).toNat : Nat) : Int) = 103 from rfl]
    go_enter Tryz.func60, Tryz.ntmps60
    go_wp2_with fail
    go_ret3
    exact ⟨rfl, rfl⟩
  · rw [show (((letOf 6).toNat : Nat) : Int) = 113 from rfl]
    go_enter Tryz.func60, Tryz.ntmps60
    go_wp2_with fail
    go_ret3
    exact ⟨rfl, rfl⟩
  · rw [show (((letOf 7).toNat : Nat) : Int) = 104 from rfl]
    go_enter Tryz.func60, Tryz.ntmps60
    go_wp2_with fail
    go_ret3
    exact ⟨rfl, rfl⟩
  · rw [show (((letOf 8).toNat : Nat) : Int) = 117 from rfl]
    go_enter Tryz.func60, Tryz.ntmps60
    go_wp2_with fail
    go_ret3
    exact ⟨rfl, rfl⟩

def numB (s : List UInt8) (lo hi : Int) (d : Nat) : Bool := (parE s d == 0) && (decide (lo ≤ parN s d) && decide (parN s d ≤ hi))
theorem numOf_eq (s : List UInt8) (lo hi : Int) (d : Nat) : numOf s lo hi d = if numB s lo hi d then some (parN s d) else none := by
  unfold numOf numB parN parE
  cases hf : decForm s with
  | none => rfl
  | some p =>
    simp only
    unfold fits
    by_cases h1 : p ≤ d
    · by_cases h2 : -9223372036854775808 ≤ numV s * 10 ^ (d - p) ∧ numV s * 10 ^ (d - p) ≤ 9223372036854775807
      · simp only [h1, h2, and_self, decide_true, if_true, true_and]
        by_cases h3 : lo ≤ numV s * 10 ^ (d - p)
        · by_cases h4 : numV s * 10 ^ (d - p) ≤ hi
          · simp [h3, h4]
          · simp [h3, h4]
        · simp [h3]
      · have h2' : ¬ (-9223372036854775808 ≤ numV s * 10 ^ (d - p) ∧ numV s * 10 ^ (d - p) ≤ 9223372036854775807 ∧ lo ≤ numV s * 10 ^ (d - p) ∧ numV s * 10 ^ (d - p) ≤ hi) := fun h => h2 ⟨h.1, h.2.1⟩
        simp [h1, h2, h2']
    · simp [h1]
theorem parN_range (s : List UInt8) (d : Nat) : -9223372036854775808 ≤ parN s d ∧ parN s d ≤ 9223372036854775807 := by
  unfold parN
  cases decForm s with
  | none => simp
  | some p =>
    simp only
    split
    · rename_i h
      have := h.2
      unfold fits at this
      exact of_decide_eq_true this
    · simp
def RetNum (s : List UInt8) (lo hi : Int) (d : Nat) (w : World) (e : Ending) (w' : World) : Prop := e = .returned (.tuple #[.int .i64 (parN s d), .bool (numB s lo hi d)]) ∧ Below w.heap.size w w'
set_option maxHeartbeats 800000 in
theorem number33_any (s : List UInt8) (lo hi : Int) (d : Nat) (w : World) (hs : s.length ≤ 5000) (hd : d ≤ 18) :
    Calls Tryz.prog 61 #[.string (bs s), .int .i64 lo, .int .i64 hi, .int .i64 (d : Int)] w (RetNum s lo hi d w) := by
  go_enter Tryz.func61, Tryz.ntmps61
  go_wp2_with fail
  refine (refParse_any (bs s) d w hs hd).mono ?_
  rintro e w1 ⟨rfl, hb⟩
  have Hb := Lib.hid hb
  have hN : numB s lo hi d = ((parE s d == 0) && (decide (lo ≤ parN s d) && decide (parN s d ≤ hi))) := rfl
  have HN := Lib.hid hN
  clear hb hN
  rw [bs_data]
  obtain ⟨pn, hpn⟩ : ∃ pn, pn = parN s d := ⟨_, rfl⟩
  generalize parE s d = pe at *
  rw [← hpn] at HN ⊢
  have Hpn := Lib.hid hpn
  clear hpn
  by_cases q1 : pe = 0
  all_goals by_cases q2 : lo ≤ pn
  all_goals by_cases q3 : pn ≤ hi
  all_goals
    have e1 : (pe == 0) = decide (pe = 0) := rfl
    first | rw [decide_eq_true q1] at e1 | rw [decide_eq_false q1] at e1
    go_wp2_with fail
    go_ret2
    exact ⟨by rw [HN.out, ← Hpn.out]; simp [q1, q2, q3], Hb.out⟩
end Go.Proofs.YtpicmhbjiaegpaaGreatDoor

namespace Go.Proofs.YtpicmhbjiaegpaaGreatDoor
open Go.RowKit

theorem kinds_18 {nm : List UInt8} {ks : List Nat} (h : kindsOf nm = some ks) (i : Nat) (hi : i < ks.length) : 1 ≤ ks.getD i 0 ∧ ks.getD i 0 ≤ 8 := by
  have h1 := (kinds_small h).2 i
  have h2 := (kinds_pos h).2 (ks.getD i 0) (by rw [List.getD_eq_getElem?_getD, List.getElem?_eq_getElem hi]; exact List.getElem_mem hi)
  omega
theorem opd_no {nm : List UInt8} {ag : List Int} {rel tg wt : Int} (h : ¬ (1 ≤ rel ∧ rel ≤ 3 ∧ -1000000000000 ≤ tg ∧ tg ≤ 1000000000000)) : opdOk ⟨nm, ag, rel, tg, wt⟩ = false := by
  cases hh : opdOk ⟨nm, ag, rel, tg, wt⟩ with
  | false => rfl
  | true =>
    exfalso
    apply h
    unfold opdOk at hh
    simp only at hh
    split at hh
    · cases hh
    · simp only [inR, Bool.and_eq_true, decide_eq_true_eq] at hh
      omega
theorem argsAcc_no {ks : List Nat} {xs : List Int} : ∀ {n m : Nat}, argsAcc true ks xs n = false → n ≤ m → argsAcc true ks xs m = false
  | n, 0, h, hn => by obtain rfl : n = 0 := by omega
                      exact h
  | n, m + 1, h, hn => by
    by_cases e : n = m + 1
    · subst e; exact h
    · rw [argsAcc, argsAcc_no h (by omega), Bool.false_and]
theorem hget_let {ks : List Nat} {i : Nat} (hil : i < ks.length) : ∀ h, (bs (ks.map letOf))[i]'h = letOf (ks.getD i 0) := by
  intro h
  show (ks.map letOf).toArray[i] = _
  simp [List.getD_eq_getElem?_getD, List.getElem?_eq_getElem hil]
set_option maxRecDepth 100000 in
set_option maxHeartbeats 3200000 in
theorem one_any (nm : List UInt8) (a0 a1 a2 a3 a4 rel tg wt : Int) (w : World) :
    Calls Tryz.prog 56 #[.agg #[.string (bs nm), .int .i64 a0, .int .i64 a1, .int .i64 a2, .int .i64 a3, .int .i64 a4, .int .i64 rel, .int .i64 tg, .int .i64 wt]] w (RetB w (.bool (opdOk ⟨nm, [a0, a1, a2, a3, a4], rel, tg, wt⟩))) := by
  have hob := heap_alloc_new w (.cells #[.string (bs nm), .int .i64 a0, .int .i64 a1, .int .i64 a2, .int .i64 a3, .int .i64 a4, .int .i64 rel, .int .i64 tg, .int .i64 wt] 50)
  have hbw : Below w.heap.size w (w.alloc (.cells #[.string (bs nm), .int .i64 a0, .int .i64 a1, .int .i64 a2, .int .i64 a3, .int .i64 a4, .int .i64 rel, .int .i64 tg, .int .i64 wt] 50)) := (Below.refl _ _).alloc (Nat.le_refl _) _
  have Hob := Lib.hid hob; have Hbw := Lib.hid hbw; clear hob hbw
  go_enter Tryz.func56, Tryz.ntmps56
  go_wp2_with fail
  generalize (w.alloc (.cells #[.string (bs nm), .int .i64 a0, .int .i64 a1, .int .i64 a2, .int .i64 a3, .int .i64 a4, .int .i64 rel, .int .i64 tg, .int .i64 wt] 50)) = w0 at *
  have c0 : w0.cell? ⟨w.heap.size, 0, none⟩ = some (.string (bs nm)) := obj_cell Hob.out 0
  have c6 : w0.cell? ⟨w.heap.size, 6, none⟩ = some (.int .i64 rel) := obj_cell Hob.out 6
  have c7 : w0.cell? ⟨w.heap.size, 7, none⟩ = some (.int .i64 tg) := obj_cell Hob.out 7
  try go_wp2_with fail
  refine (kinds33_any nm w0).mono ?_
  rintro e w1 ⟨rfl, rfl⟩
  cases hk : kindsOf nm with
  | none =>
    have hno : opdOk ⟨nm, [a0, a1, a2, a3, a4], rel, tg, wt⟩ = false := by unfold opdOk; simp only [hk]
    rw [show kLet nm = [] by unfold kLet; rw [hk]; rfl]
    have Hno := Lib.hid hno; clear hno hk
    go_wp2_with fail
    go_ret
    exact ⟨by rw [Hno.out]; rfl, Hbw.out⟩
  | some ks =>
    rw [show kLet nm = ks.map letOf by unfold kLet; rw [hk]; rfl]
    have hfin : opdOk ⟨nm, [a0, a1, a2, a3, a4], rel, tg, wt⟩ = (argsAcc true ks [a0, a1, a2, a3, a4] 5 && inR rel 1 3 && inR tg (-1000000000000) 1000000000000 && (if rel = 1 then inR wt 1 1000 else decide (wt = 0))) := by
      unfold opdOk
      simp only [hk, argsAcc_all]
    have hks := (kinds_small hk).1
    have hk18 := kinds_18 hk
    have Hfin := Lib.hid hfin; have Hk18 := Lib.hid hk18
    clear hfin hk18 hk
    have hways : rel < 1 ∨ (¬ rel < 1 ∧ 3 < rel) ∨ (¬ rel < 1 ∧ ¬ 3 < rel ∧ tg < -1000000000000) ∨ (¬ rel < 1 ∧ ¬ 3 < rel ∧ ¬ tg < -1000000000000 ∧ 1000000000000 < tg) ∨ (¬ rel < 1 ∧ ¬ 3 < rel ∧ ¬ tg < -1000000000000 ∧ ¬ 1000000000000 < tg) := by omega
    rcases hways with q1 | ⟨q1, q2⟩ | ⟨q1, q2, q3⟩ | ⟨q1, q2, q3, q4⟩ | ⟨q1, q2, q3, q4⟩
    iterate 4
      · have hno : opdOk ⟨nm, [a0, a1, a2, a3, a4], rel, tg, wt⟩ = false := opd_no (by omega)
        have Hno := Lib.hid hno; clear hno
        go_wp2_with fail
        go_ret
        exact ⟨by rw [Hno.out]; rfl, Hbw.out⟩
    have r1 : inR rel 1 3 = true := by unfold inR; rw [decide_eq_true (by omega), decide_eq_true (by omega)]; rfl
    have r2 : inR tg (-1000000000000) 1000000000000 = true := by unfold inR; rw [decide_eq_true (by omega), decide_eq_true (by omega)]; rfl
    have hfin2 : opdOk ⟨nm, [a0, a1, a2, a3, a4], rel, tg, wt⟩ = (argsAcc true ks [a0, a1, a2, a3, a4] 5 && (if rel = 1 then inR wt 1 1000 else decide (wt = 0))) := by
      rw [Hfin.out, r1, r2, Bool.and_true, Bool.and_true]
    have Hf2 := Lib.hid hfin2
    clear hfin2 r1 r2 Hfin
    go_wp2_with fail
    go_loopw [5] (fun iv wr => ∃ i : Nat, i ≤ 5 ∧ iv = .int .i64 (i : Int) ∧ argsAcc true ks [a0, a1, a2, a3, a4] i = true ∧ OpdB wr w.heap.size nm a0 a1 a2 a3 a4 rel tg wt ∧ Below w.heap.size w wr) (fun iv _ => 5 - (intOf iv).toNat)
    case atStart => exact ⟨0, by omega, rfl, rfl, Hob.out, Hbw.out⟩
    case round =>
      obtain ⟨i, hi, rfl, hacc, hb, hbw⟩ := hrel
      have hsz := lt_of_block hb
      have Hb := Lib.hid hb; have Hbr := Lib.hid hbw; have Hacc := Lib.hid hacc; clear hb hbw hacc Hob Hbw c0 c6 c7
      by_cases hi5 : i < 5
      · have hci : wr.cell? ⟨w.heap.size, 1 + i, none⟩ = some (.int .i64 ([a0, a1, a2, a3, a4].getD i 0)) := by
          rw [obj_cell Hb.out (1 + i)]
          have hw : i = 0 ∨ i = 1 ∨ i = 2 ∨ i = 3 ∨ i = 4 := by omega
          rcases hw with rfl | rfl | rfl | rfl | rfl <;> rfl
        have hstep : argsAcc true ks [a0, a1, a2, a3, a4] (i + 1) = inR ([a0, a1, a2, a3, a4].getD i 0) (rangeOf (ks.getD i 0)).1 (rangeOf (ks.getD i 0)).2.1 := by rw [argsAcc, Hacc.out, Bool.true_and]
        have Hstep := Lib.hid hstep; clear hstep
        by_cases hil : i < ks.length
        · have hkk := Hk18.out i hil
          have hget := hget_let hil
          have hbsz : i < (bs (ks.map letOf)).size := by show i < (ks.map letOf).length; simpa using hil
          have Hget := Lib.hid hget; clear hget
          generalize [a0, a1, a2, a3, a4].getD i 0 = ai at *
          go_wp2_with fail
          simp only [Hget.out]
          clear Hget hbsz
          generalize ks.getD i 0 = kk at *
          refine (limits33_any kk hkk.1 hkk.2 wr).mono ?_
          rintro e w2 ⟨rfl, rfl⟩
          have hwy : ai < (rangeOf kk).1 ∨ (¬ ai < (rangeOf kk).1 ∧ (rangeOf kk).2.1 < ai) ∨ (¬ ai < (rangeOf kk).1 ∧ ¬ (rangeOf kk).2.1 < ai) := by omega
          rcases hwy with p1 | ⟨p1, p2⟩ | ⟨p1, p2⟩
          · have hno : opdOk ⟨nm, [a0, a1, a2, a3, a4], rel, tg, wt⟩ = false := by
              rw [Hf2.out, argsAcc_no (n := i + 1) (by have e := Hstep.out; (try dsimp only at e); rw [e]; unfold inR; first | (rw [decide_eq_false (show ¬ _ ≤ ai by omega)]; rfl) | (rw [decide_eq_false (show ¬ ai ≤ _ by omega), Bool.and_false])) (by omega)]; rfl
            have Hno := Lib.hid hno; clear hno Hf2 Hstep
            go_wp2_with fail
            go_ret
            exact ⟨by rw [Hno.out]; rfl, Hbr.out⟩
          · have hno : opdOk ⟨nm, [a0, a1, a2, a3, a4], rel, tg, wt⟩ = false := by
              rw [Hf2.out, argsAcc_no (n := i + 1) (by have e := Hstep.out; (try dsimp only at e); rw [e]; unfold inR; first | (rw [decide_eq_false (show ¬ _ ≤ ai by omega)]; rfl) | (rw [decide_eq_false (show ¬ ai ≤ _ by omega), Bool.and_false])) (by omega)]; rfl
            have Hno := Lib.hid hno; clear hno Hf2 Hstep
            go_wp2_with fail
            go_ret
            exact ⟨by rw [Hno.out]; rfl, Hbr.out⟩
          · have hyes : argsAcc true ks [a0, a1, a2, a3, a4] (i + 1) = true := by
              have e := Hstep.out; (try dsimp only at e); rw [e]; unfold inR; rw [decide_eq_true (by omega), decide_eq_true (by omega)]; rfl
            have Hyes := Lib.hid hyes; clear hyes Hstep
            go_wp2_with fail
            go_roundw
            case rel => exact ⟨i + 1, by omega, by go_num, Hyes.out, Hb.out, Hbr.out⟩
            case measure => simp [intOf]; omega
        · have hr0 : rangeOf (ks.getD i 0) = (0, 0, false) := by
            rw [List.getD_eq_getElem?_getD, List.getElem?_eq_none (by omega)]; rfl
          rw [hr0] at Hstep
          clear hr0
          generalize [a0, a1, a2, a3, a4].getD i 0 = ai at *
          have hwy : ai < 0 ∨ (¬ ai < 0 ∧ 0 < ai) ∨ (¬ ai < 0 ∧ ¬ 0 < ai) := by omega
          rcases hwy with p1 | ⟨p1, p2⟩ | ⟨p1, p2⟩
          · have hno : opdOk ⟨nm, [a0, a1, a2, a3, a4], rel, tg, wt⟩ = false := by
              rw [Hf2.out, argsAcc_no (n := i + 1) (by have e := Hstep.out; (try dsimp only at e); rw [e]; unfold inR; first | (rw [decide_eq_false (show ¬ _ ≤ ai by omega)]; rfl) | (rw [decide_eq_false (show ¬ ai ≤ _ by omega), Bool.and_false])) (by omega)]; rfl
            have Hno := Lib.hid hno; clear hno Hf2 Hstep
            go_wp2_with fail
            go_ret
            exact ⟨by rw [Hno.out]; rfl, Hbr.out⟩
          · have hno : opdOk ⟨nm, [a0, a1, a2, a3, a4], rel, tg, wt⟩ = false := by
              rw [Hf2.out, argsAcc_no (n := i + 1) (by have e := Hstep.out; (try dsimp only at e); rw [e]; unfold inR; first | (rw [decide_eq_false (show ¬ _ ≤ ai by omega)]; rfl) | (rw [decide_eq_false (show ¬ ai ≤ _ by omega), Bool.and_false])) (by omega)]; rfl
            have Hno := Lib.hid hno; clear hno Hf2 Hstep
            go_wp2_with fail
            go_ret
            exact ⟨by rw [Hno.out]; rfl, Hbr.out⟩
          · have hyes : argsAcc true ks [a0, a1, a2, a3, a4] (i + 1) = true := by
              have e := Hstep.out; (try dsimp only at e); rw [e]; unfold inR; rw [decide_eq_true (by omega), decide_eq_true (by omega)]; rfl
            have Hyes := Lib.hid hyes; clear hyes Hstep
            go_wp2_with fail
            go_roundw
            case rel => exact ⟨i + 1, by omega, by go_num, Hyes.out, Hb.out, Hbr.out⟩
            case measure => simp [intOf]; omega
      · obtain rfl : i = 5 := by omega
        rw [show ((5 : Nat) : Int) = 5 from rfl]
        have hlast : opdOk ⟨nm, [a0, a1, a2, a3, a4], rel, tg, wt⟩ = (if rel = 1 then inR wt 1 1000 else decide (wt = 0)) := by rw [Hf2.out, Hacc.out, Bool.true_and]
        have Hlast := Lib.hid hlast; clear hlast Hf2 Hacc
        have d6 : wr.cell? ⟨w.heap.size, 6, none⟩ = some (.int .i64 rel) := obj_cell Hb.out 6
        have d8 : wr.cell? ⟨w.heap.size, 8, none⟩ = some (.int .i64 wt) := obj_cell Hb.out 8
        by_cases hr1 : rel = 1
        · subst hr1
          have hwy : wt < 1 ∨ (¬ wt < 1 ∧ 1000 < wt) ∨ (¬ wt < 1 ∧ ¬ 1000 < wt) := by omega
          have hl2 : opdOk ⟨nm, [a0, a1, a2, a3, a4], 1, tg, wt⟩ = (decide (1 ≤ wt) && decide (wt ≤ 1000)) := by rw [Hlast.out, if_pos rfl]; rfl
          have Hl2 := Lib.hid hl2; clear hl2 Hlast
          rcases hwy with p1 | ⟨p1, p2⟩ | ⟨p1, p2⟩
          all_goals
            go_wp2_with fail
            go_ret
            exact ⟨by rw [Hl2.out]; simp [*]; try omega, Hbr.out⟩
        · have hl2 : opdOk ⟨nm, [a0, a1, a2, a3, a4], rel, tg, wt⟩ = decide (wt = 0) := by rw [Hlast.out, if_neg hr1]
          have Hl2 := Lib.hid hl2; clear hl2 Hlast
          by_cases hw0 : wt = 0
          all_goals
            go_wp2_with fail
            go_ret
            exact ⟨by rw [Hl2.out]; simp [*], Hbr.out⟩
end Go.Proofs.YtpicmhbjiaegpaaGreatDoor

namespace Go.Proofs.YtpicmhbjiaegpaaGreatDoor
open Go.RowKit

theorem one_of {x : Opd} {a0 a1 a2 a3 a4 : Int} (ha : x.ag = [a0, a1, a2, a3, a4]) (w : World) : Calls Tryz.prog 56 #[.agg #[.string (bs x.nm), .int .i64 a0, .int .i64 a1, .int .i64 a2, .int .i64 a3, .int .i64 a4, .int .i64 x.rel, .int .i64 x.tg, .int .i64 x.wt]] w (RetB w (.bool (opdOk x))) := by
  obtain ⟨nm, ag, rel, tg, wt⟩ := x
  cases ha
  exact one_any nm a0 a1 a2 a3 a4 rel tg wt w
theorem opdsOk_no {l : List Opd} {k : Nat} {x : Opd} (hx : l[k]? = some x) (h : opdOk x = false) : opdsOk l = false := by
  unfold opdsOk
  have : l.all opdOk = false := by rw [List.all_eq_false]; exact ⟨x, List.mem_of_getElem? hx, by simp [h]⟩
  rw [this, Bool.and_false]
theorem all_takeS {l : List Opd} {k : Nat} {x : Opd} (hx : l[k]? = some x) (h : (l.take k).all opdOk = true) : (l.take (k + 1)).all opdOk = opdOk x := by
  rw [take_next hx, List.all_append, h, Bool.true_and]
  simp
set_option maxHeartbeats 1600000 in
theorem right33_any (l : List Opd) (a : Option Addr) (n c : Nat) (w : World) (h : RR OpdR 9 (fun b => b < w.heap.size) w a n c l) (hn : n ≤ 1000000) :
    Calls Tryz.prog 31 #[.slice a n c] w (RetB w (.bool (opdsOk l))) := by
  have hlen := h.1
  have H := Lib.hid h; clear h
  go_enter Tryz.func31, Tryz.ntmps31
  go_wp2_with fail
  go_loopw [3] (fun iv wr => ∃ k : Nat, k ≤ n ∧ k ≤ 12 ∧ iv = .int .i64 (k : Int) ∧ (l.take k).all opdOk = true ∧ Below w.heap.size w wr) (fun iv _ => n - (intOf iv).toNat)
  case atStart => exact ⟨0, Nat.zero_le _, by omega, rfl, rfl, Below.refl _ _⟩
  case round =>
    obtain ⟨k, hk, hk12, rfl, ho, hb⟩ := hrel
    have Ho := Lib.hid ho; have Hb := Lib.hid hb
    clear ho hb
    by_cases hkn : k < n
    · by_cases hk2 : k < 12
      · obtain ⟨b, off, x, cs, rfl, hlt, hx, ⟨a0, a1, a2, a3, a4, ha, rfl⟩, hr⟩ := (H.out.go opdOkR Hb.out).at hkn
        have Hx := Lib.hid hx; have Hr := Lib.hid hr; have Ha := Lib.hid ha
        clear hx hr ha
        cases hv : opdOk x
        all_goals
          have Hv := Lib.hid hv; clear hv
          go_wp2_with (first
            | (refine wpL_load_op Hr.out rfl (.tmp 16) rfl rfl ?_)
            | ((with_reducible refine (one_of Ha.out _).mono ?_); rintro e w2 ⟨he, hb2⟩; rw [Hv.out] at he; subst he))
        · go_ret
          exact ⟨by rw [opdsOk_no Hx.out Hv.out]; rfl, below_chain Hb.out hb2⟩
        · go_roundw
          case rel => exact ⟨k + 1, by omega, by omega, by go_num, (all_takeS Hx.out Ho.out).trans Hv.out, below_chain Hb.out hb2⟩
          case measure => simp [intOf]; omega
      · obtain rfl : k = 12 := by omega
        rw [show ((12 : Nat) : Int) = 12 from rfl]
        have hno : opdsOk l = false := by unfold opdsOk; rw [decide_eq_false (by omega), Bool.false_and]
        have Hno := Lib.hid hno; clear hno
        have h12 : (12 : Int) < (n : Int) := by omega
        have h12' : ¬ (n : Int) ≤ 12 := by omega
        go_wp2_with fail
        go_ret
        exact ⟨by rw [Hno.out]; simp, Hb.out⟩
    · obtain rfl : k = n := by omega
      have hyes : opdsOk l = true := by
        have h1 := Ho.out
        rw [← hlen, List.take_length] at h1
        unfold opdsOk; rw [decide_eq_true (by omega), h1]; rfl
      have Hyes := Lib.hid hyes; clear hyes
      have h12' : (k : Int) ≤ 12 := by omega
      go_wp2_with fail
      go_ret
      exact ⟨by rw [Hyes.out]; simp, Hb.out⟩
set_option maxHeartbeats 400000 in
theorem check33_any (l : List Opd) (a : Option Addr) (n c : Nat) (w : World) (h : RR OpdR 9 (fun b => b < w.heap.size) w a n c l) (hn : n ≤ 1000000) :
    Calls Tryz.prog 20 #[.slice a n c] w (RetB w (.int .i64 (checkE l))) := by
  go_enter Tryz.func20, Tryz.ntmps20
  go_wp2_with fail
  refine (right33_any l a n c _ h hn).mono ?_
  rintro e w2 ⟨rfl, hb⟩
  have Hb := Lib.hid hb; clear hb
  cases hv : opdsOk l
  all_goals
    have hc : checkE l = (if opdsOk l then 0 else 330) := rfl
    rw [hv] at hc
    have Hc := Lib.hid hc; clear hc hv
    go_wp2_with fail
    go_ret
    exact ⟨by rw [Hc.out]; rfl, Hb.out⟩
set_option maxRecDepth 100000 in
set_option maxHeartbeats 1600000 in
theorem same33_any (l m : List Opd) (a b : Option Addr) (n k c d : Nat) (w : World) (h : RR OpdR 9 (fun b => b < w.heap.size) w a n c l) (h2 : RR OpdR 9 (fun b => b < w.heap.size) w b k d m) (hn : n ≤ 1000000) (hk : k ≤ 1000000) :
    Calls Tryz.prog 15 #[.slice a n c, .slice b k d] w (RetB w (.bool (decide (l = m)))) := by
  have H := Lib.hid h; have H2 := Lib.hid h2
  have hl1 := h.1; have hl2 := h2.1
  clear h h2
  by_cases hnk : n = k
  · subst hnk
    go_enter Tryz.func15, Tryz.ntmps15
    go_wp2_with fail
    have Hl1 := Lib.hid hl1; have Hl2 := Lib.hid hl2; clear hl1 hl2
    go_loopw [5] (fun iv wr => ∃ i : Nat, i ≤ n ∧ iv = .int .i64 (i : Int) ∧ eqTo l m i = true ∧ Below w.heap.size w wr) (fun iv _ => n - (intOf iv).toNat)
    case atStart => exact ⟨0, Nat.zero_le _, rfl, by unfold eqTo; simp, Below.refl _ _⟩
    case round =>
      obtain ⟨i, hi, rfl, he, hb⟩ := hrel
      have He := Lib.hid he; have Hb := Lib.hid hb; clear he hb
      by_cases hin : i < n
      · obtain ⟨b1, o1, x, cs, rfl, hlt1, hx, ⟨a0, a1, a2, a3, a4, ha, rfl⟩, hr⟩ := (H.out.go opdOkR Hb.out).at hin
        obtain ⟨b2, o2, y, cs, rfl, hlt2, hy, ⟨e0, e1, e2, e3, e4, hae, rfl⟩, hr2⟩ := (H2.out.go opdOkR Hb.out).at hin
        obtain ⟨x0, x1, x2, x3, x4, x5, x6, x7, x8⟩ := cells_of hr
        obtain ⟨y0, y1, y2, y3, y4, y5, y6, y7, y8⟩ := cells_of hr2
        have Hx := Lib.hid hx; have Hy := Lib.hid hy; have Ha := Lib.hid ha; have Hae := Lib.hid hae
        clear hr hr2 hx hy ha hae
        have hlb1 : b1 < wr.heap.size := hlt1
        have hlb2 : b2 < wr.heap.size := hlt2
        go_wp2_with fail
        refine wp_region_floats 9 [] [] [(0, true), (1, true), (2, true), (3, true), (4, true), (5, true), (6, true), (7, true), (8, true)] (by kernel_rfl) (by kernel_rfl) ⟨by simp, by simp, fun _ h => by cases h⟩ (fun _ _ _ _ _ h => h) (fun _ _ o _ _ h => by cases o <;> exact h) ?_
        iterate 8
          refine wpG_yield (v := ?_) rfl rfl (by rfl) ?_ ?_
          rotate_left
          · intro y hy
            have z0 := (hy.cell (p := ⟨b1, o1 + i * 9, none⟩) hlb1).trans x0
            have z1 := (hy.cell (p := ⟨b1, o1 + i * 9 + 1, none⟩) hlb1).trans x1
            have z2 := (hy.cell (p := ⟨b1, o1 + i * 9 + 2, none⟩) hlb1).trans x2
            have z3 := (hy.cell (p := ⟨b1, o1 + i * 9 + 3, none⟩) hlb1).trans x3
            have z4 := (hy.cell (p := ⟨b1, o1 + i * 9 + 4, none⟩) hlb1).trans x4
            have z5 := (hy.cell (p := ⟨b1, o1 + i * 9 + 5, none⟩) hlb1).trans x5
            have z6 := (hy.cell (p := ⟨b1, o1 + i * 9 + 6, none⟩) hlb1).trans x6
            have z7 := (hy.cell (p := ⟨b1, o1 + i * 9 + 7, none⟩) hlb1).trans x7
            have z8 := (hy.cell (p := ⟨b1, o1 + i * 9 + 8, none⟩) hlb1).trans x8
            have u0 := (hy.cell (p := ⟨b2, o2 + i * 9, none⟩) hlb2).trans y0
            have u1 := (hy.cell (p := ⟨b2, o2 + i * 9 + 1, none⟩) hlb2).trans y1
            have u2 := (hy.cell (p := ⟨b2, o2 + i * 9 + 2, none⟩) hlb2).trans y2
            have u3 := (hy.cell (p := ⟨b2, o2 + i * 9 + 3, none⟩) hlb2).trans y3
            have u4 := (hy.cell (p := ⟨b2, o2 + i * 9 + 4, none⟩) hlb2).trans y4
            have u5 := (hy.cell (p := ⟨b2, o2 + i * 9 + 5, none⟩) hlb2).trans y5
            have u6 := (hy.cell (p := ⟨b2, o2 + i * 9 + 6, none⟩) hlb2).trans y6
            have u7 := (hy.cell (p := ⟨b2, o2 + i * 9 + 7, none⟩) hlb2).trans y7
            have u8 := (hy.cell (p := ⟨b2, o2 + i * 9 + 8, none⟩) hlb2).trans y8
            go_simp
            with_reducible rfl
          try simp only [Act.put, List.setIfInBounds_toArray, List.set_cons_zero, List.set_cons_succ]
        refine wpG_yield (v := .bool (!decide (x = y))) rfl rfl (by rfl) ?_ ?_
        · intro z hz
          exact exec_neq rfl rfl rfl (by kernel_rfl) (neq_opd x y a0 a1 a2 a3 a4 e0 e1 e2 e3 e4 Ha.out Hae.out z)
        try simp only [Act.put, List.setIfInBounds_toArray, List.set_cons_zero, List.set_cons_succ]
        refine wpG_nil0 rfl (fun w3 hb3 => ?_)
        have Hb3 := Lib.hid (Hb.out.trans (Below.mono (below_undrew (k := 1) hb3) Hb.out.size))
        clear hb3 x0 x1 x2 x3 x4 x5 x6 x7 x8 y0 y1 y2 y3 y4 y5 y6 y7 y8
        by_cases hxy : x = y
        · have hd : decide (x = y) = true := decide_eq_true hxy
          have hn := Lib.hid ((eqTo_next Hx.out Hy.out He.out).trans hd)
          clear hxy
          go_wp2_with fail
          go_roundw
          case rel => exact ⟨i + 1, by omega, by go_num, hn.out, Hb3.out⟩
          case measure => simp [intOf]; omega
        · have hd : decide (x = y) = false := decide_eq_false hxy
          have hn := Lib.hid (eqTo_no Hx.out Hy.out hxy)
          clear hxy
          go_wp2_with fail
          go_ret
          exact ⟨by rw [hn.out]; rfl, Hb3.out⟩
      · obtain rfl : i = n := by omega
        have hfin : decide (l = m) = true := by
          have := of_decide_eq_true He.out
          rw [List.take_of_length_le (by rw [Hl1.out]; exact Nat.le_refl _), List.take_of_length_le (by rw [Hl2.out]; exact Nat.le_refl _)] at this
          exact decide_eq_true this
        have Hfin := Lib.hid hfin; clear hfin
        go_wp2_with fail
        go_ret
        exact ⟨by rw [Hfin.out]; rfl, Hb.out⟩
  · have hne : decide (l = m) = false := decide_eq_false (fun e => hnk (by rw [← hl1, ← hl2, e]))
    have Hne := Lib.hid hne
    have hnk' : ((n : Int) != (k : Int)) = true := by simp; omega
    clear hnk hne hl1 hl2
    go_enter Tryz.func15, Tryz.ntmps15
    go_wp2_with fail
    go_ret
    exact ⟨by rw [Hne.out]; rfl, Below.refl _ _⟩
end Go.Proofs.YtpicmhbjiaegpaaGreatDoor

namespace Go.Proofs.YtpicmhbjiaegpaaGreatDoor
open Go.RowKit

theorem argTs_next : ∀ (ks : List Nat) (as' : List Int) (i : Nat), i < ks.length → ks.length ≤ as'.length → argTs (ks.take (i + 1)) as' = argTs (ks.take i) as' ++ [numT (as'.getD i 0) (digitsOf (ks.getD i 0))]
  | [], _, i, h, _ => by simp at h
  | k :: ks, [], i, _, h => by simp at h
  | k :: ks, a :: as', 0, _, _ => by cases ks <;> cases as' <;> simp [argTs]
  | k :: ks, a :: as', i + 1, h, h2 => by
    rw [List.take_succ_cons, argTs, argTs_next ks as' i (by simpa using h) (by simpa using h2), List.take_succ_cons, argTs, List.getD_cons_succ, List.getD_cons_succ]; rfl
theorem argTs_zero (as' : List Int) : argTs [] as' = [] := by cases as' <;> rfl
theorem argTs_len5 : ∀ (ks : List Nat) (as' : List Int), ks.length ≤ as'.length → (argTs ks as').length = ks.length
  | [], as', _ => by rw [argTs_zero]; rfl
  | k :: ks, [], h => by simp at h
  | k :: ks, a :: as', h => by rw [argTs, List.length_cons, argTs_len5 ks as' (by simpa using h), List.length_cons]
def RetWs (w : World) (l : List (List UInt8)) (e : Ending) (w' : World) : Prop := ∃ va vc, e = .returned (.slice va l.length vc) ∧ w'.ownsRow (w.heap.size + 1) 9 1 (.slice va l.length vc) l.length (strCs l) ∧ Below w.heap.size w w'
set_option maxRecDepth 100000 in
set_option maxHeartbeats 3200000 in
theorem words_any (x : Opd) (ks : List Nat) (a0 a1 a2 a3 a4 : Int) (ha : x.ag = [a0, a1, a2, a3, a4]) (hgd : Good x ks a0 a1 a2 a3 a4) (w : World) :
    Calls Tryz.prog 57 #[.agg #[.string (bs x.nm), .int .i64 a0, .int .i64 a1, .int .i64 a2, .int .i64 a3, .int .i64 a4, .int .i64 x.rel, .int .i64 x.tg, .int .i64 x.wt]] w (RetWs w (wordsT x)) := by
  have hwords : wordsT x = x.nm :: (argTs ks [a0, a1, a2, a3, a4] ++ relT x.rel :: numT x.tg 6 :: (if x.rel = 1 then [numT x.wt 0] else [])) := by
    unfold wordsT
    rw [hgd.hk, Option.getD_some, ha]
  have hk18 := kinds_18 hgd.hk
  obtain ⟨hk, hl, hnm, hb0, hb1, hb2, hb3, hb4, hrel, htg, hwt⟩ := hgd
  have hkl : kLet x.nm = ks.map letOf := by unfold kLet; rw [hk]; rfl
  generalize x.nm = nm at *
  generalize x.rel = rel at *
  generalize x.tg = tg at *
  generalize x.wt = wt at *
  have hgb : ∀ i, i < 5 → -2000000 ≤ [a0, a1, a2, a3, a4].getD i 0 ∧ [a0, a1, a2, a3, a4].getD i 0 ≤ 1000000000 := by
    intro i hi
    have hw : i = 0 ∨ i = 1 ∨ i = 2 ∨ i = 3 ∨ i = 4 := by omega
    rcases hw with rfl | rfl | rfl | rfl | rfl <;> assumption
  have hob := heap_alloc_new w (.cells #[.string (bs nm), .int .i64 a0, .int .i64 a1, .int .i64 a2, .int .i64 a3, .int .i64 a4, .int .i64 rel, .int .i64 tg, .int .i64 wt] 50)
  have hown0 := owns_strs (w.alloc (.cells #[.string (bs nm), .int .i64 a0, .int .i64 a1, .int .i64 a2, .int .i64 a3, .int .i64 a4, .int .i64 rel, .int .i64 tg, .int .i64 wt] 50)) (w.heap.size + 1) [nm] (by simp) (by simp) (by simp)
  have hbw : Below w.heap.size w ((w.alloc (.cells #[.string (bs nm), .int .i64 a0, .int .i64 a1, .int .i64 a2, .int .i64 a3, .int .i64 a4, .int .i64 rel, .int .i64 tg, .int .i64 wt] 50)).alloc (.cells #[.string (bs nm)] 9)) := ((Below.refl _ _).alloc (Nat.le_refl _) _).alloc (by simp) _
  have hob2 := (Below.heap_alloc (w.alloc (.cells #[.string (bs nm), .int .i64 a0, .int .i64 a1, .int .i64 a2, .int .i64 a3, .int .i64 a4, .int .i64 rel, .int .i64 tg, .int .i64 wt] 50)) (.cells #[.string (bs nm)] 9) w.heap.size (by simp)).trans hob
  have hsz0 : w.heap.size + 2 = ((w.alloc (.cells #[.string (bs nm), .int .i64 a0, .int .i64 a1, .int .i64 a2, .int .i64 a3, .int .i64 a4, .int .i64 rel, .int .i64 tg, .int .i64 wt] 50)).alloc (.cells #[.string (bs nm)] 9)).heap.size := by simp
  have hbl : (w.alloc (.cells #[.string (bs nm), .int .i64 a0, .int .i64 a1, .int .i64 a2, .int .i64 a3, .int .i64 a4, .int .i64 rel, .int .i64 tg, .int .i64 wt] 50)).heap.size = w.heap.size + 1 := by simp
  rw [hbl] at hown0
  have hown : ((w.alloc (.cells #[.string (bs nm), .int .i64 a0, .int .i64 a1, .int .i64 a2, .int .i64 a3, .int .i64 a4, .int .i64 rel, .int .i64 tg, .int .i64 wt] 50)).alloc (.cells #[.string (bs nm)] 9)).ownsRow (w.heap.size + 1) 9 1 (.slice (some ⟨w.heap.size + 1, 0, none⟩) 1 1) 1 (strCs [nm]) := hown0
  clear hown0
  have Hown := Lib.hid hown; have Hbw := Lib.hid hbw; have Hob2 := Lib.hid hob2; have Hsz0 := Lib.hid hsz0; have Hkl := Lib.hid hkl; have Hk := Lib.hid hk; have Hgb := Lib.hid hgb; have Hk18 := Lib.hid hk18; have Hwords := Lib.hid hwords
  clear hown hbw hob hob2 hsz0 hbl hkl hk hgb hk18 hb0 hb1 hb2 hb3 hb4 hwords hnm ha
  go_enter Tryz.func57, Tryz.ntmps57
  go_wp2_with fail
  have hc0 : ((w.alloc (.cells #[.string (bs nm), .int .i64 a0, .int .i64 a1, .int .i64 a2, .int .i64 a3, .int .i64 a4, .int .i64 rel, .int .i64 tg, .int .i64 wt] 50)).alloc (.cells #[.string (bs nm)] 9)).cell? ⟨w.heap.size, 0, none⟩ = some (.string (bs nm)) := (obj_cell Hob2.out 0).trans rfl
  generalize ((w.alloc (.cells #[.string (bs nm), .int .i64 a0, .int .i64 a1, .int .i64 a2, .int .i64 a3, .int .i64 a4, .int .i64 rel, .int .i64 tg, .int .i64 wt] 50)).alloc (.cells #[.string (bs nm)] 9)) = w0 at *
  have hsz0 := Hsz0.out
  try go_wp2_with fail
  refine (kinds33_any nm w0).mono ?_
  rintro e w1 ⟨rfl, rfl⟩
  rw [Hkl.out, Hk.out, show (some ks : Option (List Nat)).isSome = true from rfl]
  clear Hkl Hk
  go_wp2_with fail
  go_loopw [3, 6] (fun v iv wr => ∃ (i n : Nat) (va : Option Addr) (vc : Nat), i ≤ ks.length ∧ iv = .int .i64 (i : Int) ∧ v = .slice va n vc ∧ n = i + 1 ∧ wr.ownsRow (w.heap.size + 1) 9 1 (.slice va n vc) n (strCs (nm :: argTs (ks.take i) [a0, a1, a2, a3, a4])) ∧ OpdB wr w.heap.size nm a0 a1 a2 a3 a4 rel tg wt ∧ Below w.heap.size w wr ∧ w.heap.size + 2 ≤ wr.heap.size) (fun _ iv _ => ks.length - (intOf iv).toNat)
  case atStart => exact ⟨0, 1, _, _, Nat.zero_le _, rfl, rfl, rfl, by rw [List.take_zero, argTs_zero]; exact Hown.out, Hob2.out, Hbw.out, by omega⟩
  case round =>
    obtain ⟨i, n, va, vc, hi, rfl, rfl, hn, hown, hob, hbw, hsw⟩ := hrel
    have Hownr := Lib.hid hown; have Hob := Lib.hid hob; have Hbr := Lib.hid hbw; have Hn := Lib.hid hn
    clear hown hob hbw hc0 Hown Hbw Hob2 Hsz0 hsz0 hn
    by_cases hil : i < ks.length
    · have hci : wr.cell? ⟨w.heap.size, 1 + i, none⟩ = some (.int .i64 ([a0, a1, a2, a3, a4].getD i 0)) := by
        rw [obj_cell Hob.out (1 + i)]
        have hw : i = 0 ∨ i = 1 ∨ i = 2 ∨ i = 3 ∨ i = 4 := by omega
        rcases hw with rfl | rfl | rfl | rfl | rfl <;> rfl
      have hkk := Hk18.out i hil
      have hget := hget_let hil
      have hbsz : i < (bs (ks.map letOf)).size := by show i < (ks.map letOf).length; simpa using hil
      have hgbi := Hgb.out i (by omega)
      have hnx := argTs_next ks [a0, a1, a2, a3, a4] i hil (by simp; omega)
      have Hget := Lib.hid hget; have Hnx := Lib.hid hnx; clear hget hnx
      generalize [a0, a1, a2, a3, a4].getD i 0 = ai at *
      have Hgbi := Lib.hid hgbi; have Hkk := Lib.hid hkk
      clear hgbi hkk
      go_wp2_with fail
      simp only [Hget.out]
      clear Hget hbsz
      generalize ks.getD i 0 = kk at *
      refine (limits33_any kk Hkk.out.1 Hkk.out.2 wr).mono ?_
      rintro e w2 ⟨rfl, rfl⟩
      go_wp2_with fail
      have hd18 : digitsOf kk ≤ 18 := by unfold digitsOf; split <;> omega
      refine (refText_any ai (digitsOf kk) wr (by have := Hgbi.out; omega) (by have := Hgbi.out; omega) hd18).mono ?_
      rintro e w6 ⟨rfl, hb6⟩
      have Hob6 := Lib.hid ((hb6.block w.heap.size (by omega)).trans Hob.out); have Hown6 := Lib.hid (ownsRow_below Hownr.out hb6); have Hw6 := Lib.hid (Hbr.out.trans (hb6.mono Hbr.out.size)); have hs6 := hb6.size
      clear hb6 Hob Hownr hci
      go_wp2_with (refine wpList_append_strs rfl (.tmp 48) (.tmp 50) 52 rfl Tryz.underlying52 (w.heap.size + 1) w6 va n vc _ [numT ai (digitsOf kk)] rfl Hown6.out rfl rfl (by have := Hn.out; simp; omega) (by omega) ?_)
      intro va2 vc2 w7 hown7 hb7 hk7 hs7
      have hob7 := (hk7 w.heap.size (by omega)).trans Hob6.out
      have hw7 := hb7 w.heap.size w (by omega) Hw6.out
      have hn7 : n + 1 = (i + 1) + 1 := by rw [Hn.out]
      have hown8 : w7.ownsRow (w.heap.size + 1) 9 1 (.slice va2 (n + 1) vc2) (n + 1) (strCs (nm :: argTs (ks.take (i + 1)) [a0, a1, a2, a3, a4])) := by
        rw [Hnx.out, ← List.cons_append]; exact hown7
      have Hob7 := Lib.hid hob7; have Hw7 := Lib.hid hw7; have Hown8 := Lib.hid hown8; have Hn7 := Lib.hid hn7
      clear hown7 hb7 hk7 hob7 hw7 hn7 hown8 Hob6 Hown6 Hw6
      go_wp2_with fail
      go_roundw
      case rel => exact ⟨i + 1, n + 1, va2, vc2, by omega, by go_num, rfl, Hn7.out, Hown8.out, Hob7.out, Hw7.out, by omega⟩
      case measure => simp [intOf]; omega
    · obtain rfl : i = ks.length := by omega
      rw [List.take_length] at Hownr
      have d7 : wr.cell? ⟨w.heap.size, 7, none⟩ = some (.int .i64 tg) := obj_cell Hob.out 7
      have d6 : wr.cell? ⟨w.heap.size, 6, none⟩ = some (.int .i64 rel) := obj_cell Hob.out 6
      go_wp2_with fail
      refine (refText_any tg 6 wr (by omega) (by omega) (by omega)).mono ?_
      rintro e w6 ⟨rfl, hb6⟩
      have Hob6 := Lib.hid ((hb6.block w.heap.size (by omega)).trans Hob.out); have Hown6 := Lib.hid (ownsRow_below Hownr.out hb6); have Hw6 := Lib.hid (Hbr.out.trans (hb6.mono Hbr.out.size)); have hs6 := hb6.size
      clear hb6 Hob Hownr d7 d6
      have e6 : w6.cell? ⟨w.heap.size, 6, none⟩ = some (.int .i64 rel) := obj_cell Hob6.out 6
      have hr3 : rel = 1 ∨ rel = 2 ∨ rel = 3 := by omega
      have hal := (Below.refl w6.heap.size w6).alloc (Nat.le_refl _) (.cells #[.string { data := #[61] }, .string { data := #[60] }, .string { data := #[62] }] 9)
      have hal2 : (argTs ks [a0, a1, a2, a3, a4]).length = ks.length := argTs_len5 ks _ (by simp; omega)
      have Hal := Lib.hid hal; have Hal2 := Lib.hid hal2
      clear hal hal2
      generalize argTs ks [a0, a1, a2, a3, a4] = AT at *
      rcases hr3 with rfl | rfl | rfl
      · have e7 : (w6.alloc (.cells #[.string { data := #[61] }, .string { data := #[60] }, .string { data := #[62] }] 9)).cell? ⟨w.heap.size, 6, none⟩ = some (.int .i64 1) := by
          rw [obj_cell ((Hal.out.block w.heap.size (by omega)).trans Hob6.out) 6]; rfl
        have e8 : (w6.alloc (.cells #[.string { data := #[61] }, .string { data := #[60] }, .string { data := #[62] }] 9)).cell? ⟨w6.heap.size, 0, none⟩ = some (.string { data := #[61] }) := obj_cell (heap_alloc_new w6 (.cells #[.string { data := #[61] }, .string { data := #[60] }, .string { data := #[62] }] 9)) 0
        go_wp2_with (refine wpList_append_strs rfl (.tmp 58) (.tmp 66) 52 rfl Tryz.underlying52 (w.heap.size + 1) (w6.alloc (.cells #[.string { data := #[61] }, .string { data := #[60] }, .string { data := #[62] }] 9)) va n vc _ [[61], numT tg 6] rfl (ownsRow_below Hown6.out Hal.out) rfl (by go_simp) (by have := Hn.out; simp; omega) (by have := Hal.out.size; omega) ?_)
        intro va2 vc2 w7 hown7 hb7 hk7 hs7
        have hob7 := (hk7 w.heap.size (by omega)).trans ((Hal.out.block w.heap.size (by omega)).trans Hob6.out)
        have hw7 := hb7 w.heap.size w (by omega) (Hw6.out.trans (Hal.out.mono Hw6.out.size))
        have f6 : w7.cell? ⟨w.heap.size, 6, none⟩ = some (.int .i64 1) := obj_cell hob7 6
        have f8 : w7.cell? ⟨w.heap.size, 8, none⟩ = some (.int .i64 wt) := obj_cell hob7 8
        have hsz7 : w.heap.size + 2 ≤ w7.heap.size := by have := Hal.out.size; omega
        have Hw7 := Lib.hid hw7; have Hown7 := Lib.hid hown7; have Hob7 := Lib.hid hob7
        clear hown7 hb7 hk7 hob7 hw7 Hob6 Hown6 Hw6 Hal e6 e7 e8
        go_wp2_with fail
        refine (refText_any wt 0 w7 (by omega) (by omega) (by omega)).mono ?_
        rintro e w8 ⟨rfl, hb8⟩
        have Hown8 := Lib.hid (ownsRow_below Hown7.out hb8); have Hw8 := Lib.hid (Hw7.out.trans (hb8.mono Hw7.out.size)); have hs8 := hb8.size
        clear hb8 Hown7 Hw7 Hob7 f6 f8
        go_wp2_with (refine wpList_append_strs rfl (.tmp 77) (.tmp 79) 52 rfl Tryz.underlying52 (w.heap.size + 1) w8 va2 (n + 2) vc2 _ [numT wt 0] rfl Hown8.out rfl rfl (by have := Hn.out; simp; omega) (by omega) ?_)
        intro va3 vc3 w9 hown9 hb9 hk9 hs9
        have Hw9 := Lib.hid (hb9 w.heap.size w (by omega) Hw8.out); have Hown9 := Lib.hid hown9
        clear hown9 hb9 hk9 Hw8 Hown8
        have hlen : (nm :: (AT ++ relT 1 :: numT tg 6 :: (if (1 : Int) = 1 then [numT wt 0] else []))).length = n + 2 + 1 := by
          rw [Hn.out, ← Hal2.out]; simp
        have Hlen := Lib.hid hlen; clear hlen
        go_wp2_with fail
        go_ret
        refine ⟨va3, vc3, by rw [Hwords.out, Hlen.out]; rfl, ?_, Hw9.out⟩
        rw [Hwords.out, Hlen.out]
        simpa [show relT 1 = [61] from rfl] using Hown9.out
      · have e7 : (w6.alloc (.cells #[.string { data := #[61] }, .string { data := #[60] }, .string { data := #[62] }] 9)).cell? ⟨w.heap.size, 6, none⟩ = some (.int .i64 2) := by
          rw [obj_cell ((Hal.out.block w.heap.size (by omega)).trans Hob6.out) 6]; rfl
        have e8 : (w6.alloc (.cells #[.string { data := #[61] }, .string { data := #[60] }, .string { data := #[62] }] 9)).cell? ⟨w6.heap.size, 1, none⟩ = some (.string { data := #[60] }) := obj_cell (heap_alloc_new w6 (.cells #[.string { data := #[61] }, .string { data := #[60] }, .string { data := #[62] }] 9)) 1
        go_wp2_with (refine wpList_append_strs rfl (.tmp 58) (.tmp 66) 52 rfl Tryz.underlying52 (w.heap.size + 1) (w6.alloc (.cells #[.string { data := #[61] }, .string { data := #[60] }, .string { data := #[62] }] 9)) va n vc _ [[60], numT tg 6] rfl (ownsRow_below Hown6.out Hal.out) rfl (by go_simp) (by have := Hn.out; simp; omega) (by have := Hal.out.size; omega) ?_)
        intro va2 vc2 w7 hown7 hb7 hk7 hs7
        have hob7 := (hk7 w.heap.size (by omega)).trans ((Hal.out.block w.heap.size (by omega)).trans Hob6.out)
        have hw7 := hb7 w.heap.size w (by omega) (Hw6.out.trans (Hal.out.mono Hw6.out.size))
        have f6 : w7.cell? ⟨w.heap.size, 6, none⟩ = some (.int .i64 2) := obj_cell hob7 6
        have f8 : w7.cell? ⟨w.heap.size, 8, none⟩ = some (.int .i64 wt) := obj_cell hob7 8
        have hsz7 : w.heap.size + 2 ≤ w7.heap.size := by have := Hal.out.size; omega
        have Hw7 := Lib.hid hw7; have Hown7 := Lib.hid hown7; have Hob7 := Lib.hid hob7
        clear hown7 hb7 hk7 hob7 hw7 Hob6 Hown6 Hw6 Hal e6 e7 e8
        go_wp2_with fail
        have hlen : (nm :: (AT ++ relT 2 :: numT tg 6 :: (if (2 : Int) = 1 then [numT wt 0] else []))).length = n + 2 := by
          rw [Hn.out, ← Hal2.out]; simp
        have Hlen := Lib.hid hlen; clear hlen
        go_ret
        refine ⟨va2, vc2, by rw [Hwords.out, Hlen.out]; rfl, ?_, Hw7.out⟩
        rw [Hwords.out, Hlen.out]
        simpa [show relT 2 = [60] from rfl] using Hown7.out
      · have e7 : (w6.alloc (.cells #[.string { data := #[61] }, .string { data := #[60] }, .string { data := #[62] }] 9)).cell? ⟨w.heap.size, 6, none⟩ = some (.int .i64 3) := by
          rw [obj_cell ((Hal.out.block w.heap.size (by omega)).trans Hob6.out) 6]; rfl
        have e8 : (w6.alloc (.cells #[.string { data := #[61] }, .string { data := #[60] }, .string { data := #[62] }] 9)).cell? ⟨w6.heap.size, 2, none⟩ = some (.string { data := #[62] }) := obj_cell (heap_alloc_new w6 (.cells #[.string { data := #[61] }, .string { data := #[60] }, .string { data := #[62] }] 9)) 2
        go_wp2_with (refine wpList_append_strs rfl (.tmp 58) (.tmp 66) 52 rfl Tryz.underlying52 (w.heap.size + 1) (w6.alloc (.cells #[.string { data := #[61] }, .string { data := #[60] }, .string { data := #[62] }] 9)) va n vc _ [[62], numT tg 6] rfl (ownsRow_below Hown6.out Hal.out) rfl (by go_simp) (by have := Hn.out; simp; omega) (by have := Hal.out.size; omega) ?_)
        intro va2 vc2 w7 hown7 hb7 hk7 hs7
        have hob7 := (hk7 w.heap.size (by omega)).trans ((Hal.out.block w.heap.size (by omega)).trans Hob6.out)
        have hw7 := hb7 w.heap.size w (by omega) (Hw6.out.trans (Hal.out.mono Hw6.out.size))
        have f6 : w7.cell? ⟨w.heap.size, 6, none⟩ = some (.int .i64 3) := obj_cell hob7 6
        have f8 : w7.cell? ⟨w.heap.size, 8, none⟩ = some (.int .i64 wt) := obj_cell hob7 8
        have hsz7 : w.heap.size + 2 ≤ w7.heap.size := by have := Hal.out.size; omega
        have Hw7 := Lib.hid hw7; have Hown7 := Lib.hid hown7; have Hob7 := Lib.hid hob7
        clear hown7 hb7 hk7 hob7 hw7 Hob6 Hown6 Hw6 Hal e6 e7 e8
        go_wp2_with fail
        have hlen : (nm :: (AT ++ relT 3 :: numT tg 6 :: (if (3 : Int) = 1 then [numT wt 0] else []))).length = n + 2 := by
          rw [Hn.out, ← Hal2.out]; simp
        have Hlen := Lib.hid hlen; clear hlen
        go_ret
        refine ⟨va2, vc2, by rw [Hwords.out, Hlen.out]; rfl, ?_, Hw7.out⟩
        rw [Hwords.out, Hlen.out]
        simpa [show relT 3 = [62] from rfl] using Hown7.out
end Go.Proofs.YtpicmhbjiaegpaaGreatDoor

namespace Go.Proofs.YtpicmhbjiaegpaaGreatDoor
open Go.RowKit

theorem joinT_next : ∀ (ws : List (List UInt8)) (i : Nat) (y : List UInt8), 1 ≤ i → ws[i]? = some y → joinT (ws.take (i + 1)) = joinT (ws.take i) ++ 32 :: y
  | [], i, y, _, h => by simp at h
  | [a], i, y, h1, h => by
    have := (List.getElem?_eq_some_iff.1 h).1
    simp at this; omega
  | a :: b :: r, 1, y, _, h => by
    simp at h; subst h; rfl
  | a :: b :: r, i + 2, y, _, h => by
    have := joinT_next (b :: r) (i + 1) y (by omega) (by simpa using h)
    rw [List.take_succ_cons, List.take_succ_cons, List.take_succ_cons] at *
    rw [joinT, this]
    rw [List.take_succ_cons, joinT]; simp
theorem join_part : ∀ (ws : List (List UInt8)) (y : List UInt8), y ∈ ws → y.length ≤ (joinT ws).length
  | [a], y, h => by simp at h; subst h; exact Nat.le_refl _
  | a :: b :: r, y, h => by
    rw [joinT, List.length_append, List.length_cons]
    rcases List.mem_cons.1 h with rfl | h
    · omega
    · have := join_part (b :: r) y h; omega
theorem join_many : ∀ (ws : List (List UInt8)), ws.length ≤ (joinT ws).length + 1
  | [] => by simp
  | [a] => by simp
  | a :: b :: r => by
    have h1 := join_many (b :: r)
    have h2 : (joinT (a :: b :: r)).length = a.length + ((joinT (b :: r)).length + 1) := by rw [joinT, List.length_append, List.length_cons]
    rw [h2, List.length_cons]; omega
theorem words_pos (x : Opd) : 0 < (wordsT x).length := by unfold wordsT; simp
theorem opRange (w : World) (x : Opd) (a0 a1 a2 a3 a4 : Int) : (w.alloc (.cells #[.string (bs x.nm), .int .i64 a0, .int .i64 a1, .int .i64 a2, .int .i64 a3, .int .i64 a4, .int .i64 x.rel, .int .i64 x.tg, .int .i64 x.wt] 50)).rangeAt w.heap.size 0 (opCells x a0 a1 a2 a3 a4) := by
  intro j v hv
  rw [Nat.zero_add, obj_cell (heap_alloc_new w _) j]
  simpa [opCells] using hv
set_option maxRecDepth 100000 in
set_option maxHeartbeats 3200000 in
theorem line33_any (x : Opd) (a0 a1 a2 a3 a4 : Int) (ha : x.ag = [a0, a1, a2, a3, a4]) (hok : opdOk x = true) (w : World) :
    Calls Tryz.prog 32 #[.agg #[.string (bs x.nm), .int .i64 a0, .int .i64 a1, .int .i64 a2, .int .i64 a3, .int .i64 a4, .int .i64 x.rel, .int .i64 x.tg, .int .i64 x.wt]] w (RetB w (.string (bs (lineT x)))) := by
  obtain ⟨ks, hgd⟩ := good_of hok ha
  have hll : (joinT (wordsT x)).length ≤ 99 := lineT_len hok
  have hrg := opRange w x a0 a1 a2 a3 a4
  have hbw : Below w.heap.size w (w.alloc (.cells #[.string (bs x.nm), .int .i64 a0, .int .i64 a1, .int .i64 a2, .int .i64 a3, .int .i64 a4, .int .i64 x.rel, .int .i64 x.tg, .int .i64 x.wt] 50)) := (Below.refl _ _).alloc (Nat.le_refl _) _
  have Hrg := Lib.hid hrg; have Hbw := Lib.hid hbw; have Hgd := Lib.hid hgd; have Ha := Lib.hid ha
  clear hrg hbw hgd ha hok
  go_enter Tryz.func32, Tryz.ntmps32
  go_wp2_with (refine wpL_load_op Hrg.out rfl (.tmp 1) rfl rfl ?_)
  generalize (w.alloc (.cells #[.string (bs x.nm), .int .i64 a0, .int .i64 a1, .int .i64 a2, .int .i64 a3, .int .i64 a4, .int .i64 x.rel, .int .i64 x.tg, .int .i64 x.wt] 50)) = w1 at *
  refine (words_any x ks a0 a1 a2 a3 a4 Ha.out Hgd.out w1).mono ?_
  rintro e w2 ⟨va, vc, rfl, hown, hb2⟩
  obtain ⟨g, rfl, -, hgl, hn, hc, hcells⟩ := owns_str_at hown (words_pos x)
  have Hb2 := Lib.hid (Hbw.out.trans (hb2.mono Hbw.out.size)); have Hcells := Lib.hid hcells
  clear hb2 hown hcells Hbw Hrg hn
  have hwp := words_pos x
  have hwl := join_many (wordsT x)
  have hpart := fun y hy => join_part (wordsT x) y hy
  have hlw : lineT x = joinT (wordsT x) := rfl
  have Hpart := Lib.hid hpart; have Hlw := Lib.hid hlw
  clear hpart hlw
  generalize wordsT x = ws at *
  obtain ⟨y0, hy0⟩ : ∃ y0, ws[0]? = some y0 := ⟨_, List.getElem?_eq_getElem hwp⟩
  have c0 : w2.cell? ⟨g, 0, none⟩ = some (.string (bs y0)) := Hcells.out 0 (bs y0) (by rw [List.getElem?_map, hy0]; rfl)
  have hj0 : joinT (ws.take 1) = y0 := by
    cases ws with
    | nil => simp at hy0
    | cons a r => simp at hy0; subst hy0; rfl
  have hlen99 : ∀ i, (joinT (ws.take i)).length ≤ 101 * 100 := fun i => by
    have h1 := joinT_len (n := 99) (ws.take i) (fun y hy => by have := Hpart.out y (List.mem_of_mem_take hy); omega)
    have h2 : (ws.take i).length ≤ 101 := by rw [List.length_take]; omega
    exact Nat.le_trans h1 (Nat.mul_le_mul h2 (by omega))
  have Hlen := Lib.hid hlen99; have Hj0 := Lib.hid hj0
  clear hlen99 hj0 hy0
  go_wp2_with fail
  go_loopw [4, 5] (fun v iv wr => ∃ i : Nat, 1 ≤ i ∧ i ≤ ws.length ∧ iv = .int .i64 (i : Int) ∧ v = .string (bs (joinT (ws.take i))) ∧ Below w2.heap.size w2 wr) (fun _ iv _ => ws.length - (intOf iv).toNat)
  case atStart => exact ⟨1, Nat.le_refl _, hwp, rfl, by rw [Hj0.out], Below.refl _ _⟩
  case round =>
    obtain ⟨i, hi1, hi, rfl, rfl, hb⟩ := hrel
    have Hb := Lib.hid hb; clear hb c0
    by_cases hil : i < ws.length
    · obtain ⟨y, hy⟩ : ∃ y, ws[i]? = some y := ⟨_, List.getElem?_eq_getElem hil⟩
      have ci : wr.cell? ⟨g, i, none⟩ = some (.string (bs y)) := by
        rw [Hb.out.cell (p := ⟨g, i, none⟩) hgl]
        have := Hcells.out i (bs y) (by rw [List.getElem?_map, hy]; rfl)
        rw [Nat.zero_add] at this
        exact this
      have hnx := joinT_next ws i y hi1 hy
      have hyl : y.length ≤ 99 := Nat.le_trans (Hpart.out y (List.mem_of_getElem? hy)) hll
      have hjl := Hlen.out i
      have Hnx := Lib.hid hnx; clear hnx hy
      generalize joinT (ws.take i) = J at *
      have r0 : bs J ++ ({ data := #[32] } : ByteArray) ++ bs y = bs (J ++ 32 :: y) := by
        rw [show ({ data := #[32] } : ByteArray) = bs [32] from rfl, bs_append, bs_append]; simp
      have R0 := Lib.hid r0; clear r0
      go_wp2_with fail
      go_roundw
      case rel => exact ⟨i + 1, by omega, by omega, by go_num, by rw [R0.out, Hnx.out], Hb.out⟩
      case measure => simp [intOf]; omega
    · obtain rfl : i = ws.length := by omega
      rw [List.take_length]
      go_wp2_with fail
      go_ret
      exact ⟨by rw [Hlw.out]; rfl, below_chain Hb2.out Hb.out⟩

set_option maxRecDepth 100000 in
set_option maxHeartbeats 1600000 in
theorem text33_any (l : List Opd) (a : Option Addr) (n c : Nat) (w : World) (h : RR OpdR 9 (fun b => b < w.heap.size) w a n c l) (hn : n ≤ 1000000) :
    Calls Tryz.prog 10 #[.slice a n c] w (RetTx w l) := by
  have hlen := h.1
  have H := Lib.hid h; clear h
  go_enter Tryz.func10, Tryz.ntmps10
  go_wp2_with fail
  refine (right33_any l a n c _ H.out hn).mono ?_
  rintro e w1 ⟨rfl, hb1⟩
  have H1 := Lib.hid (H.out.go opdOkR hb1); have Hb1 := Lib.hid hb1
  clear hb1 H
  have htb : textB l = (if opdsOk l then opdsT l else []) := rfl
  have hce : checkE l = (if opdsOk l then 0 else 330) := rfl
  cases hok : opdsOk l with
  | false =>
    rw [hok] at htb hce
    have Htb := Lib.hid htb; have Hce := Lib.hid hce
    clear htb hce hok
    go_wp2_with fail
    go_ret2
    exact ⟨by rw [Htb.out, Hce.out]; rfl, Hb1.out⟩
  | true =>
    rw [hok] at htb hce
    obtain ⟨h12, hall⟩ := opdsOk_all hok
    have Htb := Lib.hid htb; have Hce := Lib.hid hce; have Hall := Lib.hid hall
    clear htb hce hok hall
    go_wp2_with fail
    go_loopw [4, 5] (fun v iv wr => ∃ k : Nat, k ≤ n ∧ iv = .int .i64 (k : Int) ∧ v = .string (bs (opdsT (l.take k))) ∧ Below w1.heap.size w1 wr) (fun _ iv _ => n - (intOf iv).toNat)
    case atStart => exact ⟨0, Nat.zero_le _, rfl, rfl, Below.refl _ _⟩
    case round =>
      obtain ⟨k, hk, rfl, rfl, hb⟩ := hrel
      have Hb := Lib.hid hb; clear hb
      by_cases hkn : k < n
      · obtain ⟨b, off, x, cs, rfl, hlt, hx, ⟨a0, a1, a2, a3, a4, ha, rfl⟩, hr⟩ := (H1.out.go opdOkR Hb.out).at hkn
        have hok := Hall.out x (List.mem_of_getElem? hx)
        have hnx := opdsT_next hx
        have hll := lineT_len hok
        have hjl : (opdsT (l.take k)).length ≤ 1200 := by
          have h1 := opdsT_len (l.take k) (fun y hy => Hall.out y (List.mem_of_mem_take hy))
          have h2 : (l.take k).length ≤ 12 := by rw [List.length_take]; omega
          omega
        have Hx := Lib.hid hx; have Hr := Lib.hid hr; have Ha := Lib.hid ha; have Hnx := Lib.hid hnx; have Hok := Lib.hid hok
        clear hx hr ha hnx hok
        generalize opdsT (l.take k) = J at *
        go_wp2_with (first
          | (refine wpL_load_op Hr.out rfl (.tmp 18) rfl rfl ?_)
          | ((with_reducible refine (line33_any x a0 a1 a2 a3 a4 Ha.out Hok.out _).mono ?_); rintro e w2 ⟨rfl, hb2⟩))
        have r0 : bs J ++ bs (lineT x) ++ ({ data := #[10] } : ByteArray) = bs (J ++ (lineT x ++ [10])) := by
          rw [show ({ data := #[10] } : ByteArray) = bs [10] from rfl, bs_append, bs_append]; simp
        have R0 := Lib.hid r0; clear r0
        go_roundw
        case rel => exact ⟨k + 1, by omega, by go_num, by rw [R0.out, Hnx.out], below_chain Hb.out hb2⟩
        case measure => simp [intOf]; omega
      · obtain rfl : k = n := by omega
        rw [show l.take k = l by rw [← hlen, List.take_length]]
        go_wp2_with fail
        go_ret2
        exact ⟨by rw [Htb.out, Hce.out]; rfl, below_chain Hb1.out Hb.out⟩
end Go.Proofs.YtpicmhbjiaegpaaGreatDoor

namespace Go.Proofs.YtpicmhbjiaegpaaGreatDoor
open Go.RowKit

def cutN (x : Opd) : Opd := { x with nm := x.nm.take 8 }
def fewL (l : List Opd) : List Opd := (l.take 14).map cutN
def RetFew (w : World) (l : List Opd) (e : Ending) (w' : World) : Prop := ∃ a n c, e = .returned (.slice a n c) ∧ OwnR OpdR 9 50 w.heap.size w' (.slice a n c) l ∧ n = l.length ∧ Below w.heap.size w w'
theorem cut_ext (nm : List UInt8) : (bs nm).extract 0 (min nm.length 8) = bs (nm.take 8) := by
  rw [bs_extract, Nat.sub_zero, List.drop_zero]
  congr 1
  rw [Nat.min_comm, List.take_eq_take_iff]; simp
set_option maxRecDepth 100000 in
set_option maxHeartbeats 3200000 in
theorem few_any (l : List Opd) (a : Option Addr) (n c : Nat) (w : World) (h : RR OpdR 9 (fun b => b < w.heap.size) w a n c l) (hn : n ≤ 9223372036854775807) (hnm : ∀ x ∈ l, x.nm.length ≤ 9223372036854775807) :
    Calls Tryz.prog 16 #[.slice a n c] w (RetFew w (fewL l)) := by
  have hlen := h.1
  have hcap := h.2.1
  have H := Lib.hid h; have Hnm := Lib.hid hnm; clear h hnm
  have e4 : min (n : Int) 14 = ((min n 14 : Nat) : Int) := by omega
  have hm4 : min n 14 ≤ n ∧ min n 14 ≤ 14 := ⟨Nat.min_le_left _ _, Nat.min_le_right _ _⟩
  go_enter Tryz.func16, Tryz.ntmps16
  go_wp2_with fail
  go_loopw [3, 12] (fun v iv wr => ∃ k : Nat, k ≤ min n 14 ∧ iv = .int .i64 (k : Int) ∧ OwnR OpdR 9 50 w.heap.size wr v ((l.take k).map cutN) ∧ Below w.heap.size w wr) (fun _ iv _ => 14 - (intOf iv).toNat)
  case atStart => exact ⟨0, by omega, rfl, OwnR.nil _ _ _ _ _, Below.refl _ _⟩
  case round =>
    obtain ⟨k, hk, rfl, hown, hb⟩ := hrel
    have Hown := Lib.hid hown; have Hb := Lib.hid hb
    clear hown hb
    have hlk : ((l.take k).map cutN).length = k := by rw [List.length_map, List.length_take]; omega
    by_cases hkn : k < min n 14
    · obtain ⟨b, off, x, cs, rfl, hlt, hx, ⟨a0, a1, a2, a3, a4, ha, rfl⟩, hr⟩ := (H.out.go opdOkR Hb.out).at (show k < n by omega)
      have hnx : (l.take (k + 1)).map cutN = (l.take k).map cutN ++ [cutN x] := by rw [take_next hx, List.map_append]; rfl
      have hxn := Hnm.out x (List.mem_of_getElem? hx)
      have Hr := Lib.hid hr; have Ha := Lib.hid ha; have Hnx := Lib.hid hnx
      clear hr hx ha hnx
      have hZ := heap_alloc_new wr (.cells #[.string { data := #[] }, .int .i64 0, .int .i64 0, .int .i64 0, .int .i64 0, .int .i64 0, .int .i64 0, .int .i64 0, .int .i64 0] 50)
      have hbZ := (Below.refl wr.heap.size wr).alloc (Nat.le_refl _) (.cells #[.string { data := #[] }, .int .i64 0, .int .i64 0, .int .i64 0, .int .i64 0, .int .i64 0, .int .i64 0, .int .i64 0, .int .i64 0] 50)
      have S1 := Lib.hid (opd_stored (nm := x.nm) (a0 := a0) (a1 := a1) (a2 := a2) (a3 := a3) (a4 := a4) (rel := x.rel) (tg := x.tg) (wt := x.wt) hZ)
      have S2 := Lib.hid (below_stored (nm := x.nm) (a0 := a0) (a1 := a1) (a2 := a2) (a3 := a3) (a4 := a4) (rel := x.rel) (tg := x.tg) (wt := x.wt) hbZ (Nat.le_refl wr.heap.size))
      have HZ := Lib.hid hZ
      clear hZ hbZ
      go_upto_region 5 with (first
        | (refine wpL_load_op Hr.out rfl (.tmp 14) rfl rfl ?_)
        | (refine wpL_store_op (nm := x.nm) (a0 := a0) (a1 := a1) (a2 := a2) (a3 := a3) (a4 := a4) (rel := x.rel) (tg := x.tg) (wt := x.wt) HZ.out rfl rfl (.tmp 5) (.tmp 15) rfl rfl rfl ?_))
      refine step_world (fun wx => OpdB wx wr.heap.size x.nm a0 a1 a2 a3 a4 x.rel x.tg x.wt ∧ Below wr.heap.size wr wx) ⟨S1.out, S2.out⟩ ?_
      rintro w5 ⟨s1, s2⟩
      clear S1 S2 HZ
      have c0 : w5.cell? ⟨wr.heap.size, 0, none⟩ = some (.string (bs x.nm)) := obj_cell s1 0
      have f0 := obj_free s1 0
      have en : min (x.nm.length : Int) 8 = ((min x.nm.length 8 : Nat) : Int) := by omega
      have hen : min x.nm.length 8 ≤ x.nm.length := Nat.min_le_left _ _
      have hce := cut_ext x.nm
      go_upto_region 6 with fail
      try rw [hce]
      have s3 := obj_setCell s1 0 (.string (bs (x.nm.take 8)))
      simp only [List.setIfInBounds_toArray, List.set_cons_zero] at s3
      have s4 := s2.setCell (p := ⟨wr.heap.size, 0, none⟩) (Nat.le_refl _) (.string (bs (x.nm.take 8)))
      refine step_world (fun wx => OpdB wx wr.heap.size (cutN x).nm a0 a1 a2 a3 a4 (cutN x).rel (cutN x).tg (cutN x).wt ∧ Below wr.heap.size wr wx) ⟨s3, s4⟩ ?_
      clear s3 s4 c0 f0 en hen hce s1 s2
      rintro w6 ⟨s5, s6⟩
      have hr6 : w6.rangeAt wr.heap.size 0 (opCells (cutN x) a0 a1 a2 a3 a4) := by
        intro j v hv
        rw [Nat.zero_add, obj_cell s5 j]
        simpa [opCells] using hv
      have hac : (cutN x).ag = [a0, a1, a2, a3, a4] := Ha.out
      have Hr6 := Lib.hid hr6; have Hac := Lib.hid hac
      have Hown6 := Lib.hid (Hown.out.go opdOkR s6); have Hb6 := Lib.hid (Hb.out.trans (s6.mono Hb.out.size)); have hs5 := s6.size; have hbz := Hb.out.size
      clear s5 s6 hr6 hac Hown Hb Hr
      generalize cutN x = y at *
      have hmk : min k n = k := by omega
      go_wp2_with (first
        | (refine wpL_load_op Hr6.out rfl (.tmp 5) rfl rfl ?_)
        | (refine wpList_append_rec opdOkR Tryz.underlying30 Tryz.infoOpd3 rfl (by omega) (by omega) rfl (.tmp 24) (.tmp 26) rfl w.heap.size w6 _ ((l.take k).map cutN) y (opCells y a0 a1 a2 a3 a4) rfl Hown6.out rfl rfl ⟨a0, a1, a2, a3, a4, Hac.out, rfl⟩ (by omega) (by omega) ?_; intro g cap w7 hown7 hb7; rw [← Hnx.out, hlk] at hown7))
      go_roundw
      case rel => exact ⟨k + 1, by omega, by go_num, hown7, hb7 w.heap.size w (Nat.le_refl _) Hb6.out⟩
      case measure => simp [intOf]; omega
    · obtain rfl : k = min n 14 := by omega
      obtain ⟨a', c', rfl⟩ : ∃ a' c', u3 = .slice a' ((l.take (min n 14)).map cutN).length c' := by
        rcases Hown.out.form with ⟨e1, e2⟩ | ⟨g, cap, e1, _⟩
        · rw [e2]; exact ⟨none, 0, e1⟩
        · exact ⟨_, cap, e1⟩
      have hfull : (l.take (min n 14)).map cutN = fewL l := by
        unfold fewL
        rw [← hlen, Nat.min_comm]; congr 1; rw [List.take_eq_take_iff]; simp
      rw [hfull] at Hown ⊢
      have Hfull := Lib.hid hfull; clear hfull
      go_wp2_with fail
      go_ret
      exact ⟨a', _, c', rfl, Hown.out, rfl, Hb.out⟩
end Go.Proofs.YtpicmhbjiaegpaaGreatDoor

namespace Go.Proofs.YtpicmhbjiaegpaaGreatDoor
open Go.RowKit

theorem rr_cell {l : List Opd} {w : World} {g n c j f : Nat} {x x' : Opd} {a0 a1 a2 a3 a4 b0 b1 b2 b3 b4 : Int} {v : Value}
    (h : RR OpdR 9 (fun b => b < w.heap.size) w (some ⟨g, 0, none⟩) n c l) (hj : l[j]? = some x) (hx : x.ag = [a0, a1, a2, a3, a4]) (hx' : x'.ag = [b0, b1, b2, b3, b4]) (hf : f < 9) (hc : opCells x' b0 b1 b2 b3 b4 = (opCells x a0 a1 a2 a3 a4).set f v) :
    RR OpdR 9 (fun b => b < (w.setCell ⟨g, j * 9 + f, none⟩ v).heap.size) (w.setCell ⟨g, j * 9 + f, none⟩ v) (some ⟨g, 0, none⟩) n c (l.set j x') := by
  obtain ⟨h1, h2, h3⟩ := h
  refine ⟨by rw [List.length_set]; exact h1, h2, fun hpos => ?_⟩
  obtain ⟨b, off, e, hb, hel⟩ := h3 hpos
  cases e
  have hsz : w.heap.size ≤ (w.setCell ⟨g, j * 9 + f, none⟩ v).heap.size := ((Below.refl 0 w).setCell (p := ⟨g, j * 9 + f, none⟩) (Nat.zero_le _) v).size
  refine ⟨g, 0, rfl, Nat.lt_of_lt_of_le hb hsz, fun i y hy => ?_⟩
  by_cases hij : i = j
  · subst hij
    obtain ⟨cs, ⟨d0, d1, d2, d3, d4, hd, rfl⟩, hr⟩ := hel i x hj
    rw [hx] at hd
    cases hd
    rw [List.getElem?_set_self (List.getElem?_eq_some_iff.1 hj).1] at hy
    cases hy
    refine ⟨_, ⟨b0, b1, b2, b3, b4, hx', rfl⟩, fun m u hu => ?_⟩
    rw [hc] at hu
    have hl9 : (opCells x a0 a1 a2 a3 a4).length = 9 := rfl
    by_cases hm : f = m
    · subst hm
      rw [List.getElem?_set_self (by omega)] at hu
      cases hu
      have := hr f _ (List.getElem?_eq_getElem (by omega))
      simp only [Nat.zero_add] at this ⊢
      exact World.cell?_setCell_same _ _ _ this
    · rw [List.getElem?_set_ne hm] at hu
      have := hr m u hu
      simp only [Nat.zero_add] at this ⊢
      rw [World.cell?_setCell_other _ _ _ _ (by simp; try omega)]
      exact this
  · rw [List.getElem?_set_ne (fun e => hij e.symm)] at hy
    obtain ⟨cs, hR, hr⟩ := hel i y hy
    obtain ⟨d0, d1, d2, d3, d4, hd, rfl⟩ := hR
    refine ⟨_, ⟨d0, d1, d2, d3, d4, hd, rfl⟩, fun m u hu => ?_⟩
    have hm9 : m < 9 := (List.getElem?_eq_some_iff.1 hu).1
    have := hr m u hu
    simp only [Nat.zero_add] at this ⊢
    rw [World.cell?_setCell_other _ _ _ _ (by simp; try omega)]
    exact this
theorem cell_lt {w : World} {b o : Nat} {v : Value} (h : w.cell? ⟨b, o, none⟩ = some v) : b < w.heap.size := World.block_lt_of_cell? _ _ h
def RetSome (w : World) (e : Ending) (w' : World) : Prop := ∃ (a : Option Addr) (n c : Nat) (l : List Opd), e = .returned (.slice a n c) ∧ RR OpdR 9 (fun b => b < w'.heap.size) w' a n c l ∧ n ≤ 14 ∧ Below w.heap.size w w'
theorem few_len (l : List Opd) : (fewL l).length ≤ 14 := by unfold fewL; simp; omega
set_option maxRecDepth 100000 in
set_option maxHeartbeats 3200000 in
theorem bend_any (wh at' : Nat) (N : Int) (nm : List UInt8) (l : List Opd) (a : Option Addr) (n c : Nat) (w : World) (h : RR OpdR 9 (fun b => b < w.heap.size) w a n c l) (hn : n ≤ 9223372036854775807) (hnm : ∀ x ∈ l, x.nm.length ≤ 9223372036854775807) (_hwh : wh < 256) (hat : at' < 256) (hnl : nm.length ≤ 9223372036854775807) :
    Calls Tryz.prog 17 #[.agg #[.int .u8 (wh : Int), .int .u8 (at' : Int), .int .i64 N, .string (bs nm)], .slice a n c] w (RetSome w) := by
  have hob := heap_alloc_new w (.cells #[.int .u8 (wh : Int), .int .u8 (at' : Int), .int .i64 N, .string (bs nm)] 39)
  have hbw := (Below.refl w.heap.size w).alloc (Nat.le_refl _) (.cells #[.int .u8 (wh : Int), .int .u8 (at' : Int), .int .i64 N, .string (bs nm)] 39)
  have hs1 : w.heap.size < (w.alloc (.cells #[.int .u8 (wh : Int), .int .u8 (at' : Int), .int .i64 N, .string (bs nm)] 39)).heap.size := by simp
  have H := Lib.hid (h.go opdOkR hbw)
  have Hob := Lib.hid hob; have Hbw := Lib.hid hbw; have Hnm := Lib.hid hnm
  clear h hob hbw hnm
  go_enter Tryz.func17, Tryz.ntmps17
  go_wp2_with fail
  generalize (w.alloc (.cells #[.int .u8 (wh : Int), .int .u8 (at' : Int), .int .i64 N, .string (bs nm)] 39)) = w1 at *
  refine (few_any l a n c w1 H.out hn Hnm.out).mono ?_
  rintro e w2 ⟨a2, n2, c2, rfl, hown, hn2, hb2⟩
  have hfl := few_len l
  have Hob2 := Lib.hid ((hb2.block w.heap.size hs1).trans Hob.out)
  have Hb2 := Lib.hid (Hbw.out.trans (hb2.mono (by omega)))
  have hs2 := hb2.size
  have Hown := Lib.hid hown
  have Hn2 := Lib.hid hn2
  clear hb2 hown Hob Hbw H Hnm
  generalize fewL l = L at *
  have hn14 : n2 ≤ 14 := by omega
  clear hn2
  by_cases h0 : n2 = 0
  · subst h0
    have Hrr := Lib.hid (Hown.out.rr opdOkR)
    go_wp2_with fail
    go_ret
    exact ⟨_, _, _, L, rfl, Hrr.out, by omega, Hb2.out⟩
  obtain ⟨g, hg, rfl⟩ : ∃ g, w1.heap.size ≤ g ∧ a2 = some ⟨g, 0, none⟩ := by
    rcases Hown.out.form with ⟨e1, e2⟩ | ⟨g, cap, e1, q1, _⟩
    · have hn2 := Hn2.out
      rw [e2] at hn2; exact absurd hn2 h0
    · cases e1; exact ⟨g, q1, rfl⟩
  have hm0 : 0 < n2 := by omega
  have hqm : at' % n2 < n2 := Nat.mod_lt _ hm0
  have e5 : (at' : Int) % (n2 : Int) = ((at' % n2 : Nat) : Int) := rfl
  obtain ⟨cs, ⟨a0, a1, a2', a3, a4, ha, rfl⟩, hr⟩ := Hown.out.at opdOkR (i := at' % n2) (by have := Hn2.out; omega)
  have hth := Hown.out.there (i := at' % n2) (by have := Hn2.out; omega)
  have hj : L[at' % n2]? = some L[at' % n2] := List.getElem?_eq_getElem (by have := Hn2.out; omega)
  have Hj := Lib.hid hj; have Ha := Lib.hid ha; have Hrr := Lib.hid (Hown.out.rr opdOkR)
  clear hj ha
  generalize L[at' % n2] = x at *
  have hx : at' % n2 < L.length := by have := Hn2.out; omega
  have c0 : w2.cell? ⟨w.heap.size, 0, none⟩ = some (.int .u8 (wh : Int)) := obj_cell Hob2.out 0
  have c1 : w2.cell? ⟨w.heap.size, 1, none⟩ = some (.int .u8 (at' : Int)) := obj_cell Hob2.out 1
  have c2' : w2.cell? ⟨w.heap.size, 2, none⟩ = some (.int .i64 N) := obj_cell Hob2.out 2
  have c3 : w2.cell? ⟨w.heap.size, 3, none⟩ = some (.string (bs nm)) := obj_cell Hob2.out 3
  have hlp : w.heap.size < w2.heap.size := by omega
  have z0 : w2.cell? ⟨g, at' % n2 * 9, none⟩ = some (.string (bs x.nm)) := by simpa using hr 0 _ rfl
  have z1 : w2.cell? ⟨g, at' % n2 * 9 + 1, none⟩ = some (.int .i64 a0) := hr 1 _ rfl
  have z2 : w2.cell? ⟨g, at' % n2 * 9 + 2, none⟩ = some (.int .i64 a1) := hr 2 _ rfl
  have z3 : w2.cell? ⟨g, at' % n2 * 9 + 3, none⟩ = some (.int .i64 a2') := hr 3 _ rfl
  have z4 : w2.cell? ⟨g, at' % n2 * 9 + 4, none⟩ = some (.int .i64 a3) := hr 4 _ rfl
  have z5 : w2.cell? ⟨g, at' % n2 * 9 + 5, none⟩ = some (.int .i64 a4) := hr 5 _ rfl
  have z6 : w2.cell? ⟨g, at' % n2 * 9 + 6, none⟩ = some (.int .i64 x.rel) := hr 6 _ rfl
  have z7 : w2.cell? ⟨g, at' % n2 * 9 + 7, none⟩ = some (.int .i64 x.tg) := hr 7 _ rfl
  have z8 : w2.cell? ⟨g, at' % n2 * 9 + 8, none⟩ = some (.int .i64 x.wt) := hr 8 _ rfl
  have f0 : w2.frozen? ⟨g, at' % n2 * 9, none⟩ = false := by simpa using (hth 0 (by omega)).2
  have f1 : w2.frozen? ⟨g, at' % n2 * 9 + 1, none⟩ = false := (hth 1 (by omega)).2
  have f2 : w2.frozen? ⟨g, at' % n2 * 9 + 2, none⟩ = false := (hth 2 (by omega)).2
  have f3 : w2.frozen? ⟨g, at' % n2 * 9 + 3, none⟩ = false := (hth 3 (by omega)).2
  have f4 : w2.frozen? ⟨g, at' % n2 * 9 + 4, none⟩ = false := (hth 4 (by omega)).2
  have f5 : w2.frozen? ⟨g, at' % n2 * 9 + 5, none⟩ = false := (hth 5 (by omega)).2
  have f6 : w2.frozen? ⟨g, at' % n2 * 9 + 6, none⟩ = false := (hth 6 (by omega)).2
  have f7 : w2.frozen? ⟨g, at' % n2 * 9 + 7, none⟩ = false := (hth 7 (by omega)).2
  have f8 : w2.frozen? ⟨g, at' % n2 * 9 + 8, none⟩ = false := (hth 8 (by omega)).2
  have en : min (nm.length : Int) 8 = ((min nm.length 8 : Nat) : Int) := by omega
  have hen : min nm.length 8 ≤ nm.length := Nat.min_le_left _ _
  have hce := cut_ext nm
  clear hr hth Hown hx
  generalize at' % n2 = q at *
  have hw9 : wh % 9 < 9 := Nat.mod_lt _ (by omega)
  have e9 : (wh : Int) % 9 = ((wh % 9 : Nat) : Int) := rfl
  have e9t : (wh : Int).tmod 9 = ((wh % 9 : Nat) : Int) := rfl
  have hwg : w.heap.size ≤ g := by omega
  have hgl : g < w2.heap.size := (cell_lt z0)
  generalize wh % 9 = v9 at *
  have hv : v9 = 0 ∨ v9 = 1 ∨ v9 = 2 ∨ v9 = 3 ∨ v9 = 4 ∨ v9 = 5 ∨ v9 = 6 ∨ v9 = 7 ∨ v9 = 8 := by omega
  have hnz : ((n2 : Int) == 0) = false := by rw [beq_eq_false_iff_ne]; omega
  go_upto_region 5 with fail
  try rw [e5]
  clear e5
  rcases hv with rfl | rfl | rfl | rfl | rfl | rfl | rfl | rfl | rfl
  · rw [show ((0 : Nat) : Int) = 0 from rfl] at e9
    go_wp2_with fail
    try rw [hce]
    have hrr := rr_cell (f := 0) (x' := { x with nm := nm.take 8 }) Hrr.out Hj.out Ha.out (b0 := a0) (b1 := a1) (b2 := a2') (b3 := a3) (b4 := a4) Ha.out (by omega) (v := .string (bs (nm.take 8))) rfl
    rw [Nat.add_zero] at hrr
    go_ret
    exact ⟨_, _, _, _, rfl, hrr, by omega, Hb2.out.setCell (p := ⟨g, q * 9, none⟩) hwg _⟩
  · rw [show ((1 : Nat) : Int) = 1 from rfl] at e9
    go_wp2_with fail
    have hrr := rr_cell (f := 6) (x' := { x with rel := N }) Hrr.out Hj.out Ha.out (b0 := a0) (b1 := a1) (b2 := a2') (b3 := a3) (b4 := a4) Ha.out (by omega) (v := .int .i64 N) rfl
    go_ret
    exact ⟨_, _, _, _, rfl, hrr, by omega, Hb2.out.setCell (p := ⟨g, q * 9 + 6, none⟩) hwg _⟩
  · rw [show ((2 : Nat) : Int) = 2 from rfl] at e9
    go_wp2_with fail
    have hrr := rr_cell (f := 7) (x' := { x with tg := N }) Hrr.out Hj.out Ha.out (b0 := a0) (b1 := a1) (b2 := a2') (b3 := a3) (b4 := a4) Ha.out (by omega) (v := .int .i64 N) rfl
    go_ret
    exact ⟨_, _, _, _, rfl, hrr, by omega, Hb2.out.setCell (p := ⟨g, q * 9 + 7, none⟩) hwg _⟩
  · rw [show ((3 : Nat) : Int) = 3 from rfl] at e9
    go_wp2_with fail
    have hrr := rr_cell (f := 8) (x' := { x with wt := N }) Hrr.out Hj.out Ha.out (b0 := a0) (b1 := a1) (b2 := a2') (b3 := a3) (b4 := a4) Ha.out (by omega) (v := .int .i64 N) rfl
    go_ret
    exact ⟨_, _, _, _, rfl, hrr, by omega, Hb2.out.setCell (p := ⟨g, q * 9 + 8, none⟩) hwg _⟩
  · rw [show ((4 : Nat) : Int) = 4 from rfl] at e9 e9t
    have ew : IntKind.u8.wrap 0 = 0 := by rfl
    go_wp2_with fail
    refine wp_region_floats 10 [7, 8] [] [(0, true), (1, true), (2, true), (3, true), (4, true), (5, true), (6, true), (7, true), (8, true), (9, true)] (by kernel_rfl) (by kernel_rfl) ⟨by simp, by simp, fun _ h => by cases h⟩ (fun _ _ _ _ _ h => h) (fun _ _ o _ _ h => by cases o <;> exact h) ?_
    iterate 7
      refine wpG_yield (v := ?_) rfl rfl (by rfl) ?_ ?_
      rotate_left
      · intro y hy
        have y0 := (hy.cell (p := ⟨w.heap.size, 0, none⟩) hlp).trans c0
        have y2 := (hy.cell (p := ⟨w.heap.size, 2, none⟩) hlp).trans c2'
        go_simp
        try rw [ew, if_pos (by decide), show q * 9 + 1 + (0 : Int).toNat = q * 9 + 1 from rfl]
        all_goals with_reducible rfl
      try simp only [Act.put, List.setIfInBounds_toArray, List.set_cons_zero, List.set_cons_succ]
    iterate 2
      refine wpG_pure (v := ?_) rfl (by rfl) ?_ ?_
      rotate_left
      · intro y
        go_simp
        with_reducible rfl
      try simp only [Act.put, List.setIfInBounds_toArray, List.set_cons_zero, List.set_cons_succ]
    iterate 1
      refine wpG_yield (v := ?_) rfl rfl (by rfl) ?_ ?_
      rotate_left
      · intro y hy
        have y0 := (hy.cell (p := ⟨w.heap.size, 0, none⟩) hlp).trans c0
        have y2 := (hy.cell (p := ⟨w.heap.size, 2, none⟩) hlp).trans c2'
        go_simp
        try rw [ew, if_pos (by decide), show q * 9 + 1 + (0 : Int).toNat = q * 9 + 1 from rfl]
        all_goals with_reducible rfl
      try simp only [Act.put, List.setIfInBounds_toArray, List.set_cons_zero, List.set_cons_succ]
    refine wpG_nil0 (l := [_]) rfl (fun w3 hb3 => ?_)
    have hb3' : Below w2.heap.size w2 w3 := below_undrew (k := 1) hb3
    have Hr3 := Lib.hid (Hrr.out.go opdOkR hb3')
    have y1 := (hb3'.cell (p := ⟨g, q * 9 + 1, none⟩) hgl).trans z1
    have k1 : w3.frozen? ⟨g, q * 9 + 1, none⟩ = false := by rw [← f1]; simp only [World.frozen?, hb3'.block g hgl]
    have Hb3 := Lib.hid (Hb2.out.trans (hb3'.mono (by have := Hb2.out.size; omega)))
    clear hb3 hb3' ew
    go_wp2_with fail
    have hrr := rr_cell (f := 1) (x' := { x with ag := [N, a1, a2', a3, a4] }) Hr3.out Hj.out Ha.out (b0 := N) (b1 := a1) (b2 := a2') (b3 := a3) (b4 := a4) rfl (by omega) (v := .int .i64 N) rfl
    go_ret
    exact ⟨_, _, _, _, rfl, hrr, by omega, Hb3.out.setCell (p := ⟨g, q * 9 + 1, none⟩) hwg _⟩
  · rw [show ((5 : Nat) : Int) = 5 from rfl] at e9 e9t
    have ew : IntKind.u8.wrap 1 = 1 := by rfl
    go_wp2_with fail
    refine wp_region_floats 10 [7, 8] [] [(0, true), (1, true), (2, true), (3, true), (4, true), (5, true), (6, true), (7, true), (8, true), (9, true)] (by kernel_rfl) (by kernel_rfl) ⟨by simp, by simp, fun _ h => by cases h⟩ (fun _ _ _ _ _ h => h) (fun _ _ o _ _ h => by cases o <;> exact h) ?_
    iterate 7
      refine wpG_yield (v := ?_) rfl rfl (by rfl) ?_ ?_
      rotate_left
      · intro y hy
        have y0 := (hy.cell (p := ⟨w.heap.size, 0, none⟩) hlp).trans c0
        have y2 := (hy.cell (p := ⟨w.heap.size, 2, none⟩) hlp).trans c2'
        go_simp
        try rw [ew, if_pos (by decide), show q * 9 + 1 + (1 : Int).toNat = q * 9 + 2 from rfl]
        all_goals with_reducible rfl
      try simp only [Act.put, List.setIfInBounds_toArray, List.set_cons_zero, List.set_cons_succ]
    iterate 2
      refine wpG_pure (v := ?_) rfl (by rfl) ?_ ?_
      rotate_left
      · intro y
        go_simp
        with_reducible rfl
      try simp only [Act.put, List.setIfInBounds_toArray, List.set_cons_zero, List.set_cons_succ]
    iterate 1
      refine wpG_yield (v := ?_) rfl rfl (by rfl) ?_ ?_
      rotate_left
      · intro y hy
        have y0 := (hy.cell (p := ⟨w.heap.size, 0, none⟩) hlp).trans c0
        have y2 := (hy.cell (p := ⟨w.heap.size, 2, none⟩) hlp).trans c2'
        go_simp
        try rw [ew, if_pos (by decide), show q * 9 + 1 + (1 : Int).toNat = q * 9 + 2 from rfl]
        all_goals with_reducible rfl
      try simp only [Act.put, List.setIfInBounds_toArray, List.set_cons_zero, List.set_cons_succ]
    refine wpG_nil0 (l := [_]) rfl (fun w3 hb3 => ?_)
    have hb3' : Below w2.heap.size w2 w3 := below_undrew (k := 1) hb3
    have Hr3 := Lib.hid (Hrr.out.go opdOkR hb3')
    have y1 := (hb3'.cell (p := ⟨g, q * 9 + 2, none⟩) hgl).trans z2
    have k1 : w3.frozen? ⟨g, q * 9 + 2, none⟩ = false := by rw [← f2]; simp only [World.frozen?, hb3'.block g hgl]
    have Hb3 := Lib.hid (Hb2.out.trans (hb3'.mono (by have := Hb2.out.size; omega)))
    clear hb3 hb3' ew
    go_wp2_with fail
    have hrr := rr_cell (f := 2) (x' := { x with ag := [a0, N, a2', a3, a4] }) Hr3.out Hj.out Ha.out (b0 := a0) (b1 := N) (b2 := a2') (b3 := a3) (b4 := a4) rfl (by omega) (v := .int .i64 N) rfl
    go_ret
    exact ⟨_, _, _, _, rfl, hrr, by omega, Hb3.out.setCell (p := ⟨g, q * 9 + 2, none⟩) hwg _⟩
  · rw [show ((6 : Nat) : Int) = 6 from rfl] at e9 e9t
    have ew : IntKind.u8.wrap 2 = 2 := by rfl
    go_wp2_with fail
    refine wp_region_floats 10 [7, 8] [] [(0, true), (1, true), (2, true), (3, true), (4, true), (5, true), (6, true), (7, true), (8, true), (9, true)] (by kernel_rfl) (by kernel_rfl) ⟨by simp, by simp, fun _ h => by cases h⟩ (fun _ _ _ _ _ h => h) (fun _ _ o _ _ h => by cases o <;> exact h) ?_
    iterate 7
      refine wpG_yield (v := ?_) rfl rfl (by rfl) ?_ ?_
      rotate_left
      · intro y hy
        have y0 := (hy.cell (p := ⟨w.heap.size, 0, none⟩) hlp).trans c0
        have y2 := (hy.cell (p := ⟨w.heap.size, 2, none⟩) hlp).trans c2'
        go_simp
        try rw [ew, if_pos (by decide), show q * 9 + 1 + (2 : Int).toNat = q * 9 + 3 from rfl]
        all_goals with_reducible rfl
      try simp only [Act.put, List.setIfInBounds_toArray, List.set_cons_zero, List.set_cons_succ]
    iterate 2
      refine wpG_pure (v := ?_) rfl (by rfl) ?_ ?_
      rotate_left
      · intro y
        go_simp
        with_reducible rfl
      try simp only [Act.put, List.setIfInBounds_toArray, List.set_cons_zero, List.set_cons_succ]
    iterate 1
      refine wpG_yield (v := ?_) rfl rfl (by rfl) ?_ ?_
      rotate_left
      · intro y hy
        have y0 := (hy.cell (p := ⟨w.heap.size, 0, none⟩) hlp).trans c0
        have y2 := (hy.cell (p := ⟨w.heap.size, 2, none⟩) hlp).trans c2'
        go_simp
        try rw [ew, if_pos (by decide), show q * 9 + 1 + (2 : Int).toNat = q * 9 + 3 from rfl]
        all_goals with_reducible rfl
      try simp only [Act.put, List.setIfInBounds_toArray, List.set_cons_zero, List.set_cons_succ]
    refine wpG_nil0 (l := [_]) rfl (fun w3 hb3 => ?_)
    have hb3' : Below w2.heap.size w2 w3 := below_undrew (k := 1) hb3
    have Hr3 := Lib.hid (Hrr.out.go opdOkR hb3')
    have y1 := (hb3'.cell (p := ⟨g, q * 9 + 3, none⟩) hgl).trans z3
    have k1 : w3.frozen? ⟨g, q * 9 + 3, none⟩ = false := by rw [← f3]; simp only [World.frozen?, hb3'.block g hgl]
    have Hb3 := Lib.hid (Hb2.out.trans (hb3'.mono (by have := Hb2.out.size; omega)))
    clear hb3 hb3' ew
    go_wp2_with fail
    have hrr := rr_cell (f := 3) (x' := { x with ag := [a0, a1, N, a3, a4] }) Hr3.out Hj.out Ha.out (b0 := a0) (b1 := a1) (b2 := N) (b3 := a3) (b4 := a4) rfl (by omega) (v := .int .i64 N) rfl
    go_ret
    exact ⟨_, _, _, _, rfl, hrr, by omega, Hb3.out.setCell (p := ⟨g, q * 9 + 3, none⟩) hwg _⟩
  · rw [show ((7 : Nat) : Int) = 7 from rfl] at e9 e9t
    have ew : IntKind.u8.wrap 3 = 3 := by rfl
    go_wp2_with fail
    refine wp_region_floats 10 [7, 8] [] [(0, true), (1, true), (2, true), (3, true), (4, true), (5, true), (6, true), (7, true), (8, true), (9, true)] (by kernel_rfl) (by kernel_rfl) ⟨by simp, by simp, fun _ h => by cases h⟩ (fun _ _ _ _ _ h => h) (fun _ _ o _ _ h => by cases o <;> exact h) ?_
    iterate 7
      refine wpG_yield (v := ?_) rfl rfl (by rfl) ?_ ?_
      rotate_left
      · intro y hy
        have y0 := (hy.cell (p := ⟨w.heap.size, 0, none⟩) hlp).trans c0
        have y2 := (hy.cell (p := ⟨w.heap.size, 2, none⟩) hlp).trans c2'
        go_simp
        try rw [ew, if_pos (by decide), show q * 9 + 1 + (3 : Int).toNat = q * 9 + 4 from rfl]
        all_goals with_reducible rfl
      try simp only [Act.put, List.setIfInBounds_toArray, List.set_cons_zero, List.set_cons_succ]
    iterate 2
      refine wpG_pure (v := ?_) rfl (by rfl) ?_ ?_
      rotate_left
      · intro y
        go_simp
        with_reducible rfl
      try simp only [Act.put, List.setIfInBounds_toArray, List.set_cons_zero, List.set_cons_succ]
    iterate 1
      refine wpG_yield (v := ?_) rfl rfl (by rfl) ?_ ?_
      rotate_left
      · intro y hy
        have y0 := (hy.cell (p := ⟨w.heap.size, 0, none⟩) hlp).trans c0
        have y2 := (hy.cell (p := ⟨w.heap.size, 2, none⟩) hlp).trans c2'
        go_simp
        try rw [ew, if_pos (by decide), show q * 9 + 1 + (3 : Int).toNat = q * 9 + 4 from rfl]
        all_goals with_reducible rfl
      try simp only [Act.put, List.setIfInBounds_toArray, List.set_cons_zero, List.set_cons_succ]
    refine wpG_nil0 (l := [_]) rfl (fun w3 hb3 => ?_)
    have hb3' : Below w2.heap.size w2 w3 := below_undrew (k := 1) hb3
    have Hr3 := Lib.hid (Hrr.out.go opdOkR hb3')
    have y1 := (hb3'.cell (p := ⟨g, q * 9 + 4, none⟩) hgl).trans z4
    have k1 : w3.frozen? ⟨g, q * 9 + 4, none⟩ = false := by rw [← f4]; simp only [World.frozen?, hb3'.block g hgl]
    have Hb3 := Lib.hid (Hb2.out.trans (hb3'.mono (by have := Hb2.out.size; omega)))
    clear hb3 hb3' ew
    go_wp2_with fail
    have hrr := rr_cell (f := 4) (x' := { x with ag := [a0, a1, a2', N, a4] }) Hr3.out Hj.out Ha.out (b0 := a0) (b1 := a1) (b2 := a2') (b3 := N) (b4 := a4) rfl (by omega) (v := .int .i64 N) rfl
    go_ret
    exact ⟨_, _, _, _, rfl, hrr, by omega, Hb3.out.setCell (p := ⟨g, q * 9 + 4, none⟩) hwg _⟩
  · rw [show ((8 : Nat) : Int) = 8 from rfl] at e9 e9t
    have ew : IntKind.u8.wrap 4 = 4 := by rfl
    go_wp2_with fail
    refine wp_region_floats 10 [7, 8] [] [(0, true), (1, true), (2, true), (3, true), (4, true), (5, true), (6, true), (7, true), (8, true), (9, true)] (by kernel_rfl) (by kernel_rfl) ⟨by simp, by simp, fun _ h => by cases h⟩ (fun _ _ _ _ _ h => h) (fun _ _ o _ _ h => by cases o <;> exact h) ?_
    iterate 7
      refine wpG_yield (v := ?_) rfl rfl (by rfl) ?_ ?_
      rotate_left
      · intro y hy
        have y0 := (hy.cell (p := ⟨w.heap.size, 0, none⟩) hlp).trans c0
        have y2 := (hy.cell (p := ⟨w.heap.size, 2, none⟩) hlp).trans c2'
        go_simp
        try rw [ew, if_pos (by decide), show q * 9 + 1 + (4 : Int).toNat = q * 9 + 5 from rfl]
        all_goals with_reducible rfl
      try simp only [Act.put, List.setIfInBounds_toArray, List.set_cons_zero, List.set_cons_succ]
    iterate 2
      refine wpG_pure (v := ?_) rfl (by rfl) ?_ ?_
      rotate_left
      · intro y
        go_simp
        with_reducible rfl
      try simp only [Act.put, List.setIfInBounds_toArray, List.set_cons_zero, List.set_cons_succ]
    iterate 1
      refine wpG_yield (v := ?_) rfl rfl (by rfl) ?_ ?_
      rotate_left
      · intro y hy
        have y0 := (hy.cell (p := ⟨w.heap.size, 0, none⟩) hlp).trans c0
        have y2 := (hy.cell (p := ⟨w.heap.size, 2, none⟩) hlp).trans c2'
        go_simp
        try rw [ew, if_pos (by decide), show q * 9 + 1 + (4 : Int).toNat = q * 9 + 5 from rfl]
        all_goals with_reducible rfl
      try simp only [Act.put, List.setIfInBounds_toArray, List.set_cons_zero, List.set_cons_succ]
    refine wpG_nil0 (l := [_]) rfl (fun w3 hb3 => ?_)
    have hb3' : Below w2.heap.size w2 w3 := below_undrew (k := 1) hb3
    have Hr3 := Lib.hid (Hrr.out.go opdOkR hb3')
    have y1 := (hb3'.cell (p := ⟨g, q * 9 + 5, none⟩) hgl).trans z5
    have k1 : w3.frozen? ⟨g, q * 9 + 5, none⟩ = false := by rw [← f5]; simp only [World.frozen?, hb3'.block g hgl]
    have Hb3 := Lib.hid (Hb2.out.trans (hb3'.mono (by have := Hb2.out.size; omega)))
    clear hb3 hb3' ew
    go_wp2_with fail
    have hrr := rr_cell (f := 5) (x' := { x with ag := [a0, a1, a2', a3, N] }) Hr3.out Hj.out Ha.out (b0 := a0) (b1 := a1) (b2 := a2') (b3 := a3) (b4 := N) rfl (by omega) (v := .int .i64 N) rfl
    go_ret
    exact ⟨_, _, _, _, rfl, hrr, by omega, Hb3.out.setCell (p := ⟨g, q * 9 + 5, none⟩) hwg _⟩
end Go.Proofs.YtpicmhbjiaegpaaGreatDoor

namespace Go.Proofs.YtpicmhbjiaegpaaGreatDoor
open Go.RowKit

structure Bnd where
  wh : Nat
  at' : Nat
  N : Int
  nm : List UInt8
structure BndOk (b : Bnd) : Prop where
  wh : b.wh < 256
  at' : b.at' < 256
theorem index_3s (a0 a1 a2 : Option Addr) (n0 n1 n2 c0 c1 c2 : Nat) (w : World) : (Instr.index 41 (.agg #[.slice a0 n0 c0, .slice a1 n1 c1, .slice a2 n2 c2]) (.int .i64 0)).run Tryz.prog w = .ok (.slice a0 n0 c0) w ∧ (Instr.index 41 (.agg #[.slice a0 n0 c0, .slice a1 n1 c1, .slice a2 n2 c2]) (.int .i64 1)).run Tryz.prog w = .ok (.slice a1 n1 c1) w ∧ (Instr.index 41 (.agg #[.slice a0 n0 c0, .slice a1 n1 c1, .slice a2 n2 c2]) (.int .i64 2)).run Tryz.prog w = .ok (.slice a2 n2 c2) w := by
  refine ⟨?_, ?_, ?_⟩ <;> kernel_rfl
theorem opdsOk_names {l : List Opd} (h : opdsOk l = true) : ∀ x ∈ l, x.nm.length ≤ 9223372036854775807 := by
  intro x hx
  have h1 := (opdsOk_all h).2 x hx
  unfold opdOk at h1
  cases hk : kindsOf x.nm with
  | none => rw [hk] at h1; cases h1
  | some ks => have := (kinds_pos hk).1; omega
set_option maxRecDepth 100000 in
set_option maxHeartbeats 3200000 in
theorem checks_walk (l : List Opd) (d : List Drf) (b : Bnd) (a a2 : Option Addr) (n c n2 c2 : Nat) (w : World) (h : RR OpdR 9 (fun b => b < w.heap.size) w a n c l) (hn : n ≤ 9223372036854775807) (hln : ∀ x ∈ l, x.nm.length ≤ 9223372036854775807)
    (h2 : RR DrfR 9 (fun b => b < w.heap.size) w a2 n2 c2 d) (hn2 : n2 ≤ 9223372036854775807) (hb : BndOk b) (hm : b.nm.length ≤ 9223372036854775807) (hld : ∀ x ∈ d, DrfOk x) (hg : GW w) :
    Calls Tryz.prog 4 #[.slice a n c, .slice a2 n2 c2, .agg #[.int .u8 (b.wh : Int), .int .u8 (b.at' : Int), .int .i64 b.N, .string (bs b.nm)]] w (RetB w (.bool true)) := by
  obtain ⟨hb1, hb2⟩ := hb
  generalize b.wh = wh at *
  generalize b.at' = at' at *
  generalize b.N = N at *
  generalize b.nm = nm at *
  have hok := (opsOf_ok hld).1
  have hnames := opdsOk_names hok
  have hown14 := opsOf_len d
  have hal := (Below.refl w.heap.size w).alloc (Nat.le_refl _) (.cells #[.int .u8 (wh : Int), .int .u8 (at' : Int), .int .i64 N, .string (bs nm)] 39)
  have hP := heap_alloc_new w (.cells #[.int .u8 (wh : Int), .int .u8 (at' : Int), .int .i64 N, .string (bs nm)] 39)
  have hPs : w.heap.size < (w.alloc (.cells #[.int .u8 (wh : Int), .int .u8 (at' : Int), .int .i64 N, .string (bs nm)] 39)).heap.size := by simp
  have H := Lib.hid (h.go opdOkR hal); have H2 := Lib.hid (h2.go drfOk hal)
  have HP := Lib.hid hP; have Hal := Lib.hid hal; have Hg := Lib.hid (hg.below hal); have Hnames := Lib.hid hnames; have Hln := Lib.hid hln
  clear h h2 hg hal hP hld hok hnames hln
  go_enter Tryz.func4, Tryz.ntmps4
  go_wp2_with fail
  generalize (w.alloc (.cells #[.int .u8 (wh : Int), .int .u8 (at' : Int), .int .i64 N, .string (bs nm)] 39)) = w1 at *
  refine (works_any w1 Hg.out).mono ?_
  rintro e w2 ⟨rfl, hb2⟩
  have H_2 := Lib.hid (H.out.go opdOkR hb2); have H2_2 := Lib.hid (H2.out.go drfOk hb2); have Hb2 := Lib.hid (Hal.out.trans (hb2.mono Hal.out.size)); have HP2 := Lib.hid ((hb2.block w.heap.size hPs).trans HP.out)
  have Hg2 := Lib.hid (Hg.out.below hb2); have hs2 := hb2.size
  clear hb2 H H2 HP Hg Hal
  go_wp2_with fail
  refine (operands_any d a2 n2 c2 w2 H2_2.out hn2).mono ?_
  rintro e w3 ⟨a3, n3, c3, rfl, hr3, hb3⟩
  have hn3 := rr_len hr3
  have H_3 := Lib.hid (H_2.out.go opdOkR hb3); have Hb3 := Lib.hid (Hb2.out.trans (hb3.mono Hb2.out.size)); have HP3 := Lib.hid ((hb3.block w.heap.size (by omega)).trans HP2.out)
  have Hg3 := Lib.hid (Hg2.out.below hb3); have hs3 := hb3.size; have Hr3 := Lib.hid hr3
  clear hr3 hb3 H_2 H2_2 HP2 Hg2 Hb2
  go_wp2_with fail
  have hPl := lt_of_block HP3.out
  have p0 : w3.cell? ⟨w.heap.size, 0, none⟩ = some (.int .u8 (wh : Int)) := obj_cell HP3.out 0
  have p1 : w3.cell? ⟨w.heap.size, 1, none⟩ = some (.int .u8 (at' : Int)) := obj_cell HP3.out 1
  have p2 : w3.cell? ⟨w.heap.size, 2, none⟩ = some (.int .i64 N) := obj_cell HP3.out 2
  have p3 : w3.cell? ⟨w.heap.size, 3, none⟩ = some (.string (bs nm)) := obj_cell HP3.out 3
  have hn314 : n3 ≤ 14 := by omega
  have Hn3 := Lib.hid hn3
  clear hn3 hown14
  refine wp_region_floats 8 [] [] [(0, true), (2, true), (3, true), (4, true), (7, true), (1, false), (5, false), (6, true)] (by kernel_rfl) (by kernel_rfl) ⟨by simp, by simp, fun _ h => by cases h⟩ (fun _ _ _ _ _ h => h) (fun _ _ o _ _ h => by cases o <;> exact h) ?_
  iterate 5
    refine wpG_yield (v := ?_) rfl rfl (by rfl) ?_ ?_
    rotate_left
    · intro y hy
      have z0 := (hy.cell (p := ⟨w.heap.size, 0, none⟩) hPl).trans p0
      have z1 := (hy.cell (p := ⟨w.heap.size, 1, none⟩) hPl).trans p1
      have z2 := (hy.cell (p := ⟨w.heap.size, 2, none⟩) hPl).trans p2
      have z3 := (hy.cell (p := ⟨w.heap.size, 3, none⟩) hPl).trans p3
      go_simp
      with_reducible rfl
    try simp only [Act.put, List.setIfInBounds_toArray, List.set_cons_zero, List.set_cons_succ]
  refine wpG_step rfl rfl (fun x1 hx1 K hK => ?_)
  go_simp
  have hx1' : Below w3.heap.size w3 x1 := below_undrew (k := 1) hx1
  refine (few_any l a n c x1 (H_3.out.go opdOkR hx1') hn Hln.out).mono ?_
  rintro e w4 ⟨a4, n4, c4, rfl, hown4, hn4, hb4⟩
  refine hK _ _ hb4 ?_
  clear hK K
  have hb4' := hx1'.trans (hb4.mono hx1'.size)
  have hn414 : n4 ≤ 14 := by have := few_len l; omega
  have hr4 := hown4.rr opdOkR
  have Hr4 := Lib.hid hr4; have Hb4 := Lib.hid (Hb3.out.trans (hb4'.mono Hb3.out.size)); have Hg4 := Lib.hid (Hg3.out.below hb4'); have Hr3_4 := Lib.hid (Hr3.out.go opdOkR hb4')
  clear hx1 hx1' hb4 hb4' hown4 hn4 hr4 Hb3 Hg3 Hr3 H_3 HP3 p0 p1 p2 p3
  generalize fewL l = L4 at *
  try simp only [Act.put, List.setIfInBounds_toArray, List.set_cons_zero, List.set_cons_succ]
  refine wpG_step rfl rfl (fun x2 hx2 K hK => ?_)
  go_simp
  refine (bend_any wh at' N nm (opsOf d) a3 n3 c3 x2 (Hr3_4.out.go opdOkR hx2) (by omega) Hnames.out hb1 hb2 hm).mono ?_
  rintro e w5 ⟨a5, n5, c5, L5, rfl, hr5, hn5, hb5⟩
  refine hK _ _ hb5 ?_
  clear hK K
  have hb5' := hx2.trans (hb5.mono hx2.size)
  have Hr4_5 := Lib.hid (Hr4.out.go opdOkR hb5'); have Hb5 := Lib.hid (Hb4.out.trans (hb5'.mono Hb4.out.size)); have Hg5 := Lib.hid (Hg4.out.below hb5'); have Hr3_5 := Lib.hid (Hr3_4.out.go opdOkR hb5'); have Hr5 := Lib.hid hr5
  clear hx2 hb5 hb5' hr5 Hb4 Hg4 Hr3_4 Hr4
  try simp only [Act.put, List.setIfInBounds_toArray, List.set_cons_zero, List.set_cons_succ]
  refine wpG_yield (v := ?_) rfl rfl (by rfl) ?_ ?_
  rotate_left
  · intro y hy
    go_simp
    with_reducible rfl
  try simp only [Act.put, List.setIfInBounds_toArray, List.set_cons_zero, List.set_cons_succ]
  refine wpG_nil0 (l := []) rfl (fun w6 hb6 => ?_)
  have hix : ∀ k : Nat, k < 3 → ∃ (ak : Option Addr) (nk ck : Nat) (Lk : List Opd), nk ≤ 14 ∧ RR OpdR 9 (fun b => b < w6.heap.size) w6 ak nk ck Lk ∧ ∀ w, (Instr.index 41 (.agg #[.slice a4 n4 c4, .slice a3 n3 c3, .slice a5 n5 c5]) (.int .i64 (k : Int))).run Tryz.prog w = .ok (.slice ak nk ck) w := by
    intro k hk
    have hw : k = 0 ∨ k = 1 ∨ k = 2 := by omega
    rcases hw with rfl | rfl | rfl
    · exact ⟨a4, n4, c4, _, hn414, Hr4_5.out.go opdOkR hb6, fun w => (index_3s _ _ _ _ _ _ _ _ _ w).1⟩
    · exact ⟨a3, n3, c3, _, hn314, Hr3_5.out.go opdOkR hb6, fun w => (index_3s _ _ _ _ _ _ _ _ _ w).2.1⟩
    · exact ⟨a5, n5, c5, _, hn5, Hr5.out.go opdOkR hb6, fun w => (index_3s _ _ _ _ _ _ _ _ _ w).2.2⟩
  have Hix := Lib.hid hix; have Hr3_6 := Lib.hid (Hr3_5.out.go opdOkR hb6); have Hb6 := Lib.hid (Hb5.out.trans (hb6.mono Hb5.out.size)); have Hg6 := Lib.hid (Hg5.out.below hb6)
  clear hix hb6 Hb5 Hg5 Hr3_5 Hr4_5 Hr5
  generalize Value.agg #[.slice a4 n4 c4, .slice a3 n3 c3, .slice a5 n5 c5] = V at *
  go_wp2_with fail
  go_loopw [25] (fun iv wr => ∃ k : Nat, k ≤ 3 ∧ iv = .int .i64 (k : Int) ∧ Below w6.heap.size w6 wr ∧ GW wr) (fun iv _ => 3 - (intOf iv).toNat)
  case atStart => exact ⟨0, by omega, rfl, Below.refl _ _, Hg6.out⟩
  case round =>
    obtain ⟨k, hk, rfl, hb, hgr⟩ := hrel
    have Hb := Lib.hid hb; have Hgr := Lib.hid hgr
    clear hb hgr Hg6
    by_cases hk3 : k < 3
    · obtain ⟨ak, nk, ck, Lk, hnk, hrk, hi⟩ := Hix.out k hk3
      have Hk := Lib.hid (hrk.go opdOkR Hb.out); have Ho := Lib.hid (Hr3_6.out.go opdOkR Hb.out)
      clear hrk
      go_wp2_with fail
      refine (oText_any Lk ak nk ck wr Hk.out (by omega) Hgr.out).mono ?_
      rintro e w7 ⟨rfl, hb7⟩
      have Hk7 := Lib.hid (Hk.out.go opdOkR hb7); have Ho7 := Lib.hid (Ho.out.go opdOkR hb7); have Hb7 := Lib.hid (Hb.out.trans (hb7.mono Hb.out.size)); have Hg7 := Lib.hid (Hgr.out.below hb7)
      clear hb7 Hk Ho Hb Hgr hi
      go_wp2_with fail
      refine (text33_any Lk ak nk ck w7 Hk7.out (by omega)).mono ?_
      rintro e w8 ⟨rfl, hb8⟩
      have Hk8 := Lib.hid (Hk7.out.go opdOkR hb8); have Ho8 := Lib.hid (Ho7.out.go opdOkR hb8); have Hb8 := Lib.hid (Hb7.out.trans (hb8.mono Hb7.out.size)); have Hg8 := Lib.hid (Hg7.out.below hb8)
      clear hb8 Hk7 Ho7 Hb7 Hg7
      go_wp2_with fail
      refine (check_any Lk ak nk ck w8 Hk8.out (by omega)).mono ?_
      rintro e w9 ⟨rfl, hb9⟩
      have Hk9 := Lib.hid (Hk8.out.go opdOkR hb9); have Ho9 := Lib.hid (Ho8.out.go opdOkR hb9); have Hb9 := Lib.hid (Hb8.out.trans (hb9.mono Hb8.out.size)); have Hg9 := Lib.hid (Hg8.out.below hb9)
      clear hb9 Hk8 Ho8 Hb8 Hg8
      go_wp2_with fail
      refine (check33_any Lk ak nk ck w9 Hk9.out (by omega)).mono ?_
      rintro e w10 ⟨rfl, hb10⟩
      have Hk10 := Lib.hid (Hk9.out.go opdOkR hb10); have Ho10 := Lib.hid (Ho9.out.go opdOkR hb10); have Hb10 := Lib.hid (Hb9.out.trans (hb10.mono Hb9.out.size)); have Hg10 := Lib.hid (Hg9.out.below hb10)
      clear hb10 Hk9 Ho9 Hb9 Hg9
      go_wp2_with fail
      refine (osame_any Lk (opsOf d) ak a3 nk n3 ck c3 w10 Hk10.out Ho10.out (by omega) (by omega)).mono ?_
      rintro e w11 ⟨rfl, hb11⟩
      have Hk11 := Lib.hid (Hk10.out.go opdOkR hb11); have Ho11 := Lib.hid (Ho10.out.go opdOkR hb11); have Hb11 := Lib.hid (Hb10.out.trans (hb11.mono Hb10.out.size)); have Hg11 := Lib.hid (Hg10.out.below hb11)
      clear hb11 Hk10 Ho10 Hb10 Hg10
      go_wp2_with fail
      refine (same33_any Lk (opsOf d) ak a3 nk n3 ck c3 w11 Hk11.out Ho11.out (by omega) (by omega)).mono ?_
      rintro e w12 ⟨rfl, hb12⟩
      have Hb12 := Lib.hid (Hb11.out.trans (hb12.mono Hb11.out.size)); have Hg12 := Lib.hid (Hg11.out.below hb12)
      clear hb12 Hk11 Ho11 Hb11 Hg11
      generalize decide (Lk = opsOf d) = D at *
      generalize textB Lk = TB at *
      generalize checkE Lk = CE at *
      go_wp2_with fail
      go_roundw
      case rel => exact ⟨k + 1, by omega, by go_num, Hb12.out, Hg12.out⟩
      case measure => simp [intOf]; omega
    · obtain rfl : k = 3 := by omega
      rw [show ((3 : Nat) : Int) = 3 from rfl]
      go_wp2_with fail
      go_ret
      exact ⟨rfl, Hb6.out.trans (Hb.out.mono Hb6.out.size)⟩
end Go.Proofs.YtpicmhbjiaegpaaGreatDoor

namespace Go.Proofs.YtpicmhbjiaegpaaGreatDoor
open Go.ChangeShapes Go.WideShapes Go.ChangeAt Go.RowKit

section
variable {H : Type} {enc : TypeId × Value → H} {w : World} {base : Nat} {sp : Nat → Bool} {held : Bool} {cs : List Value}
def OpdN : Rep Opd := fun S w x cs => OpdR S w x cs ∧ x.nm.length ≤ 9223372036854775807
theorem rd_opd (h : Rd enc Tryz.prog w base sp held 50 cs) : ∃ x : Opd, OpdN (fun b => b < w.heap.size) w x cs := by
  have hl : cs.length = 9 := (rd_len Tryz.underlying50 h).trans (by kernel_rfl)
  match cs, hl with
  | [c0, c1, c2, c3, c4, c5, c6, c7, c8], _ =>
    obtain ⟨nm, el, rnm⟩ := rd_str Tryz.underlying9 (rd_field Tryz.underlying50 h 0 (ty := 9) (off := 0) (n := 1) rfl (by kernel_rfl))
    obtain rfl : c0 = .string (bs nm) := by simpa using el
    have ha := rd_field Tryz.underlying50 h 1 (ty := 48) (off := 1) (n := 5) rfl (by kernel_rfl)
    obtain ⟨a0, e0, _⟩ := rd_ai64 Tryz.underlying48 Tryz.underlying3 (by kernel_rfl) (by kernel_rfl) ha 0 (by omega)
    obtain ⟨a1, e1, _⟩ := rd_ai64 Tryz.underlying48 Tryz.underlying3 (by kernel_rfl) (by kernel_rfl) ha 1 (by omega)
    obtain ⟨a2, e2, _⟩ := rd_ai64 Tryz.underlying48 Tryz.underlying3 (by kernel_rfl) (by kernel_rfl) ha 2 (by omega)
    obtain ⟨a3, e3, _⟩ := rd_ai64 Tryz.underlying48 Tryz.underlying3 (by kernel_rfl) (by kernel_rfl) ha 3 (by omega)
    obtain ⟨a4, e4, _⟩ := rd_ai64 Tryz.underlying48 Tryz.underlying3 (by kernel_rfl) (by kernel_rfl) ha 4 (by omega)
    obtain rfl : c1 = .int .i64 a0 := by simpa using e0
    obtain rfl : c2 = .int .i64 a1 := by simpa using e1
    obtain rfl : c3 = .int .i64 a2 := by simpa using e2
    obtain rfl : c4 = .int .i64 a3 := by simpa using e3
    obtain rfl : c5 = .int .i64 a4 := by simpa using e4
    obtain ⟨rel, rfl, _⟩ := rd_i64 Tryz.underlying3 (rd_field Tryz.underlying50 h 2 (ty := 3) (off := 6) (n := 1) rfl (by kernel_rfl))
    obtain ⟨tg, rfl, _⟩ := rd_i64 Tryz.underlying3 (rd_field Tryz.underlying50 h 3 (ty := 3) (off := 7) (n := 1) rfl (by kernel_rfl))
    obtain ⟨wt, rfl, _⟩ := rd_i64 Tryz.underlying3 (rd_field Tryz.underlying50 h 4 (ty := 3) (off := 8) (n := 1) rfl (by kernel_rfl))
    exact ⟨⟨nm, [a0, a1, a2, a3, a4], rel, tg, wt⟩, ⟨a0, a1, a2, a3, a4, rfl, rfl⟩, rnm⟩
theorem ops_of {t : TypeId} (ht : Tryz.prog.underlying t = some (.slice 50)) (h : Rd enc Tryz.prog w base sp held t cs) :
    ∃ (p : Ptr) (l : List Opd), cs = [.slice p.a p.n p.c] ∧ p.n ≤ 9223372036854775807 ∧ RR OpdR 9 (fun b => b < w.heap.size) w p.a p.n p.c l ∧ ∀ x ∈ l, x.nm.length ≤ 9223372036854775807 := by
  obtain ⟨p, l, h1, h2, h3⟩ := rd_row (R := OpdN) (m := 9) ht (by kernel_rfl) (by omega) (fun cs2 _ h2 => rd_opd h2) h
  obtain ⟨g1, g2, g3⟩ := h3
  refine ⟨p, l, h1, h2, ⟨g1, g2, fun hp => ?_⟩, fun x hx => ?_⟩
  · obtain ⟨b, off, e, hb, hel⟩ := g3 hp
    refine ⟨b, off, e, hb, fun i x hx => ?_⟩
    obtain ⟨cs', ⟨h5, _⟩, h6⟩ := hel i x hx
    exact ⟨cs', h5, h6⟩
  · obtain ⟨i, hi, rfl⟩ := List.getElem_of_mem hx
    obtain ⟨b, off, _, _, hel⟩ := g3 (by omega)
    obtain ⟨cs', ⟨_, h5⟩, _⟩ := hel i l[i] (List.getElem?_eq_getElem hi)
    exact h5
theorem rd_bnd (h : Rd enc Tryz.prog w base sp held 39 cs) : ∃ p : Bnd, cs = [.int .u8 (p.wh : Int), .int .u8 (p.at' : Int), .int .i64 p.N, .string (bs p.nm)] ∧ BndOk p ∧ p.nm.length ≤ 9223372036854775807 := by
  have hl : cs.length = 4 := (rd_len Tryz.underlying39 h).trans (by kernel_rfl)
  match cs, hl with
  | [c0, c1, c2, c3], _ =>
    obtain ⟨x, rfl, rx⟩ := rd_u8 Tryz.underlying5 (rd_field Tryz.underlying39 h 0 (ty := 5) (off := 0) (n := 1) rfl (by kernel_rfl))
    obtain ⟨y, rfl, ry⟩ := rd_u8 Tryz.underlying5 (rd_field Tryz.underlying39 h 1 (ty := 5) (off := 1) (n := 1) rfl (by kernel_rfl))
    obtain ⟨z, rfl, _⟩ := rd_i64 Tryz.underlying3 (rd_field Tryz.underlying39 h 2 (ty := 3) (off := 2) (n := 1) rfl (by kernel_rfl))
    obtain ⟨l, el, rl⟩ := rd_str Tryz.underlying9 (rd_field Tryz.underlying39 h 3 (ty := 9) (off := 3) (n := 1) rfl (by kernel_rfl))
    obtain rfl : c3 = .string (bs l) := by simpa using el
    exact ⟨⟨x, y, z, l⟩, rfl, ⟨rx, ry⟩, rl⟩
end
end Go.Proofs.YtpicmhbjiaegpaaGreatDoor
