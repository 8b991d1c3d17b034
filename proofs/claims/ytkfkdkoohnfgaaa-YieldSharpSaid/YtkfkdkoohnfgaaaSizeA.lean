/-
  DERIVED. The walks of package long's sizes, first part: Trim, Cmp.
-/
import Derived.Test.YtkfkdkoohnfgaaaBase
namespace Go.Proofs.Ytkfkdkoohnfgaaa
open Go.RowKit

/-- Trim, at digits: the digits of the value. -/
def RetTrim (w : World) (a : Option Addr) (c : Nat) (zs : List Int) (e : Ending) (w' : World) : Prop :=
  ∃ k, e = .returned (.slice a k c) ∧ k ≤ zs.length ∧ zs.take k = digs (val zs).toNat ∧ w = w'

set_option maxHeartbeats 400000 in
theorem trim_any (zs : List Int) (a : Option Addr) (n c : Nat) (w : World) (h : SL w.heap.size w a n c zs) (hd : Dig zs) (hn : n ≤ 1000000000) :
    Calls Try.prog 72 #[.slice a n c] w (RetTrim w a c zs) := by
  have Hd := Lib.hid hd; have H := Lib.hid h; have hcap := h.cap; clear hd h
  go_enter Try.func72, Try.ntmps72
  go_wp2
  go_loop [0] (fun v => ∃ k : Nat, k ≤ n ∧ val (zs.take k) = val zs ∧ v = .slice a k c) (fun v => match v with | .slice _ n _ => n | _ => 0)
  case atStart => exact ⟨n, Nat.le_refl _, by rw [H.out.len, List.take_length], rfl⟩
  case round =>
    obtain ⟨k, hk, ht, rfl⟩ := hrel
    have Ht := Lib.hid ht; clear ht
    by_cases h0 : k = 0
    · subst h0
      go_wp2
      go_ret
      refine ⟨0, rfl, Nat.zero_le _, ?_, rfl⟩
      exact digs_of_take (n := (val zs).toNat) Hd.out (by omega) (Or.inl rfl) (by rw [Ht.out, Int.toNat_of_nonneg (val_nonneg Hd.out)])
    · obtain ⟨k, rfl⟩ : ∃ i, k = i + 1 := ⟨k - 1, by omega⟩
      obtain ⟨hl, _, ga⟩ := H.out
      obtain ⟨b, off, rfl, _, ca⟩ := ga (by omega)
      have g1 := ca k (by omega)
      have Hl := Lib.hid hl
      clear ca ga h0 hl
      by_cases hz : zs.getD k 0 = 0
      · have Hz := Lib.hid hz
        rw [hz] at g1; clear hz
        go_wp2
        go_round
        case rel => exact ⟨k, by omega, by rw [← val_take_zero (by have := Hl.out; omega) Hz.out, Ht.out], rfl⟩
        case measure => simp
      · have Hz := Lib.hid hz
        have hz' : (zs.getD k 0 == 0) = false := by simpa using hz
        clear hz
        generalize hx : zs.getD k 0 = x at g1 hz'
        have Hx := Lib.hid hx; clear hx
        go_wp2
        go_ret
        refine ⟨k + 1, rfl, by have := Hl.out; omega, ?_, rfl⟩
        exact digs_of_take (n := (val zs).toNat) Hd.out (by have := Hl.out; omega) (Or.inr (by simpa using Hz.out)) (by rw [Ht.out, Int.toNat_of_nonneg (val_nonneg Hd.out)])

set_option maxHeartbeats 400000 in
theorem cmp_len (a b : Option Addr) (n m c d : Nat) (w : World) (hn : n ≤ 1000000000) (hm : m ≤ 1000000000) (hne : n ≠ m) :
    Calls Try.prog 54 #[.slice a n c, .slice b m d] w (RetQ w (.int .i64 ((n : Int) - m))) := by
  have h1 : ((n : Int) != m) = true := by simp; omega
  clear hne
  go_enter Try.func54, Try.ntmps54
  go_wp2
  go_ret
  exact ⟨rfl, 0, rfl⟩

set_option maxHeartbeats 400000 in
theorem cmp_same (xs ys : List Int) (a b : Option Addr) (n c d : Nat) (w : World) (ha : SL w.heap.size w a n c xs) (hb : SL w.heap.size w b n d ys) (hn : n ≤ 1000000000) (hx : Dig xs) (hy : Dig ys) :
    Calls Try.prog 54 #[.slice a n c, .slice b n d] w (RetQ w (.int .i64 (cmpTo xs ys n))) := by
  have Ha := Lib.hid ha; have Hb := Lib.hid hb; clear ha hb
  have Hx := Lib.hid hx; have Hy := Lib.hid hy; clear hx hy
  go_enter Try.func54, Try.ntmps54
  go_wp2
  go_loopw [5] (fun v wr => ∃ k j : Nat, k ≤ n ∧ v = .int .i64 ((k : Int) - 1) ∧ cmpTo xs ys n = cmpTo xs ys k ∧ wr = w.drewN j) (fun v _ => (intOf v + 1).toNat)
  case atStart => exact ⟨n, 0, Nat.le_refl _, by go_num, rfl, rfl⟩
  case round =>
    obtain ⟨k, j, hk, rfl, ht, rfl⟩ := hrel
    have Ht := Lib.hid ht; clear ht
    by_cases h0 : k = 0
    · subst h0
      go_wp2
      go_ret
      exact ⟨by rw [Ht.out]; rfl, _, rfl⟩
    · obtain ⟨k, rfl⟩ : ∃ i, k = i + 1 := ⟨k - 1, by omega⟩
      obtain ⟨_, _, ga⟩ := Ha.out
      obtain ⟨ba, oa, rfl, _, ca⟩ := ga (by omega)
      obtain ⟨_, _, gb⟩ := Hb.out
      obtain ⟨bb, ob, rfl, _, cb⟩ := gb (by omega)
      have g1 := ca k (by omega)
      have g3 := cb k (by omega)
      have g2 : (((k + 1 : Nat) : Int) - 1) = (k : Int) := by omega
      rw [g2]
      have g4 : (k : Int) < n := by omega
      have hxk := Hx.out.all k
      have hyk := Hy.out.all k
      clear g2 ca cb ga gb h0
      generalize hxx : xs.getD k 0 = x at *
      generalize hyy : ys.getD k 0 = y at *
      have Hxx := Lib.hid hxx; have Hyy := Lib.hid hyy; clear hxx hyy
      go_wp2
      go_quiet (fail)
      go_wp2
      · go_quiet (fail)
        go_wp2
        go_ret
        have hne : (x != y) = true := by assumption
        refine ⟨?_, by simp only [World.drewN_drewN]; exact ⟨_, rfl⟩⟩
        show Ending.returned (.int .i64 (x - y)) = _
        rw [Ht.out]
        simp only [cmpTo, Hxx.out, Hyy.out]
        rw [if_neg (by simpa using hne)]
      · have hne : (x != y) = false := by assumption
        have hne' : x = y := by simpa using hne
        have Hne := Lib.hid hne'; clear hne' hne
        go_roundw
        case rel =>
          refine ⟨k, _, by omega, rfl, ?_, rfl⟩
          rw [Ht.out]
          simp only [cmpTo, Hxx.out, Hyy.out]
          rw [if_pos Hne.out]
        case measure => simp [intOf]

theorem cmp_any (xs ys : List Int) (a b : Option Addr) (n m c d : Nat) (w : World) (ha : SL w.heap.size w a n c xs) (hb : SL w.heap.size w b m d ys) (hn : n ≤ 1000000000) (hm : m ≤ 1000000000) (hx : Dig xs) (hy : Dig ys) :
    Calls Try.prog 54 #[.slice a n c, .slice b m d] w (RetQ w (.int .i64 (cmpS xs ys))) := by
  by_cases h : n = m
  · subst h
    have := cmp_same xs ys a b n c d w ha hb hn hx hy
    unfold cmpS
    rw [if_pos (by rw [← ha.len, ← hb.len]), ← ha.len]
    exact this
  · have := cmp_len a b n m c d w hn hm h
    unfold cmpS
    rw [if_neg (by rw [← ha.len, ← hb.len]; exact h), ← ha.len, ← hb.len]
    exact this

end Go.Proofs.Ytkfkdkoohnfgaaa
