/-
  DERIVED. The walks of package long's sizes, eighth part: Common (the greatest common divisor).
-/
import Derived.Test.YtkfkdkoohnfgaaaSizeG
import Derived.Deep.LoopGhost
namespace Go.Proofs.Ytkfkdkoohnfgaaa
open Go.RowKit

/-- a call that gives back one size, in whatever memory -/
def RetC (w : World) (z : Nat) (e : Ending) (w' : World) : Prop :=
  ∃ a n c, e = .returned (.slice a n c) ∧ SL w'.heap.size w' a n c (digs z) ∧ Below w.heap.size w w'

set_option maxRecDepth 100000 in
set_option maxHeartbeats 800000 in
theorem common_any (x y : Nat) (a b : Option Addr) (n m c d : Nat) (w : World) (ha : SL w.heap.size w a n c (digs x)) (hb : SL w.heap.size w b m d (digs y)) (hn : n ≤ 100000) (hm : m ≤ 100000) :
    Calls Try.prog 68 #[.slice a n c, .slice b m d] w (RetC w (Nat.gcd x y)) := by
  have Ha := Lib.hid ha; have Hb := Lib.hid hb; clear ha hb
  go_enter Try.func68, Try.ntmps68
  go_wp2_with fail
  go_loopg [0, 1] y (fun k av bv wr => ∃ (p q : Nat) (a' : Option Addr) (n' c' : Nat) (b' : Option Addr) (m' d' : Nat), av = .slice a' n' c' ∧ bv = .slice b' m' d' ∧ n' ≤ 100000 ∧ m' ≤ 100000 ∧ q ≤ k ∧ SL wr.heap.size wr a' n' c' (digs p) ∧ SL wr.heap.size wr b' m' d' (digs q) ∧ Nat.gcd p q = Nat.gcd x y ∧ Below w.heap.size w wr)
  case atStart => exact ⟨x, y, a, n, c, b, m, d, rfl, rfl, hn, hm, Nat.le_refl _, Ha.out, Hb.out, rfl, Below.refl _ _⟩
  case round =>
    obtain ⟨p, q, a', n', c', b', m', d', rfl, rfl, hn', hm', hqk, ha, hb, hg, hbw⟩ := hrel
    have hml := hb.len
    have Ha' := Lib.hid ha; have Hb' := Lib.hid hb; have Hg := Lib.hid hg; have Hbw := Lib.hid hbw
    by_cases h0 : m' = 0
    · subst h0
      have hq0 : q = 0 := digs_len_zero.1 hml.symm
      clear ha hb hg hbw hml
      go_wp2
      go_ret
      exact ⟨_, _, _, rfl, by rw [← Hg.out, hq0, Nat.gcd_zero_right]; exact Ha'.out, Hbw.out⟩
    · have hq0 : 0 < q := by
        rcases Nat.eq_zero_or_pos q with h | h
        · rw [h, digs_zero] at hml; simp at hml; omega
        · exact h
      have Hml := Lib.hid hml
      clear ha hb hg hbw hml
      go_wp2_with fail
      refine (over_any p q a' b' n' m' c' d' _ Ha'.out Hb'.out hn' hm' hq0).mono ?_
      rintro e w2 ⟨a2, n2, c2, a3, n3, c3, rfl, _, hs3, hb2, _⟩
      have hbw2 := Hbw.out.trans (hb2.mono Hbw.out.size)
      have hb' := Hb'.out.go hb2
      have hn3 : n3 ≤ 100000 := by
        have h1 := hs3.len
        have h2 := length_digs_mono (Nat.le_of_lt (Nat.mod_lt p hq0))
        have h3 := Hml.out
        omega
      have hg2 : Nat.gcd q (p % q) = Nat.gcd x y := by rw [← Hg.out, Nat.gcd_comm q, ← Nat.gcd_rec, Nat.gcd_comm]
      have hlt := Nat.mod_lt p hq0
      have Hs3 := Lib.hid hs3; have Hbw2 := Lib.hid hbw2; have Hb2 := Lib.hid hb'; have Hg2 := Lib.hid hg2; have Hlt := Lib.hid hlt
      clear hs3 hbw2 hb' hg2 hb2 hlt
      go_wp2_with fail
      go_roundg (p % q)
      case measure => have := Hlt.out; omega
      case rel => exact ⟨q, p % q, _, _, _, _, _, _, rfl, rfl, hm', hn3, Nat.le_refl _, Hb2.out, Hs3.out, Hg2.out, Hbw2.out⟩

end Go.Proofs.Ytkfkdkoohnfgaaa
