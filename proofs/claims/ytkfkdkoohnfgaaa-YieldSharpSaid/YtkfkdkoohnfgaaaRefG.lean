/-
  DERIVED. The walks of the reference's long integers, seventh part: Prod.
-/
import Derived.Test.YtkfkdkoohnfgaaaRefF
namespace Go.Proofs.Ytkfkdkoohnfgaaa
open Go.RowKit

/-- the digits of a product, behind i whole rounds -/
def R0 (xs ys : List Int) (i : Nat) (out : List Int) : Prop :=
  out.length = xs.length + ys.length ∧ Dig out ∧ val out = val (xs.take i) * val ys
/-- in round i, behind k digits -/
def R1 (xs ys : List Int) (i k : Nat) (out : List Int) : Prop :=
  out.length = xs.length + ys.length ∧ Dig out ∧ val out = val (xs.take i) * val ys + xs.getD i 0 * val (ys.take k) * 1000000000 ^ i
/-- in round i, at digit k, with t to be laid from place j on -/
def R2 (xs ys : List Int) (i k j : Nat) (t : Int) (out : List Int) : Prop :=
  out.length = xs.length + ys.length ∧ Dig out ∧ 0 ≤ t ∧ t ≤ 999999998000000001 ∧ val out + t * 1000000000 ^ j = val (xs.take i) * val ys + xs.getD i 0 * val (ys.take (k + 1)) * 1000000000 ^ i

theorem R0.start (xs ys : List Int) : R0 xs ys 0 (List.replicate (xs.length + ys.length) 0) := by
  refine ⟨by simp, fun j _ => ?_, ?_⟩
  · simp only [List.getD_eq_getElem?_getD, List.getElem?_replicate]; split <;> simp
  · rw [val_replicate]; simp [val]
theorem R0.row {xs ys out : List Int} {i : Nat} (h : R0 xs ys i out) : R1 xs ys i 0 out := ⟨h.1, h.2.1, by rw [h.2.2]; simp [val]⟩
theorem R1.done {xs ys out : List Int} {i : Nat} (h : R1 xs ys i ys.length out) : R0 xs ys (i + 1) out := by
  refine ⟨h.1, h.2.1, ?_⟩
  rw [h.2.2, val_take_next, List.take_length, Int.add_mul, Int.mul_assoc, Int.mul_assoc, Int.mul_comm (1000000000 ^ i)]
theorem R1.dig {xs ys out : List Int} {i k : Nat} (h : R1 xs ys i k out) (hx : Dig xs) (hy : Dig ys) : R2 xs ys i k (i + k) (xs.getD i 0 * ys.getD k 0) out := by
  obtain ⟨h1, h2, h3⟩ := h
  have b := mul_bounds (hx.all i) (hy.all k)
  refine ⟨h1, h2, b.1, b.2, ?_⟩
  rw [h3, val_take_next, Int.mul_add, Int.add_mul, Int.pow_add, Int.add_assoc]
  congr 2
  rw [Int.mul_assoc, Int.mul_assoc, Int.mul_assoc, Int.mul_comm (1000000000 ^ i)]
theorem R2.done {xs ys out : List Int} {i k j : Nat} (h : R2 xs ys i k j 0 out) : R1 xs ys i (k + 1) out := ⟨h.1, h.2.1, by have := h.2.2.2.2; omega⟩
theorem R2.step {xs ys out : List Int} {i k j : Nat} {t : Int} (h : R2 xs ys i k j t out) (hj : j < out.length) :
    R2 xs ys i k (j + 1) ((t + out.getD j 0) / 1000000000) (out.set j ((t + out.getD j 0) % 1000000000)) := by
  obtain ⟨h1, h2, h3, h4, h5⟩ := h
  have a := h2.all j
  refine ⟨by simpa using h1, fun q _ => ?_, by omega, by omega, ?_⟩
  · rw [getD_set]; split
    · omega
    · exact h2.all q
  · rw [val_set hj, ← h5, Int.pow_succ]
    generalize out.getD j 0 = z at *
    generalize (1000000000 : Int) ^ j = p
    have e : (t + z) % 1000000000 - z + (t + z) / 1000000000 * 1000000000 = t := by omega
    rw [Int.mul_comm p 1000000000, ← Int.mul_assoc, Int.add_assoc, ← Int.add_mul, e]

theorem val_take_le {l : List Int} (h : Dig l) (k : Nat) : val (l.take k) ≤ val l := by
  have e : val l = val (l.take k) + 1000000000 ^ (l.take k).length * val (l.drop k) := by rw [← val_append, List.take_append_drop]
  have p : (0 : Int) ≤ 1000000000 ^ (l.take k).length := Int.pow_nonneg (by decide)
  have := Int.mul_nonneg p (val_nonneg (h.drop k))
  omega

/-- what is left to be laid lies within the product -/
theorem R2.within {xs ys out : List Int} {i k j : Nat} {t : Int} (h : R2 xs ys i k j t out) (hx : Dig xs) (hy : Dig ys) (ht : 0 < t) : j < xs.length + ys.length := by
  obtain ⟨h1, h2, h3, h4, h5⟩ := h
  apply Decidable.byContradiction
  intro hc
  have e1 : val (xs.take i) * val ys + xs.getD i 0 * val (ys.take (k + 1)) * 1000000000 ^ i ≤ val (xs.take (i + 1)) * val ys := by
    have p : (0 : Int) ≤ 1000000000 ^ i := Int.pow_nonneg (by decide)
    rw [val_take_next xs i, Int.add_mul, Int.mul_assoc (xs.getD i 0) (1000000000 ^ i), Int.mul_assoc, Int.mul_comm (1000000000 ^ i) (val ys)]
    have := Int.mul_le_mul_of_nonneg_left (Int.mul_le_mul_of_nonneg_right (val_take_le hy (k + 1)) p) (hx.all i).1
    omega
  have e2 : val (xs.take (i + 1)) * val ys ≤ val xs * val ys := Int.mul_le_mul_of_nonneg_right (val_take_le hx _) (val_nonneg hy)
  have e3 : val xs * val ys < 1000000000 ^ (xs.length + ys.length) := by
    rw [Int.pow_add]
    have p1 := val_lt hx
    have p2 := val_lt hy
    have n1 := val_nonneg hx
    have n2 := val_nonneg hy
    have q : (0 : Int) < 1000000000 ^ ys.length := Int.pow_pos (by decide)
    calc val xs * val ys ≤ val xs * 1000000000 ^ ys.length := Int.mul_le_mul_of_nonneg_left (by omega) n1
      _ < 1000000000 ^ xs.length * 1000000000 ^ ys.length := Int.mul_lt_mul_of_pos_right p1 q
  have e4 : (1000000000 : Int) ^ (xs.length + ys.length) ≤ t * 1000000000 ^ j := by
    have q1 : (1000000000 : Int) ^ (xs.length + ys.length) ≤ 1000000000 ^ j := by
      have := Nat.pow_le_pow_right (n := 1000000000) (by decide) (show xs.length + ys.length ≤ j by omega)
      have := Int.ofNat_le.2 this
      rw [Int.natCast_pow, Int.natCast_pow] at this
      exact this
    have q0 : (0 : Int) < 1000000000 ^ j := Int.pow_pos (by decide)
    have : 1 * 1000000000 ^ j ≤ t * 1000000000 ^ j := Int.mul_le_mul_of_nonneg_right (by omega) (by omega)
    omega
  have e5 := val_nonneg h2
  omega

theorem prod_sign (x y : Int) : x * y = if (decide (x < 0) != decide (y < 0)) = true then -((x.natAbs : Int) * y.natAbs) else (x.natAbs : Int) * y.natAbs := by
  by_cases hx : x < 0
  · by_cases hy : y < 0
    · rw [decide_eq_true hx, decide_eq_true hy, if_neg (by decide), show (x.natAbs : Int) = -x by omega, show (y.natAbs : Int) = -y by omega, Int.neg_mul_neg]
    · rw [decide_eq_true hx, decide_eq_false hy, if_pos (by decide), show (x.natAbs : Int) = -x by omega, show (y.natAbs : Int) = y by omega, Int.neg_mul, Int.neg_neg]
  · by_cases hy : y < 0
    · rw [decide_eq_false hx, decide_eq_true hy, if_pos (by decide), show (x.natAbs : Int) = x by omega, show (y.natAbs : Int) = -y by omega, Int.mul_neg, Int.neg_neg]
    · rw [decide_eq_false hx, decide_eq_false hy, if_neg (by decide), show (x.natAbs : Int) = x by omega, show (y.natAbs : Int) = y by omega]

set_option maxRecDepth 100000 in
set_option maxHeartbeats 1600000 in
theorem prod_any (s t : Bool) (x y : Int) (a b : Option Addr) (n m c d : Nat) (w : World) (ha : LG w.heap.size w s a n c x) (hb : LG w.heap.size w t b m d y) (hfit : (digs (x * y).natAbs).length ≤ 600) :
    Calls Try.prog 75 #[.agg #[.bool s, .slice a n c], .agg #[.bool t, .slice b m d]] w (RetL1 w (x * y)) := by
  have hn := ha.2.2
  have hm := hb.2.2
  have Ha := Lib.hid ha; have Hb := Lib.hid hb; have Hfit := Lib.hid hfit; clear ha hb hfit
  go_enter Try.func75, Try.ntmps75
  go_wp2_with (refine wpList_make_ints rfl (.tmp 16) (.tmp 16) 49 rfl Try.underlying49 ((n : Int) + m) (n + m) rfl rfl (by omega) (by omega) ?_)
  intro w1 hblk hb1
  have hb1' : Below (((w.alloc (.cells #[.bool s, .slice a n c] 51)).alloc (.cells #[.bool t, .slice b m d] 51)).alloc (.cells #[.bool false, .slice none 0 0] 51)).heap.size
    (((w.alloc (.cells #[.bool s, .slice a n c] 51)).alloc (.cells #[.bool t, .slice b m d] 51)).alloc (.cells #[.bool false, .slice none 0 0] 51)) w1 := by simpa using hb1
  obtain ⟨e1, e2, e3, hs1, hw1⟩ := three_boxes hb1'
  clear hb1 hb1'
  have hgg : w.heap.size + 2 < w.heap.size + 1 + 1 + 1 := by omega
  have hgb : w.heap.size + 1 + 1 + 1 ≤ w.heap.size + 3 := by omega
  generalize w.heap.size + 1 + 1 + 1 = g at *
  have hax := Ha.out.2.1
  have hby := Hb.out.2.1
  have hdx := dig_digs x.natAbs
  have hdy := dig_digs y.natAbs
  have hvx := val_digs x.natAbs
  have hvy := val_digs y.natAbs
  have hlx := hax.len
  have hly := hby.len
  have hsg : s = decide (x < 0) ∧ t = decide (y < 0) := ⟨Ha.out.1, Hb.out.1⟩
  generalize digs x.natAbs = xs at *
  generalize digs y.natAbs = ys at *
  obtain rfl := hlx
  obtain rfl := hly
  have Hdx := Lib.hid hdx; have Hdy := Lib.hid hdy; have Hvx := Lib.hid hvx; have Hvy := Lib.hid hvy
  have Hax := Lib.hid hax; have Hby := Lib.hid hby; have Hsg := Lib.hid hsg; have Hgg := Lib.hid hgg; have Hgb := Lib.hid hgb
  have E1 := Lib.hid e1; have E2 := Lib.hid e2; have E3 := Lib.hid e3
  clear hax hby hdx hdy hvx hvy hsg Ha Hb e1 e2 e3 hgg hgb
  go_wp2_with fail
  go_loopw [6] (fun v wr => ∃ (i : Nat) (out : List Int), i ≤ xs.length ∧ v = .int .i64 i ∧ Blk wr g out ∧ R0 xs ys i out ∧ Below g w1 wr) (fun v _ => xs.length - (intOf v).toNat)
  case atStart => exact ⟨0, _, Nat.zero_le _, rfl, hblk, R0.start xs ys, Below.refl _ _⟩
  case round =>
    clear hblk
    obtain ⟨i, out, hi, rfl, hblk, hp, hbw⟩ := hrel
    have g1 := (hbw.block w.heap.size (by have := Hgg.out; omega)).trans E1.out
    have g2 := (hbw.block (w.heap.size + 1) (by have := Hgg.out; omega)).trans E2.out
    have g3 := (hbw.block (w.heap.size + 2) (by have := Hgg.out; omega)).trans E3.out
    obtain ⟨q1, q2, _, _⟩ := cells_at g1
    obtain ⟨q3, q4, _, _⟩ := cells_at g2
    obtain ⟨q5, q6, q7, q8⟩ := cells_at g3
    clear g1 g2 g3
    by_cases hin : i < xs.length
    · obtain ⟨wo, rfl⟩ : ∃ wo : World, wo = wr := ⟨_, rfl⟩
      go_wp2_with fail
      clear q1 q2 q3 q4 q5 q6 q7 q8
      go_loopw [7] (fun v wr => ∃ (k : Nat) (out : List Int), k ≤ ys.length ∧ v = .int .i64 k ∧ Blk wr g out ∧ R1 xs ys i k out ∧ Below g w1 wr) (fun v _ => ys.length - (intOf v).toNat)
      case atStart => exact ⟨0, _, Nat.zero_le _, rfl, hblk, hp.row, hbw⟩
      case round =>
        clear hblk hp hbw
        obtain ⟨k, out, hk, rfl, hblk, hp, hbw⟩ := hrel
        have g1 := (hbw.block w.heap.size (by have := Hgg.out; omega)).trans E1.out
        have g2 := (hbw.block (w.heap.size + 1) (by have := Hgg.out; omega)).trans E2.out
        obtain ⟨q1, q2, _, _⟩ := cells_at g1
        obtain ⟨q3, q4, _, _⟩ := cells_at g2
        clear g1 g2
        by_cases hkm : k < ys.length
        · obtain ⟨ba, oa, rfl, hba, ca⟩ := Hax.out.at (by omega)
          obtain ⟨bb, ob, rfl, hbb, cb⟩ := Hby.out.at (by omega)
          have hwr := hw1.trans (hbw.mono (by have := Hgg.out; omega))
          have g1 := (hwr.cell (p := ⟨ba, oa + i, none⟩) hba).trans (ca i hin)
          have g2 := (hwr.cell (p := ⟨bb, ob + k, none⟩) hbb).trans (cb k hkm)
          have hxi := Hdx.out.all i
          have hyk := Hdy.out.all k
          have hq := hp.dig Hdx.out Hdy.out
          clear ca cb hba hbb hwr
          generalize hxx : xs.getD i 0 = xi at *
          generalize hyy : ys.getD k 0 = yk at *
          have Hxx := Lib.hid hxx; have Hyy := Lib.hid hyy; clear hxx hyy
          obtain ⟨hm1, hm2⟩ := mul_bounds hxi hyk
          obtain ⟨wo2, rfl⟩ : ∃ wo2 : World, wo2 = wr := ⟨_, rfl⟩
          go_wp2_with fail
          go_quiet (fail)
          go_wp2_with fail
          clear g1 g2 q1 q2 q3 q4
          go_loopw [8, 9] (fun tv jv wr => ∃ (j : Nat) (z : Int) (out : List Int), tv = .int .i64 z ∧ jv = .int .i64 (j : Int) ∧ Blk wr g out ∧ R2 xs ys i k j z out ∧ Below g w1 wr ∧ (0 < z → j < xs.length + ys.length)) (fun _ jv _ => xs.length + ys.length - (intOf jv).toNat)
          case atStart =>
            refine ⟨i + k, _, out, by rw [← Hxx.out, ← Hyy.out], by go_num, hblk, hp.dig Hdx.out Hdy.out, below_drewN hbw _, (hp.dig Hdx.out Hdy.out).within Hdx.out Hdy.out⟩
          case round =>
            clear hblk hp hbw hq
            obtain ⟨j, z, out, rfl, rfl, hblk, hp, hbw, hjz⟩ := hrel
            have hz0 := hp.2.2.1
            have hz1 := hp.2.2.2.1
            have hol : out.length = xs.length + ys.length := hp.1
            have Hol := Lib.hid hol; clear hol
            by_cases hz : 0 < z
            · have hj := hjz hz
              have g2 := hblk.cell (j := j) (by have := Hol.out; omega)
              have g3 := hblk.free j
              have hoj := hp.2.1.all j
              have hst := hp.step (by have := Hol.out; omega)
              generalize hoo : out.getD j 0 = o at *
              have Hoo := Lib.hid hoo; have Hst := Lib.hid hst; clear hoo hst hjz hp
              go_wp2
              go_roundw
              case rel =>
                refine ⟨j + 1, _, _, rfl, by go_num, hblk.set j (by have := Hol.out; omega) _, Hst.out, hbw.setCell (Nat.le_refl _) _, Hst.out.within Hdx.out Hdy.out⟩
              case measure => simp [intOf]; omega
            · obtain rfl : z = 0 := by omega
              go_wp2
              go_roundw
              case rel => exact ⟨k + 1, out, by omega, by go_num, hblk, hp.done, hbw⟩
              case measure => simp [intOf]; omega
        · obtain rfl : k = ys.length := by omega
          go_wp2
          go_roundw
          case rel => exact ⟨i + 1, out, by omega, by go_num, hblk, hp.done, hbw⟩
          case measure => simp [intOf]; omega
    · obtain rfl : i = xs.length := by omega
      obtain ⟨hol, hd, hv⟩ := hp
      rw [List.take_length] at hv
      have hsl := hblk.sl (c := xs.length + ys.length) (by omega)
      rw [hol] at hsl
      have hz : x * y = if s != t then -val out else val out := by
        obtain ⟨s1, s2⟩ := Hsg.out
        rw [hv, Hvx.out, Hvy.out, s1, s2]
        exact prod_sign x y
      have hdz : (digs (val out).toNat).length ≤ 600 := by
        have h1 := val_nonneg hd
        have : (val out).toNat = (x * y).natAbs := by rw [hz]; split <;> omega
        rw [this]; exact Hfit.out
      have Hz := Lib.hid hz; have Hdz := Lib.hid hdz; have Hd := Lib.hid hd; have Hsl := Lib.hid hsl; clear hz hdz hv hol hd hsl
      go_wp2_with fail
      refine (made_any (!(s == t)) out _ _ _ _ _ Hsl.out Hd.out (by omega) Hdz.out Hz.out).mono ?_
      rintro e w2 ⟨s', a', n', c', rfl, hlg, hb2, hf⟩
      have hlt : w.heap.size + 2 < wr.heap.size := by have := Hgg.out; have := hblk.lt; omega
      have k5 := (hb2.cell (p := ⟨w.heap.size + 2, 0, none⟩) hlt).trans q5
      have k6 := (hb2.cell (p := ⟨w.heap.size + 2, 1, none⟩) hlt).trans q6
      have k7 := (hb2.frozen (p := ⟨w.heap.size + 2, 0, none⟩) hlt).trans q7
      have k8 := (hb2.frozen (p := ⟨w.heap.size + 2, 1, none⟩) hlt).trans q8
      have hwr := hw1.trans (hbw.mono (by have := Hgg.out; omega))
      have Hlg := Lib.hid hlg; have Hf := Lib.hid hf; clear hlg hf
      go_wp2_with fail
      refine bodyPost_ret (v := .agg #[.bool s', .slice a' n' c']) ?_ rfl ?_
      · simp [results, Try.results75, go_sem, k5, k6]
      · exact refL1_mk Hlg.out (hwr.trans (hb2.mono hwr.size)) Hf.out (w.heap.size + 2) hlt (by omega) _ _

end Go.Proofs.Ytkfkdkoohnfgaaa
