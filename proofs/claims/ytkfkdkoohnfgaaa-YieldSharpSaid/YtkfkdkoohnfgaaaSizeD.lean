/-
  DERIVED. The walks of package long's sizes, fourth part: Times.
-/
import Derived.Test.YtkfkdkoohnfgaaaSizeC
namespace Go.Proofs.Ytkfkdkoohnfgaaa
open Go.RowKit

/-- Times, behind the first i digits -/
def T1 (xs ys : List Int) (i : Nat) (out : List Int) : Prop :=
  out.length = xs.length + ys.length ∧ (∀ j, 0 ≤ out.getD j 0 ∧ out.getD j 0 < 1000000000) ∧ (∀ j, i + ys.length ≤ j → out.getD j 0 = 0) ∧ val out = val (xs.take i) * val ys

/-- Times, in round i behind the first k digits -/
def T2 (xs ys : List Int) (i k : Nat) (carry : Int) (out : List Int) : Prop :=
  out.length = xs.length + ys.length ∧ (∀ j, 0 ≤ out.getD j 0 ∧ out.getD j 0 < 1000000000) ∧ (∀ j, i + ys.length ≤ j → out.getD j 0 = 0) ∧ 0 ≤ carry ∧ carry < 1000000000 ∧
    val out + carry * 1000000000 ^ (i + k) = val (xs.take i) * val ys + xs.getD i 0 * val (ys.take k) * 1000000000 ^ i

theorem T1.start (xs ys : List Int) : T1 xs ys 0 (List.replicate (xs.length + ys.length) 0) := by
  have e : ∀ j, (List.replicate (xs.length + ys.length) (0 : Int)).getD j 0 = 0 := fun j => by
    simp only [List.getD_eq_getElem?_getD, List.getElem?_replicate]; split <;> rfl
  refine ⟨by simp, fun j => by rw [e]; omega, fun j _ => e j, ?_⟩
  rw [val_replicate]; simp [val]

theorem T2.start {xs ys out : List Int} {i : Nat} (h : T1 xs ys i out) : T2 xs ys i 0 0 out := by
  obtain ⟨h1, h2, h3, h4⟩ := h
  exact ⟨h1, h2, h3, by omega, by omega, by rw [h4]; simp [val]⟩

theorem mul_bounds {x y : Int} (hx : 0 ≤ x ∧ x < 1000000000) (hy : 0 ≤ y ∧ y < 1000000000) : 0 ≤ x * y ∧ x * y ≤ 999999998000000001 := by
  refine ⟨Int.mul_nonneg hx.1 hy.1, ?_⟩
  have a : x * y ≤ 999999999 * y := Int.mul_le_mul_of_nonneg_right (by omega) hy.1
  omega

theorem T2.step {xs ys out : List Int} {i k : Nat} {carry : Int} (h : T2 xs ys i k carry out) (hx : Dig xs) (hy : Dig ys) (hi : i < xs.length) (hk : k < ys.length) :
    T2 xs ys i (k + 1) ((out.getD (i + k) 0 + xs.getD i 0 * ys.getD k 0 + carry) / 1000000000) (out.set (i + k) ((out.getD (i + k) 0 + xs.getD i 0 * ys.getD k 0 + carry) % 1000000000)) := by
  obtain ⟨h1, h2, h3, h4, h5, h6⟩ := h
  have a := h2 (i + k)
  have b := mul_bounds (hx.all i) (hy.all k)
  generalize hn : out.getD (i + k) 0 + xs.getD i 0 * ys.getD k 0 + carry = n
  have hb : 0 ≤ n ∧ n ≤ 999999999999999999 := by omega
  refine ⟨by simpa using h1, fun j => ?_, fun j hj => ?_, by omega, by omega, ?_⟩
  · rw [getD_set]; split
    · omega
    · exact h2 j
  · rw [getD_set, if_neg (by omega)]; exact h3 j hj
  · rw [val_set (by omega), val_take_succ hk, show i + (k + 1) = (i + k) + 1 by omega, Int.pow_succ]
    have e : (n / 1000000000) * (1000000000 ^ (i + k) * 1000000000) = (1000000000 * (n / 1000000000)) * 1000000000 ^ (i + k) := by
      rw [Int.mul_comm (1000000000 ^ (i + k)) 1000000000, ← Int.mul_assoc, Int.mul_comm (n / 1000000000)]
    have e2 : (n % 1000000000 - out.getD (i + k) 0) * 1000000000 ^ (i + k) + (1000000000 * (n / 1000000000)) * 1000000000 ^ (i + k) = (n - out.getD (i + k) 0) * 1000000000 ^ (i + k) := by
      rw [← Int.add_mul]; congr 1; omega
    have e3 : (n - out.getD (i + k) 0) * 1000000000 ^ (i + k) = carry * 1000000000 ^ (i + k) + xs.getD i 0 * ys.getD k 0 * 1000000000 ^ (i + k) := by
      rw [← Int.add_mul]; congr 1; omega
    have e4 : xs.getD i 0 * (val (ys.take k) + ys.getD k 0 * 1000000000 ^ k) * 1000000000 ^ i = xs.getD i 0 * val (ys.take k) * 1000000000 ^ i + xs.getD i 0 * ys.getD k 0 * 1000000000 ^ (i + k) := by
      rw [Int.mul_add, Int.add_mul, Int.pow_add, ← Int.mul_assoc (xs.getD i 0) (ys.getD k 0), Int.mul_assoc (_ * _) (1000000000 ^ k), Int.mul_comm (1000000000 ^ k) (1000000000 ^ i)]
    rw [e4]
    omega

theorem T2.done {xs ys out : List Int} {i : Nat} {carry : Int} (h : T2 xs ys i ys.length carry out) (hi : i < xs.length) : T1 xs ys (i + 1) (out.set (i + ys.length) carry) := by
  obtain ⟨h1, h2, h3, h4, h5, h6⟩ := h
  refine ⟨by simpa using h1, fun j => ?_, fun j hj => ?_, ?_⟩
  · rw [getD_set]; split
    · omega
    · exact h2 j
  · rw [getD_set, if_neg (by omega)]; exact h3 j (by omega)
  · rw [val_set (by omega), h3 _ (Nat.le_refl _), val_take_succ hi, Int.sub_zero, h6, List.take_length, Int.add_mul, Int.mul_assoc (xs.getD i 0), Int.mul_assoc (xs.getD i 0), Int.mul_comm (val ys) (1000000000 ^ i)]

set_option maxRecDepth 100000 in
set_option maxHeartbeats 1000000 in
theorem times_raw (xs ys : List Int) (a b : Option Addr) (n m c d : Nat) (w : World) (ha : SL w.heap.size w a n c xs) (hb : SL w.heap.size w b m d ys) (hn : n ≤ 1000000) (hm : m ≤ 1000000) (hx : Dig xs) (hy : Dig ys) :
    Calls Try.prog 57 #[.slice a n c, .slice b m d] w (RetS w (digs (val xs * val ys).toNat)) := by
  have Ha := Lib.hid ha; have Hb := Lib.hid hb
  obtain rfl := ha.len
  obtain rfl := hb.len
  have Hx := Lib.hid hx; have Hy := Lib.hid hy; clear hx hy ha hb
  go_enter Try.func57, Try.ntmps57
  go_wp2_with (refine wpList_make_ints rfl (.tmp 16) (.tmp 16) 84 rfl Try.underlying84 ((xs.length : Int) + ys.length) (xs.length + ys.length) rfl rfl (by omega) (by omega) ?_)
  intro w1 hblk hb1
  generalize hgB : w.heap.size = g at *
  have HgB := Lib.hid hgB; clear hgB
  go_wp2_with fail
  go_loopw [20] (fun v wr => ∃ (i : Nat) (out : List Int), i ≤ xs.length ∧ v = .int .i64 i ∧ Blk wr g out ∧ T1 xs ys i out ∧ Below g w wr) (fun v _ => xs.length - (intOf v).toNat)
  case atStart => exact ⟨0, _, Nat.zero_le _, rfl, hblk, T1.start xs ys, hb1⟩
  case round =>
    clear hblk hb1
    obtain ⟨i, out, hi, rfl, hblk, hp, hbw⟩ := hrel
    by_cases hin : i < xs.length
    · obtain ⟨_, _, ga⟩ := Ha.out
      obtain ⟨ba, oa, rfl, hba, ca⟩ := ga (by omega)
      have hba' : ba < g := hba
      have g1 := (hbw.cell (p := ⟨ba, oa + i, none⟩) hba').trans (ca i hin)
      have hxi := Hx.out.all i
      clear ga ca hba
      generalize hxx : xs.getD i 0 = x at *
      have Hxx := Lib.hid hxx; clear hxx
      obtain ⟨wo, rfl⟩ : ∃ wo : World, wo = wr := ⟨_, rfl⟩
      go_wp2_with fail
      clear g1
      go_loopw [8, 27] (fun cv v wr => ∃ (k : Nat) (carry : Int) (out : List Int), k ≤ ys.length ∧ v = .int .i64 k ∧ cv = .int .i64 carry ∧ Blk wr g out ∧ T2 xs ys i k carry out ∧ Below g w wr) (fun _ v _ => ys.length - (intOf v).toNat)
      case atStart => exact ⟨0, 0, _, Nat.zero_le _, rfl, rfl, hblk, T2.start hp, hbw⟩
      case round =>
        clear hblk hp hbw
        obtain ⟨k, carry, out, hk, rfl, rfl, hblk, hp, hbw⟩ := hrel
        have hol : out.length = xs.length + ys.length := hp.1
        have Hol := Lib.hid hol; clear hol
        have hc0 := hp.2.2.2.1
        have hc1 := hp.2.2.2.2.1
        by_cases hkm : k < ys.length
        · obtain ⟨_, _, gb⟩ := Hb.out
          obtain ⟨bb, ob, rfl, hbb, cb⟩ := gb (by omega)
          have hbb' : bb < g := hbb
          have g1 := (hbw.cell (p := ⟨bb, ob + k, none⟩) hbb').trans (cb k hkm)
          have g2 := hblk.cell (j := i + k) (by have := Hol.out; omega)
          have g3 := hblk.free (i + k)
          have hyk := Hy.out.all k
          have hok := hp.2.1 (i + k)
          clear gb cb hbb
          generalize hyy : ys.getD k 0 = y at *
          generalize hoo : out.getD (i + k) 0 = z at *
          have Hyy := Lib.hid hyy; have Hoo := Lib.hid hoo; clear hyy hoo
          have hmul := mul_bounds hxi hyk
          obtain ⟨hm1, hm2⟩ := hmul
          go_wp2
          go_roundw
          case rel =>
            refine ⟨k + 1, _, _, by omega, by go_num, rfl, hblk.set (i + k) (by have := Hol.out; omega) _, ?_, hbw.setCell (Nat.le_refl _) _⟩
            have := hp.step Hx.out Hy.out hin hkm
            rw [Hxx.out, Hyy.out, Hoo.out] at this
            exact this
          case measure => simp [intOf]; omega
        · obtain rfl : k = ys.length := by omega
          have g3 := hblk.free (i + ys.length)
          have g2 := hblk.cell (j := i + ys.length) (by have := Hol.out; omega)
          go_wp2
          go_roundw
          case rel => exact ⟨i + 1, _, by omega, by go_num, hblk.set (i + ys.length) (by have := Hol.out; omega) carry, hp.done hin, hbw.setCell (Nat.le_refl _) _⟩
          case measure => simp [intOf]; omega
    · obtain rfl : i = xs.length := by omega
      obtain ⟨hol, hd, _, hv⟩ := hp
      have Hol := Lib.hid hol; have Hv := Lib.hid hv; clear hol hv
      have hsl := hblk.sl (c := xs.length + ys.length) (by have := Hol.out; omega)
      rw [Hol.out] at hsl
      go_wp2_with fail
      refine (trim_any out _ _ _ _ hsl (fun j _ => hd j) (by omega)).mono ?_
      rintro e w' ⟨q, rfl, hq, hqd, rfl⟩
      have Hqd := Lib.hid hqd; clear hqd
      have Hq := Lib.hid hq; clear hq
      go_wp2
      go_ret
      refine ⟨_, _, _, rfl, ?_, by rw [HgB.out]; exact hbw, Fresh.mk (by rw [HgB.out]; omega) _⟩
      have := hsl.pre (k := q) (by have := Hq.out; have := Hol.out; omega)
      rw [Hqd.out, Hv.out, List.take_length] at this
      exact this

theorem times_any (x y : Nat) (a b : Option Addr) (n m c d : Nat) (w : World) (ha : SL w.heap.size w a n c (digs x)) (hb : SL w.heap.size w b m d (digs y)) (hn : n ≤ 1000000) (hm : m ≤ 1000000) :
    Calls Try.prog 57 #[.slice a n c, .slice b m d] w (RetS w (digs (x * y))) := by
  have := times_raw _ _ a b n m c d w ha hb hn hm (dig_digs x) (dig_digs y)
  rw [val_digs, val_digs, ← Int.natCast_mul, Int.toNat_natCast] at this
  exact this
end Go.Proofs.Ytkfkdkoohnfgaaa
