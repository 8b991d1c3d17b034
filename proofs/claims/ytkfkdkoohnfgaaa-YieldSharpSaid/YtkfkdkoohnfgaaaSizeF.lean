/-
  DERIVED. The walks of package long's sizes, sixth part: less, more (they change a part of a block in place).
-/
import Derived.Test.YtkfkdkoohnfgaaaSizeE
import Derived.Test.YtkfkdkoohnfgaaaDivNum
import Derived.Test.YtkfkdkoohnfgaaaOnly
namespace Go.Proofs.Ytkfkdkoohnfgaaa
open Go.RowKit

/-- us, from place j on another part -/
def spl (us : List Int) (j : Nat) (out : List Int) : List Int := us.take j ++ out ++ us.drop (j + out.length)

theorem spl_len {us out : List Int} {j : Nat} (h : j + out.length ≤ us.length) : (spl us j out).length = us.length := by
  simp [spl]; omega
theorem spl_get {us out : List Int} {j i : Nat} (h : j + out.length ≤ us.length) (hi : i < out.length) : (spl us j out).getD (j + i) 0 = out.getD i 0 := by
  simp only [spl, List.getD_eq_getElem?_getD]
  rw [List.append_assoc, List.getElem?_append_right (by simp; omega), List.getElem?_append_left (by simp; omega)]
  congr 2
  simp; omega
theorem spl_set {us out : List Int} {j i : Nat} (h : j + out.length ≤ us.length) (hi : i < out.length) (v : Int) : (spl us j out).set (j + i) v = spl us j (out.set i v) := by
  simp only [spl, List.length_set]
  rw [List.append_assoc, List.set_append_right _ _ (by simp; omega), List.set_append_left _ _ (by simp; omega), List.append_assoc]
  congr 3
  simp; omega
theorem spl_self {us : List Int} {j n : Nat} (h : j + n ≤ us.length) : spl us j ((us.drop j).take n) = us := by
  have h1 : ((us.drop j).take n).length = n := by simp; omega
  simp only [spl, h1]
  rw [List.append_assoc, ← List.drop_drop, List.take_append_drop, List.take_append_drop]
theorem dig_spl {us out : List Int} {j : Nat} (h1 : Dig us) (h2 : Dig out) : Dig (spl us j out) := ((h1.take j).append h2).append (h1.drop _)

theorem val_win (us : List Int) {j n : Nat} (h : j + n ≤ us.length) : val us = val (us.take j) + 1000000000 ^ j * (val ((us.drop j).take n) + 1000000000 ^ n * val (us.drop (j + n))) := by
  have h1 : (us.take j).length = j := by simp; omega
  have h2 : ((us.drop j).take n).length = n := by simp; omega
  have e1 := val_append (us.take j) (us.drop j)
  rw [List.take_append_drop, h1] at e1
  have e2 := val_append ((us.drop j).take n) ((us.drop j).drop n)
  rw [List.take_append_drop, h2, List.drop_drop] at e2
  rw [e1, e2]
theorem val_spl {us out : List Int} {j : Nat} (h : j + out.length ≤ us.length) : val (spl us j out) = val (us.take j) + 1000000000 ^ j * (val out + 1000000000 ^ out.length * val (us.drop (j + out.length))) := by
  have h1 : (us.take j).length = j := by simp; omega
  simp only [spl]
  rw [List.append_assoc, val_append, val_append, h1]

/-- the last place: what is borrowed there -/
theorem D1.last {rs ys out : List Int} {k cr : Int} (h : D1 rs ys k rs.length cr out) (hl : ys.length ≤ rs.length) : Dig out ∧ val out = val rs - k * val ys - cr * 1000000000 ^ rs.length := by
  obtain ⟨h1, h2, h3, h4, h5, h6⟩ := h
  rw [← h1, List.take_length, h1, List.take_length, val_take_all ys hl] at h4
  exact ⟨h2, by omega⟩

theorem D1.over {rs ys out : List Int} {k cr : Int} {i : Nat} (h : D1 rs ys k i cr out) (hy : Dig ys) (hk0 : 0 ≤ k) (hk1 : k < 1000000000) (hi : i < rs.length) (hl : ys.length ≤ i) :
    D1 rs ys k (i + 1) ((rs.getD i 0 + cr) / 1000000000) (out.set i ((rs.getD i 0 + cr) % 1000000000)) := by
  have hs := h.step hy hk0 hk1 hi
  have hz : ys.getD i 0 = 0 := by rw [List.getD_eq_getElem?_getD, List.getElem?_eq_none hl]; rfl
  rw [hz, Int.zero_mul, Int.sub_zero] at hs
  exact hs

/-- what less gives back -/
def RetLess (g : Nat) (us : List Int) (j n : Nat) (vs : List Int) (d : Int) (w : World) (e : Ending) (w' : World) : Prop :=
  ∃ (out : List Int) (cr : Int), e = .returned (.bool (decide (cr < 0))) ∧ -1 ≤ cr ∧ cr ≤ 0 ∧ out.length = n + 1 ∧ Dig out ∧ val out = val ((us.drop j).take (n + 1)) - d * val vs - cr * 1000000000 ^ (n + 1) ∧
    Blk w' g (spl us j out) ∧ OnlyB g w w'

set_option maxRecDepth 100000 in
set_option maxHeartbeats 1600000 in
theorem sless_any (g j : Nat) (us vs : List Int) (b : Option Addr) (n c cb : Nat) (d : Int) (w : World) (hu : Blk w g us) (hw : j + n + 1 ≤ us.length) (hul : us.length ≤ 1000000) (hb : SL w.heap.size w b n cb vs) (hne : ∀ b' off, b = some ⟨b', off, none⟩ → 0 < n → b' ≠ g)
    (hdu : Dig us) (hdv : Dig vs) (hd0 : 0 ≤ d) (hd1 : d < 1000000000) :
    Calls Try.prog 89 #[.slice (some ⟨g, j, none⟩) (n + 1) c, .slice b n cb, .int .i64 d] w (RetLess g us j n vs d w) := by
  have hn := hb.len
  have Hb := Lib.hid hb; have Hne := Lib.hid hne; have Hdu := Lib.hid hdu; have Hdv := Lib.hid hdv; clear hb hne hdu hdv
  have hrl : ((us.drop j).take (n + 1)).length = n + 1 := by simp; omega
  have hrd : Dig ((us.drop j).take (n + 1)) := (Hdu.out.drop j).take (n + 1)
  have hself : spl us j ((us.drop j).take (n + 1)) = us := spl_self (by omega)
  rw [← hself] at hu
  generalize hrs : (us.drop j).take (n + 1) = rs at *
  have Hrl := Lib.hid hrl; have Hrd := Lib.hid hrd; have Hrs := Lib.hid hrs; have Hn := Lib.hid hn; have Hu := Lib.hid hu
  clear hrl hrd hrs hself hn hu
  go_enter Try.func89, Try.ntmps89
  go_wp2_with fail
  go_loopw [7, 14] (fun bv iv wr => ∃ (i : Nat) (cr : Int) (out : List Int), i ≤ n ∧ iv = .int .i64 i ∧ bv = .int .i64 (-cr) ∧ Blk wr g (spl us j out) ∧ D1 rs vs d i cr out ∧ OnlyB g w wr) (fun _ iv _ => n - (intOf iv).toNat)
  case atStart => exact ⟨0, 0, rs, Nat.zero_le _, rfl, rfl, Hu.out, D1.start Hrd.out, OnlyB.refl _ _⟩
  case round =>
    obtain ⟨i, cr, out, hi, rfl, rfl, hblk, hp, ho⟩ := hrel
    have hol : out.length = n + 1 := by rw [hp.1]; exact Hrl.out
    have hcr0 := hp.2.2.2.2.1
    have hcr1 := hp.2.2.2.2.2
    have hoi := hp.2.2.1
    have Hol := Lib.hid hol; have Ho := Lib.hid ho; clear hol ho
    by_cases hin : i < n
    · obtain ⟨_, _, gb⟩ := Hb.out
      obtain ⟨bb, ob, rfl, hbb, cb⟩ := gb (by omega)
      have g1 := (Ho.out.cell (p := ⟨bb, ob + i, none⟩) (Hne.out bb ob rfl (by omega))).trans (cb i hin)
      have g2 := hblk.cell (j := j + i) (by rw [spl_len (by have := Hol.out; omega)]; omega)
      have g3 := hblk.free (j + i)
      rw [spl_get (by have := Hol.out; omega) (by have := Hol.out; omega), hoi i (Nat.le_refl _)] at g2
      have hvi := Hdv.out.all i
      have hri := Hrd.out.all i
      have hst := hp.step Hdv.out hd0 hd1 (by have := Hrl.out; omega)
      have hset := spl_set (us := us) (j := j) (i := i) (out := out) (by have := Hol.out; omega) (by have := Hol.out; omega)
      clear gb cb hbb hoi hp
      generalize hxx : vs.getD i 0 = x at *
      generalize hyy : rs.getD i 0 = y at *
      obtain ⟨hm1, hm2⟩ := mul_bounds hvi ⟨hd0, hd1⟩
      have Hst := Lib.hid hst; have Hset := Lib.hid hset; have Hxx := Lib.hid hxx; have Hyy := Lib.hid hyy; clear hst hset hxx hyy
      have hlen : (spl us j out).length = us.length := spl_len (by have := Hol.out; omega)
      have Hlen := Lib.hid hlen; clear hlen
      have fin : ∀ (V : Int) (w' : World) (m : Int), V = (y - x * d + cr) % 1000000000 → m = -((y - x * d + cr) / 1000000000) → w' = wr.setCell ⟨g, j + i, none⟩ (.int .i64 V) →
          ∃ (i' : Nat) (cr : Int) (out : List Int), i' ≤ n ∧ Value.int .i64 ((i : Int) + 1) = .int .i64 (i' : Int) ∧ Value.int .i64 m = .int .i64 (-cr) ∧ Blk w' g (spl us j out) ∧ D1 rs vs d i' cr out ∧ OnlyB g w w' := by
        intro V w' m h1 h2 h3
        subst h3
        refine ⟨i + 1, (y - x * d + cr) / 1000000000, out.set i ((y - x * d + cr) % 1000000000), by omega, by go_num, by rw [h2], ?_, Hst.out, Ho.out.set _ _⟩
        rw [← Hset.out, h1]
        exact hblk.set (j + i) (by rw [Hlen.out]; omega) _
      have Hfin := Lib.hid fin; clear fin
      by_cases c1 : 0 ≤ y - x * d % 1000000000 + cr
      · go_wp2
        go_roundw
        case rel => exact Hfin.out _ _ _ (by omega) (by omega) rfl
        case measure => simp [intOf]; omega
      · by_cases c2 : 0 ≤ y - x * d % 1000000000 + cr + 1000000000
        · go_wp2
          go_roundw
          case rel => exact Hfin.out _ _ _ (by omega) (by omega) rfl
          case measure => simp [intOf]; omega
        · go_wp2
          go_roundw
          case rel => exact Hfin.out _ _ _ (by omega) (by omega) rfl
          case measure => simp [intOf]; omega
    · obtain rfl : i = n := by omega
      have g2 := hblk.cell (j := j + i) (by rw [spl_len (by have := Hol.out; omega)]; omega)
      have g3 := hblk.free (j + i)
      rw [spl_get (by have := Hol.out; omega) (by have := Hol.out; omega), hoi i (Nat.le_refl _)] at g2
      have hri := Hrd.out.all i
      have hst := hp.over Hdv.out hd0 hd1 (by have := Hrl.out; omega) (by have := Hn.out; omega)
      have hset := spl_set (us := us) (j := j) (i := i) (out := out) (by have := Hol.out; omega) (by have := Hol.out; omega)
      have hlen : (spl us j out).length = us.length := spl_len (by have := Hol.out; omega)
      have Hlen := Lib.hid hlen; clear hlen
      clear hoi hp
      generalize hyy : rs.getD i 0 = y at *
      have Hst := Lib.hid hst; have Hset := Lib.hid hset; have Hyy := Lib.hid hyy; clear hst hset hyy
      have fin : ∀ (V : Int) (w' : World), V = (y + cr) % 1000000000 → Blk w' g (spl us j (out.set i V)) → OnlyB g w w' →
          RetLess g us j i vs d w (.returned (.bool (decide ((y + cr) / 1000000000 < 0)))) w' := by
        intro V w' h1 h3 h4
        subst h1
        have hl := Hst.out
        rw [← Hrl.out] at hl
        obtain ⟨q1, q2⟩ := hl.last (by have := Hn.out; have := Hrl.out; omega)
        refine ⟨_, _, rfl, by omega, by omega, by simpa using Hol.out, q1, ?_, h3, h4⟩
        rw [q2, Hrl.out, ← Hrs.out]
      have Hfin := Lib.hid fin; clear fin
      have hb1 := hblk.set (j + i) (by rw [Hlen.out]; omega) (y + cr)
      have ho1 := Ho.out.set (j + i) (.int .i64 (y + cr))
      have Hb1 := Lib.hid hb1; have Ho1 := Lib.hid ho1; clear hb1 ho1
      by_cases c1 : y + cr < 0
      · have hb2 := Hb1.out.set (j + i) (by simp only [List.length_set]; rw [Hlen.out]; omega) (y + cr + 1000000000)
        rw [List.set_set, Hset.out] at hb2
        have Hb2 := Lib.hid hb2; clear hb2
        go_wp2
        go_ret
        have h1 : (y + cr) / 1000000000 = -1 := by omega
        have := Hfin.out (y + cr + 1000000000) _ (by omega) Hb2.out (Ho1.out.set _ _)
        rw [h1] at this
        exact this
      · have hb2 := Hb1.out
        rw [Hset.out] at hb2
        have Hb2 := Lib.hid hb2; clear hb2
        go_wp2
        go_ret
        have h1 : (y + cr) / 1000000000 = 0 := by omega
        have := Hfin.out (y + cr) _ (by omega) Hb2.out Ho1.out
        rw [h1] at this
        exact this

/-- more, behind the first i places -/
def MA1 (rs ys : List Int) (i : Nat) (cr : Int) (out : List Int) : Prop :=
  out.length = rs.length ∧ Dig out ∧ (∀ j, i ≤ j → out.getD j 0 = rs.getD j 0) ∧ val (out.take i) + cr * 1000000000 ^ i = val (rs.take i) + val (ys.take i) ∧ 0 ≤ cr ∧ cr ≤ 1

theorem MA1.start {rs ys : List Int} (h : Dig rs) : MA1 rs ys 0 0 rs := ⟨rfl, h, fun _ _ => rfl, by simp [val], by omega, by omega⟩

theorem MA1.step {rs ys out : List Int} {cr : Int} {i : Nat} (h : MA1 rs ys i cr out) (hy : Dig ys) (hi : i < rs.length) :
    MA1 rs ys (i + 1) ((rs.getD i 0 + ys.getD i 0 + cr) / 1000000000) (out.set i ((rs.getD i 0 + ys.getD i 0 + cr) % 1000000000)) := by
  obtain ⟨h1, h2, h3, h4, h5, h6⟩ := h
  have a := h2.all i
  rw [h3 i (Nat.le_refl _)] at a
  have b := hy.all i
  refine ⟨by simpa using h1, fun j _ => ?_, fun j hj => ?_, ?_, by omega, by omega⟩
  · rw [getD_set]; split
    · omega
    · exact h2.all j
  · rw [getD_set, if_neg (by omega)]; exact h3 j (by omega)
  · rw [val_take_next, val_take_next, val_take_next, getD_set, if_pos ⟨rfl, by omega⟩, List.take_set_of_le (Nat.le_refl _)]
    generalize rs.getD i 0 = d at *
    generalize ys.getD i 0 = y at *
    generalize val (out.take i) = vo at *
    generalize val (rs.take i) = vr at *
    generalize val (ys.take i) = vy at *
    rw [Int.pow_succ]
    generalize (1000000000 : Int) ^ i = p at *
    have e : (d + y + cr) % 1000000000 * p + (d + y + cr) / 1000000000 * (p * 1000000000) = (d + y + cr) * p := by
      rw [Int.mul_comm p 1000000000, ← Int.mul_assoc, ← Int.add_mul]
      congr 1
      omega
    have e2 : (d + y + cr) * p = d * p + y * p + cr * p := by
      rw [Int.add_mul, Int.add_mul]
    omega

theorem MA1.last {rs ys out : List Int} {cr : Int} (h : MA1 rs ys rs.length cr out) (hl : ys.length ≤ rs.length) : Dig out ∧ val out = val rs + val ys - cr * 1000000000 ^ rs.length := by
  obtain ⟨h1, h2, h3, h4, h5, h6⟩ := h
  rw [← h1, List.take_length, h1, List.take_length, val_take_all ys hl] at h4
  exact ⟨h2, by omega⟩

/-- what more leaves -/
def RetMore (g : Nat) (us : List Int) (j n : Nat) (vs : List Int) (w : World) (e : Ending) (w' : World) : Prop :=
  ∃ (out : List Int) (cr : Int), e = .returned (.tuple #[]) ∧ 0 ≤ cr ∧ cr ≤ 1 ∧ out.length = n + 1 ∧ Dig out ∧ val out = val ((us.drop j).take (n + 1)) + val vs - cr * 1000000000 ^ (n + 1) ∧
    Blk w' g (spl us j out) ∧ OnlyB g w w'

set_option maxRecDepth 100000 in
set_option maxHeartbeats 1600000 in
theorem smore_any (g j : Nat) (us vs : List Int) (b : Option Addr) (n c cb : Nat) (w : World) (hu : Blk w g us) (hw : j + n + 1 ≤ us.length) (hul : us.length ≤ 1000000) (hb : SL w.heap.size w b n cb vs) (hne : ∀ b' off, b = some ⟨b', off, none⟩ → 0 < n → b' ≠ g)
    (hdu : Dig us) (hdv : Dig vs) :
    Calls Try.prog 90 #[.slice (some ⟨g, j, none⟩) (n + 1) c, .slice b n cb] w (RetMore g us j n vs w) := by
  have hn := hb.len
  have Hb := Lib.hid hb; have Hne := Lib.hid hne; have Hdu := Lib.hid hdu; have Hdv := Lib.hid hdv; clear hb hne hdu hdv
  have hrl : ((us.drop j).take (n + 1)).length = n + 1 := by simp; omega
  have hrd : Dig ((us.drop j).take (n + 1)) := (Hdu.out.drop j).take (n + 1)
  have hself : spl us j ((us.drop j).take (n + 1)) = us := spl_self (by omega)
  rw [← hself] at hu
  generalize hrs : (us.drop j).take (n + 1) = rs at *
  have Hrl := Lib.hid hrl; have Hrd := Lib.hid hrd; have Hrs := Lib.hid hrs; have Hn := Lib.hid hn; have Hu := Lib.hid hu
  clear hrl hrd hrs hself hn hu
  go_enter Try.func90, Try.ntmps90
  go_wp2_with fail
  go_loopw [4, 10] (fun bv iv wr => ∃ (i : Nat) (cr : Int) (out : List Int), i ≤ n ∧ iv = .int .i64 i ∧ bv = .int .i64 cr ∧ Blk wr g (spl us j out) ∧ MA1 rs vs i cr out ∧ OnlyB g w wr) (fun _ iv _ => n - (intOf iv).toNat)
  case atStart => exact ⟨0, 0, rs, Nat.zero_le _, rfl, rfl, Hu.out, MA1.start Hrd.out, OnlyB.refl _ _⟩
  case round =>
    obtain ⟨i, cr, out, hi, rfl, rfl, hblk, hp, ho⟩ := hrel
    have hol : out.length = n + 1 := by rw [hp.1]; exact Hrl.out
    have hcr0 := hp.2.2.2.2.1
    have hcr1 := hp.2.2.2.2.2
    have hoi := hp.2.2.1 i (Nat.le_refl _)
    have Hol := Lib.hid hol; have Ho := Lib.hid ho; clear hol ho
    have g2 := hblk.cell (j := j + i) (by rw [spl_len (by have := Hol.out; omega)]; omega)
    have g3 := hblk.free (j + i)
    rw [spl_get (by have := Hol.out; omega) (by have := Hol.out; omega), hoi] at g2
    have hri := Hrd.out.all i
    have hset := spl_set (us := us) (j := j) (i := i) (out := out) (by have := Hol.out; omega) (by have := Hol.out; omega)
    have hst := hp.step Hdv.out (by have := Hrl.out; omega)
    have hlen : (spl us j out).length = us.length := spl_len (by have := Hol.out; omega)
    have Hlen := Lib.hid hlen; have Hset := Lib.hid hset
    clear hlen hset hoi hp
    by_cases hin : i < n
    · obtain ⟨_, _, gb⟩ := Hb.out
      obtain ⟨bb, ob, rfl, hbb, cb⟩ := gb (by omega)
      have g1 := (Ho.out.cell (p := ⟨bb, ob + i, none⟩) (Hne.out bb ob rfl (by omega))).trans (cb i hin)
      have hvi := Hdv.out.all i
      clear gb cb hbb
      generalize hxx : vs.getD i 0 = x at *
      generalize hyy : rs.getD i 0 = y at *
      have Hst := Lib.hid hst; have Hxx := Lib.hid hxx; have Hyy := Lib.hid hyy; clear hst hxx hyy
      go_wp2
      go_roundw
      case rel =>
        refine ⟨i + 1, _, _, by omega, by go_num, rfl, ?_, Hst.out, Ho.out.set _ _⟩
        rw [← Hset.out]
        exact hblk.set (j + i) (by rw [Hlen.out]; omega) _
      case measure => simp [intOf]; omega
    · obtain rfl : i = n := by omega
      have hz : vs.getD i 0 = 0 := by rw [List.getD_eq_getElem?_getD, List.getElem?_eq_none (by rw [← Hn.out]; omega)]; rfl
      rw [hz, Int.add_zero] at hst
      generalize hyy : rs.getD i 0 = y at *
      have Hst := Lib.hid hst; have Hyy := Lib.hid hyy; clear hst hyy hz
      go_wp2
      refine bodyPost_end (v := .tuple #[]) ?_ rfl ?_
      · simp [results, Try.results90, go_sem]
      · have hl := Hst.out
        rw [← Hrl.out] at hl
        obtain ⟨q1, q2⟩ := hl.last (by have := Hn.out; have := Hrl.out; omega)
        refine ⟨_, _, rfl, hl.2.2.2.2.1, hl.2.2.2.2.2, by simpa using Hol.out, q1, by rw [q2, Hrl.out, ← Hrs.out], ?_, Ho.out.set _ _⟩
        rw [← Hset.out]
        exact hblk.set (j + i) (by rw [Hlen.out]; omega) _

end Go.Proofs.Ytkfkdkoohnfgaaa
