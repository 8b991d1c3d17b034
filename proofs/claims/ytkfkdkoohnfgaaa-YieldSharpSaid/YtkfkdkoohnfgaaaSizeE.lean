/-
  DERIVED. The walks of package long's sizes, fifth part: by, Part.
-/
import Derived.Test.YtkfkdkoohnfgaaaSizeD
import Derived.Test.YtkfkdkoohnfgaaaFloats
namespace Go.Proofs.Ytkfkdkoohnfgaaa
open Go.RowKit

/-- by, behind the first i digits -/
def B1 (xs : List Int) (d : Int) (i : Nat) (carry : Int) (out : List Int) : Prop :=
  T2 [d] xs 0 i carry out ∧ ∀ j, i ≤ j → out.getD j 0 = 0

theorem getD_rep (n : Nat) (j : Nat) : (List.replicate n (0 : Int)).getD j 0 = 0 := by
  simp only [List.getD_eq_getElem?_getD, List.getElem?_replicate]; split <;> rfl

theorem B1.start (xs : List Int) (d : Int) : B1 xs d 0 0 (List.replicate (xs.length + 1) 0) := by
  refine ⟨?_, fun j _ => getD_rep _ j⟩
  have h := T1.start [d] xs
  rw [show [d].length + xs.length = xs.length + 1 by simp; omega] at h
  exact T2.start h

theorem B1.step {xs out : List Int} {d carry : Int} {i : Nat} (h : B1 xs d i carry out) (hx : Dig xs) (hd : 0 ≤ d ∧ d < 1000000000) (hi : i < xs.length) :
    B1 xs d (i + 1) ((xs.getD i 0 * d + carry) / 1000000000) (out.set i ((xs.getD i 0 * d + carry) % 1000000000)) := by
  obtain ⟨h1, h2⟩ := h
  have hs := h1.step (Dig.cons hd Dig.nil) hx (by simp) hi
  rw [Nat.zero_add, h2 i (Nat.le_refl _)] at hs
  simp only [List.getD_cons_zero, Int.zero_add] at hs
  rw [Int.mul_comm d] at hs
  refine ⟨hs, fun j hj => ?_⟩
  rw [getD_set, if_neg (by omega)]; exact h2 j (by omega)

theorem B1.done {xs out : List Int} {d carry : Int} (h : B1 xs d xs.length carry out) : (out.set xs.length carry).length = xs.length + 1 ∧ Dig (out.set xs.length carry) ∧ val (out.set xs.length carry) = val xs * d := by
  have hs := h.1.done (by simp)
  simp only [Nat.zero_add] at hs
  obtain ⟨h1, h2, _, h4⟩ := hs
  refine ⟨by rw [h1]; simp; omega, fun j _ => h2 j, ?_⟩
  rw [h4, Int.mul_comm]; simp [val]

/-- a call that makes a block of whole numbers -/
def RetBlk (w : World) (n : Nat) (p : List Int → Prop) (e : Ending) (w' : World) : Prop :=
  ∃ out, e = .returned (.slice (some ⟨w.heap.size, 0, none⟩) n n) ∧ out.length = n ∧ p out ∧ Blk w' w.heap.size out ∧ Below w.heap.size w w'

set_option maxRecDepth 100000 in
set_option maxHeartbeats 1000000 in
theorem by_any (xs : List Int) (a : Option Addr) (n c : Nat) (d : Int) (w : World) (ha : SL w.heap.size w a n c xs) (hn : n ≤ 1000000) (hx : Dig xs) (hd0 : 0 ≤ d) (hd1 : d < 1000000000) :
    Calls Try.prog 88 #[.slice a n c, .int .i64 d] w (RetBlk w (n + 1) fun out => Dig out ∧ val out = val xs * d) := by
  have Ha := Lib.hid ha
  obtain rfl := ha.len
  have Hx := Lib.hid hx; clear hx ha
  go_enter Try.func88, Try.ntmps88
  go_wp2_with (refine wpList_make_ints rfl (.tmp 12) (.tmp 12) 84 rfl Try.underlying84 ((xs.length : Int) + 1) (xs.length + 1) rfl rfl (by omega) (by omega) ?_)
  intro w1 hblk hb1
  generalize hgB : w.heap.size = g at *
  have HgB := Lib.hid hgB; clear hgB
  go_wp2_with fail
  go_loopw [6, 16] (fun cv v wr => ∃ (i : Nat) (carry : Int) (out : List Int), i ≤ xs.length ∧ v = .int .i64 i ∧ cv = .int .i64 carry ∧ Blk wr g out ∧ B1 xs d i carry out ∧ Below g w wr) (fun _ v _ => xs.length - (intOf v).toNat)
  case atStart => exact ⟨0, 0, _, Nat.zero_le _, rfl, rfl, hblk, B1.start xs d, hb1⟩
  case round =>
    clear hblk hb1
    obtain ⟨i, carry, out, hi, rfl, rfl, hblk, hp, hbw⟩ := hrel
    have hol : out.length = xs.length + 1 := by have := hp.1.1; simp at this; omega
    have Hol := Lib.hid hol; clear hol
    have hc0 := hp.1.2.2.2.1
    have hc1 := hp.1.2.2.2.2.1
    by_cases hin : i < xs.length
    · obtain ⟨_, _, ga⟩ := Ha.out
      obtain ⟨ba, oa, rfl, hba, ca⟩ := ga (by omega)
      have hba' : ba < g := hba
      have g1 := (hbw.cell (p := ⟨ba, oa + i, none⟩) hba').trans (ca i hin)
      have g2 := hblk.cell (j := i) (by have := Hol.out; omega)
      have g3 := hblk.free i
      have hxi := Hx.out.all i
      have hst := hp.step Hx.out ⟨hd0, hd1⟩ hin
      clear ga ca hba
      generalize hxx : xs.getD i 0 = x at *
      generalize hoo : out.getD i 0 = z at *
      have Hst := Lib.hid hst; have Hxx := Lib.hid hxx; have Hoo := Lib.hid hoo; clear hst hxx hoo
      obtain ⟨hm1, hm2⟩ := mul_bounds hxi ⟨hd0, hd1⟩
      go_wp2
      go_roundw
      case rel => exact ⟨i + 1, _, _, by omega, by go_num, rfl, hblk.set i (by have := Hol.out; omega) _, Hst.out, hbw.setCell (Nat.le_refl _) _⟩
      case measure => simp [intOf]; omega
    · obtain rfl : i = xs.length := by omega
      have g2 := hblk.cell (j := xs.length) (by have := Hol.out; omega)
      have g3 := hblk.free xs.length
      have hd := hp.done
      have Hd := Lib.hid hd; clear hd
      have hb := hblk.set xs.length (by have := Hol.out; omega) carry
      have Hb := Lib.hid hb; clear hb
      go_wp2
      go_ret
      refine ⟨out.set xs.length carry, by rw [HgB.out]; rfl, Hd.out.1, Hd.out.2, by rw [HgB.out]; exact Hb.out, by rw [HgB.out]; exact hbw.setCell (Nat.le_refl _) _⟩

/-- Part: the quotient's digits from place i on, and the rest -/
def Q1 (xs : List Int) (d : Int) (i : Nat) (rest : Int) (out : List Int) : Prop :=
  out.length = xs.length ∧ Dig out ∧ 0 ≤ rest ∧ rest < d ∧ val (xs.drop i) = val (out.drop i) * d + rest

theorem Q1.start (xs : List Int) {d : Int} (hd : 0 < d) : Q1 xs d xs.length 0 (List.replicate xs.length 0) := by
  refine ⟨by simp, fun j _ => by rw [getD_rep]; omega, by omega, hd, by simp [val]⟩

theorem Q1.step {xs out : List Int} {d rest : Int} {i : Nat} (h : Q1 xs d (i + 1) rest out) (hx : Dig xs) (hi : i < xs.length) :
    Q1 xs d i ((rest * 1000000000 + xs.getD i 0) % d) (out.set i ((rest * 1000000000 + xs.getD i 0) / d)) := by
  obtain ⟨h1, h2, h3, h4, h5⟩ := h
  have a := hx.all i
  have hd : 0 < d := by omega
  have q0 : 0 ≤ (rest * 1000000000 + xs.getD i 0) / d := Int.ediv_nonneg (by omega) (by omega)
  have q1 : (rest * 1000000000 + xs.getD i 0) / d < 1000000000 := Int.ediv_lt_of_lt_mul hd (by
    have : (rest + 1) * 1000000000 ≤ d * 1000000000 := Int.mul_le_mul_of_nonneg_right (by omega) (by omega)
    rw [Int.mul_comm 1000000000]; omega)
  have q2 := Int.mul_ediv_add_emod (rest * 1000000000 + xs.getD i 0) d
  have q3 := Int.emod_nonneg (rest * 1000000000 + xs.getD i 0) (show d ≠ 0 by omega)
  have q4 := Int.emod_lt_of_pos (rest * 1000000000 + xs.getD i 0) hd
  generalize (rest * 1000000000 + xs.getD i 0) / d = q at *
  generalize (rest * 1000000000 + xs.getD i 0) % d = r at *
  refine ⟨by simpa using h1, fun j _ => ?_, q3, q4, ?_⟩
  · rw [getD_set]; split
    · omega
    · exact h2.all j
  · rw [val_drop hi, val_drop (l := out.set i q) (by simpa using (by omega : i < out.length)), getD_set, if_pos ⟨rfl, by omega⟩, List.drop_set_of_lt (by omega), h5]
    rw [Int.add_mul, Int.mul_assoc, Int.mul_comm q d]
    generalize val (out.drop (i + 1)) * d = v at *
    generalize d * q = u at *
    omega

/-- a call that gives back the quotient's digits and the rest -/
def RetPart (w : World) (q : Nat) (r : Int) (e : Ending) (w' : World) : Prop :=
  ∃ a n c, e = .returned (.tuple #[.slice a n c, .int .i64 r]) ∧ SL w'.heap.size w' a n c (digs q) ∧ Below w.heap.size w w' ∧ Fresh w.heap.size a n

set_option maxRecDepth 100000 in
set_option maxHeartbeats 1000000 in
theorem part_raw (xs : List Int) (a : Option Addr) (n c : Nat) (d : Int) (w : World) (ha : SL w.heap.size w a n c xs) (hn : n ≤ 1000000) (hx : Dig xs) (hd0 : 0 < d) (hd1 : d < 1000000000) :
    Calls Try.prog 87 #[.slice a n c, .int .i64 d] w (RetPart w (val xs / d).toNat (val xs % d)) := by
  have Ha := Lib.hid ha
  obtain rfl := ha.len
  have Hx := Lib.hid hx; clear hx ha
  have hdz : ¬ d = 0 := by omega
  go_enter Try.func87, Try.ntmps87
  go_wp2_with (refine wpList_make_ints rfl (.tmp 10) (.tmp 10) 84 rfl Try.underlying84 (xs.length : Int) xs.length rfl rfl (by omega) (by omega) ?_)
  intro w1 hblk hb1
  generalize hgB : w.heap.size = g at *
  have HgB := Lib.hid hgB; clear hgB
  go_wp2_with fail
  go_loopw [7, 8] (fun rv iv wr => ∃ (i : Nat) (rest : Int) (out : List Int), i ≤ xs.length ∧ iv = .int .i64 ((i : Int) - 1) ∧ rv = .int .i64 rest ∧ Blk wr g out ∧ Q1 xs d i rest out ∧ Below g w wr) (fun _ v _ => (intOf v + 1).toNat)
  case atStart => exact ⟨xs.length, 0, _, Nat.le_refl _, rfl, rfl, hblk, Q1.start xs hd0, hb1⟩
  case round =>
    clear hblk hb1
    obtain ⟨i, rest, out, hi, rfl, rfl, hblk, hp, hbw⟩ := hrel
    have hol : out.length = xs.length := hp.1
    have Hol := Lib.hid hol; clear hol
    have hr0 := hp.2.2.1
    have hr1 := hp.2.2.2.1
    by_cases hi0 : i = 0
    · subst hi0
      obtain ⟨_, hdo, _, _, hv⟩ := hp
      rw [List.drop_zero, List.drop_zero] at hv
      have h1 : val xs / d = val out := by
        rw [hv, Int.add_ediv_of_dvd_left ⟨val out, by rw [Int.mul_comm]⟩, Int.mul_ediv_cancel _ (by omega), Int.ediv_eq_zero_of_lt hr0 hr1, Int.add_zero]
      have h2 : val xs % d = rest := by
        rw [hv, Int.add_comm, Int.add_mul_emod_self_right, Int.emod_eq_of_lt hr0 hr1]
      have H1 := Lib.hid h1; have H2 := Lib.hid h2; have Hdo := Lib.hid hdo; clear h1 h2 hv hdo
      have hsl := hblk.sl (c := xs.length) (by have := Hol.out; omega)
      rw [Hol.out] at hsl
      have Hsl := Lib.hid hsl; clear hsl
      go_wp2_with fail
      refine (trim_any out _ _ _ _ Hsl.out Hdo.out (by omega)).mono ?_
      rintro e w' ⟨q, rfl, hq, hqd, rfl⟩
      have Hqd := Lib.hid hqd; have Hq := Lib.hid hq; clear hqd hq
      go_wp2
      go_ret2
      refine ⟨_, _, _, by rw [H2.out]; rfl, ?_, by rw [HgB.out]; exact hbw, Fresh.mk (by rw [HgB.out]; omega) _⟩
      have := Hsl.out.pre (k := q) (by have := Hq.out; have := Hol.out; omega)
      rw [Hqd.out] at this
      rw [H1.out]
      exact this
    · obtain ⟨i, rfl⟩ : ∃ j, i = j + 1 := ⟨i - 1, by omega⟩
      have e0 : (((i + 1 : Nat) : Int) - 1) = (i : Int) := by omega
      rw [e0]
      clear e0 hi0
      have hin : i < xs.length := by omega
      obtain ⟨_, _, ga⟩ := Ha.out
      obtain ⟨ba, oa, rfl, hba, ca⟩ := ga (by omega)
      have hba' : ba < g := hba
      have g1 := (hbw.cell (p := ⟨ba, oa + i, none⟩) hba').trans (ca i hin)
      have g3 := hblk.free i
      have g2 := hblk.cell (j := i) (by have := Hol.out; omega)
      have hxi := Hx.out.all i
      have hst := hp.step Hx.out hin
      clear ga ca hba
      generalize hxx : xs.getD i 0 = x at *
      generalize hoo : out.getD i 0 = z at *
      have hR0 : 0 ≤ rest * 1000000000 + x := by omega
      have hR1 : rest * 1000000000 + x ≤ 999999999999999999 := by omega
      have hq : (rest * 1000000000 + x).tdiv d = (rest * 1000000000 + x) / d := Int.tdiv_eq_ediv_of_nonneg hR0
      have hm : (rest * 1000000000 + x).tmod d = (rest * 1000000000 + x) % d := Int.tmod_eq_emod_of_nonneg hR0
      have q3 := hst.2.2.1
      have q4 := hst.2.2.2.1
      have hqd := hst.2.1.all i
      rw [getD_set, if_pos ⟨rfl, by have := Hol.out; omega⟩] at hqd
      generalize (rest * 1000000000 + x) / d = Q at *
      generalize (rest * 1000000000 + x) % d = R at *
      have Hst := Lib.hid hst; have Hxx := Lib.hid hxx; have Hoo := Lib.hid hoo; clear hst hxx hoo hp
      go_wp2_with fail
      refine wp_region_floats 9 [5, 6, 7] [] [(0, true), (1, true), (2, true), (3, true), (4, true), (5, true), (6, true), (7, true), (8, true)] (by kernel_rfl) (by kernel_rfl) ⟨by simp, by simp, fun _ h => by cases h⟩ (fun _ _ _ _ _ h => h) (fun _ _ o _ _ h => by cases o <;> exact h) ?_
      iterate 5
        refine wpG_pure (v := ?_) rfl (by rfl) ?_ ?_
        rotate_left
        · intro y
          go_simp
          with_reducible rfl
        try simp only [Act.put, List.setIfInBounds_toArray, List.set_cons_zero, List.set_cons_succ]
      iterate 3
        refine wpG_pure (v := ?_) rfl (by rfl) ?_ ?_
        rotate_left
        · intro y
          go_simp
          with_reducible rfl
        try simp only [Act.put, List.setIfInBounds_toArray, List.set_cons_zero, List.set_cons_succ]
      refine wpG_pure (v := ?_) rfl (by rfl) ?_ ?_
      rotate_left
      · intro y
        go_simp
        with_reducible rfl
      try simp only [Act.put, List.setIfInBounds_toArray, List.set_cons_zero, List.set_cons_succ]
      refine wpG_nil0 rfl (fun w' hb' => ?_)
      have hb2 : Below wr.heap.size wr w' := below_undrew (k := 1) hb'
      have hblk2 : Blk w' g out := hblk.below hb2 hblk.lt
      have hbw2 := hbw.trans (hb2.mono (Nat.le_of_lt hblk.lt))
      have g2 := hblk2.cell (j := i) (by have := Hol.out; omega)
      have g3 := hblk2.free i
      rw [Hoo.out] at g2
      clear hb' hb2
      go_wp2
      go_roundw
      case rel => exact ⟨i, R, out.set i Q, by omega, by go_num, rfl, hblk2.set i (by have := Hol.out; omega) _, Hst.out, hbw2.setCell (Nat.le_refl _) _⟩
      case measure => simp [intOf]

theorem part_any (x : Nat) (a : Option Addr) (n c : Nat) (d : Nat) (w : World) (ha : SL w.heap.size w a n c (digs x)) (hn : n ≤ 1000000) (hd0 : 0 < d) (hd1 : d < 1000000000) :
    Calls Try.prog 87 #[.slice a n c, .int .i64 (d : Int)] w (RetPart w (x / d) ((x % d : Nat) : Int)) := by
  have := part_raw (digs x) a n c d w ha hn (dig_digs x) (by omega) (by omega)
  rw [val_digs, ← Int.natCast_ediv, ← Int.natCast_emod, Int.toNat_natCast] at this
  exact this

end Go.Proofs.Ytkfkdkoohnfgaaa
