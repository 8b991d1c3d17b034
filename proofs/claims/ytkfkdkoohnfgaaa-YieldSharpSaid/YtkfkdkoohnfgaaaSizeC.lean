/-
  DERIVED. The walks of package long's sizes, third part: Clone, Minus.
-/
import Derived.Test.YtkfkdkoohnfgaaaSizeB
namespace Go.Proofs.Ytkfkdkoohnfgaaa
open Go.RowKit

set_option maxHeartbeats 400000 in
theorem clone_any (zs : List Int) (a : Option Addr) (n c : Nat) (w : World) (h : SL w.heap.size w a n c zs) (hn : n ≤ 1000000) :
    Calls Try.prog 71 #[.slice a n c] w (RetOwn w zs) := by
  have H := Lib.hid h; clear h
  have heq := fun w => Lib.run_eql_slice_nil (P := Try.prog) w 84 3 a n c 0 0 Try.underlying84
  cases a with
  | none =>
    go_enter Try.func71, Try.ntmps71
    go_wp2
    go_ret
    refine ⟨_, rfl, Or.inl ⟨rfl, ?_⟩, Below.refl _ _⟩
    have := H.out
    refine List.eq_nil_of_length_eq_zero (Decidable.byContradiction fun hcon => ?_)
    obtain ⟨b, off, e, _⟩ := this.2.2 (by have := this.1; omega)
    cases e
  | some ad =>
    go_enter Try.func71, Try.ntmps71
    go_wp2_with (refine wpList_append_ints rfl (.tmp 5) (.tmp 6) 84 rfl Try.underlying84 w.heap.size _ 0 [] rfl (World.ownsRow_made w #[] 0 (Nat.le_refl _) (by simp) rfl) w.heap.size (some ad) n c zs rfl (H.out.below ((Below.refl _ _).alloc (Nat.le_refl _) _) (Nat.le_refl _)) (by simp) (by omega) (by simp) ?_)
    intro v' w1 hown hgrow
    have hbel : Below w.heap.size w w1 := ((Below.refl _ _).alloc (Nat.le_refl _) _).grown hgrow (by simp) (by intro k hk; simp [Value.ownBlock] at hk; omega)
    have hcs := owns_cells hown
    have Hcs := Lib.hid hcs; clear hcs hown hgrow
    go_wp2
    go_ret
    refine ⟨v', rfl, ?_, hbel⟩
    obtain ⟨_, h2⟩ := Hcs.out
    have hl := H.out.len
    rcases h2 with ⟨rfl, h0⟩ | ⟨g, cap, rfl, hg, hc, hcells⟩
    · exact Or.inl ⟨rfl, List.eq_nil_of_length_eq_zero (by omega)⟩
    · exact Or.inr ⟨g, cap, by rw [hl], by omega, hg, hcells⟩

/-- Minus, the second loop: the first k borrows are taken. -/
def M2 (v : Int) (n k : Nat) (out : List Int) : Prop :=
  out.length = n ∧ (∀ j, -1000000000 ≤ out.getD j 0 ∧ out.getD j 0 < 1000000000) ∧ (∀ j, j < k → 0 ≤ out.getD j 0) ∧ (∀ j, k < j → -999999999 ≤ out.getD j 0) ∧ val out = v

/-- Minus, the first loop -/
def M1 (xs ys : List Int) (n k : Nat) (out : List Int) : Prop :=
  out.length = n ∧ (∀ j, -999999999 ≤ out.getD j 0 ∧ out.getD j 0 < 1000000000) ∧ (∀ j, k ≤ j → 0 ≤ out.getD j 0) ∧ val out = val xs - val (ys.take k)

theorem M1.start {xs ys : List Int} (hx : Dig xs) : M1 xs ys xs.length 0 xs :=
  ⟨rfl, fun j => ⟨by have := (hx.all j).1; omega, (hx.all j).2⟩, fun j _ => (hx.all j).1, by simp [val]⟩

theorem M1.step {xs ys out : List Int} {n k : Nat} (h : M1 xs ys n k out) (hy : Dig ys) (hk : k < ys.length) (hkn : k < n) : M1 xs ys n (k + 1) (out.set k (out.getD k 0 - ys.getD k 0)) := by
  obtain ⟨h1, h2, h3, h4⟩ := h
  have a := hy.all k
  have b := h3 k (Nat.le_refl _)
  have b2 := (h2 k).2
  refine ⟨by simpa using h1, fun j => ?_, fun j hj => ?_, ?_⟩
  · rw [getD_set]; split
    · omega
    · exact h2 j
  · rw [getD_set, if_neg (by omega)]; exact h3 j (by omega)
  · rw [val_set (by omega), h4, val_take_succ hk, show out.getD k 0 - ys.getD k 0 - out.getD k 0 = -ys.getD k 0 by omega, Int.neg_mul]; omega

theorem M2.start {xs ys out : List Int} {n m : Nat} (h : M1 xs ys n m out) (hm : m = ys.length) : M2 (val xs - val ys) n 0 out := by
  obtain ⟨h1, h2, h3, h4⟩ := h
  exact ⟨h1, fun j => ⟨by have := (h2 j).1; omega, (h2 j).2⟩, fun j hj => absurd hj (by omega), fun j _ => (h2 j).1, by rw [h4, hm, List.take_length]⟩

theorem M2.less {v : Int} {n k : Nat} {out : List Int} (h : M2 v n k out) (hs : 0 ≤ out.getD k 0) : M2 v n (k + 1) out := by
  obtain ⟨h1, h2, h3, h4, h5⟩ := h
  refine ⟨h1, h2, fun j hj => ?_, fun j hj => h4 j (by omega), h5⟩
  by_cases e : j = k
  · subst e; exact hs
  · exact h3 j (by omega)

/-- where all digits below are 0 or more, and the highest is negative, the value is negative -/
theorem val_neg_of {l : List Int} {k : Nat} (h : ∀ j, j < l.length → l.getD j 0 < 1000000000) (hk : k < l.length) (hl : k + 1 = l.length) (hn : l.getD k 0 < 0) : val l < 0 := by
  have e : l = l.take (k + 1) := by rw [List.take_of_length_le (by omega)]
  rw [e, val_take_succ hk]
  have hlt : val (l.take k) < 1000000000 ^ k := by
    have : ∀ (m : List Int), (∀ j, j < m.length → m.getD j 0 < 1000000000) → val m < 1000000000 ^ m.length := by
      intro m
      induction m with
      | nil => intro _; simp [val]
      | cons d m ih =>
        intro hh
        have h0 := hh 0 (by simp)
        have := ih (fun j hj => by simpa using hh (j + 1) (by simpa using hj))
        simp only [List.getD_cons_zero] at h0
        simp only [val, List.length_cons, Int.pow_succ]; omega
    have h2 := this (l.take k) (fun j hj => by rw [getD_take (by rw [List.length_take] at hj; omega)]; exact h j (by rw [List.length_take] at hj; omega))
    rw [List.length_take, Nat.min_eq_left (by omega)] at h2; exact h2
  have hp : (0 : Int) < 1000000000 ^ k := Int.pow_pos (by omega)
  have : l.getD k 0 * 1000000000 ^ k ≤ -1 * 1000000000 ^ k := Int.mul_le_mul_of_nonneg_right (by omega) (by omega)
  omega

/-- the highest digit of a value that is not negative is never borrowed from -/
theorem M2.last {v : Int} {n k : Nat} {out : List Int} (h : M2 v n k out) (hv : 0 ≤ v) (hk : k < n) (hs : out.getD k 0 < 0) : k + 1 < n := by
  obtain ⟨h1, h2, h3, h4, h5⟩ := h
  apply Decidable.byContradiction; intro hc
  have := val_neg_of (l := out) (k := k) (fun j _ => (h2 j).2) (by omega) (by omega) hs
  omega

theorem M2.more {v : Int} {n k : Nat} {out : List Int} (h : M2 v n k out) (hk : k + 1 < n) (hs : out.getD k 0 < 0) :
    M2 v n (k + 1) ((out.set k (out.getD k 0 + 1000000000)).set (k + 1) (out.getD (k + 1) 0 - 1)) := by
  obtain ⟨h1, h2, h3, h4, h5⟩ := h
  have a := h2 k; have b := h2 (k + 1); have c := h4 (k + 1) (by omega)
  refine ⟨by simpa using h1, fun j => ?_, fun j hj => ?_, fun j hj => ?_, ?_⟩
  · rw [getD_set, getD_set]; split
    · omega
    · split
      · omega
      · exact h2 j
  · rw [getD_set, getD_set]; split
    · omega
    · split
      · omega
      · exact h3 j (by omega)
  · rw [getD_set, getD_set, if_neg (by omega), if_neg (by omega)]; exact h4 j (by omega)
  · rw [val_set (by simp; omega), val_set (by omega), getD_set, if_neg (by omega), h5, Int.pow_succ]
    generalize (1000000000 : Int) ^ k = p
    generalize out.getD k 0 = x
    rw [show x + 1000000000 - x = 1000000000 by omega, show out.getD (k + 1) 0 - 1 - out.getD (k + 1) 0 = -1 by omega]
    omega

theorem M2.dig {v : Int} {n : Nat} {out : List Int} (h : M2 v n n out) : Dig out ∧ val out = v := by
  obtain ⟨h1, h2, h3, h4, h5⟩ := h
  exact ⟨fun j hj => ⟨h3 j (by omega), (h2 j).2⟩, h5⟩

set_option maxRecDepth 100000 in
set_option maxHeartbeats 800000 in
theorem minus_raw (xs ys : List Int) (a b : Option Addr) (n m c d : Nat) (w : World) (ha : SL w.heap.size w a n c xs) (hb : SL w.heap.size w b m d ys) (hn : n ≤ 1000000) (hm : m ≤ n) (hx : Dig xs) (hy : Dig ys) (hle : val ys ≤ val xs) :
    Calls Try.prog 55 #[.slice a n c, .slice b m d] w (RetS w (digs (val xs - val ys).toNat)) := by
  have Ha := Lib.hid ha; have Hb := Lib.hid hb; clear ha hb
  have Hx := Lib.hid hx; have Hy := Lib.hid hy; have Hle := Lib.hid hle; clear hx hy hle
  go_enter Try.func55, Try.ntmps55
  go_wp2_with fail
  refine (clone_any xs a n c w Ha.out hn).mono ?_
  rintro e w1 ⟨v, rfl, hv, hb1⟩
  have hl := Ha.out.len
  have Hl := Lib.hid hl; clear hl
  rcases hv with ⟨rfl, hnil⟩ | ⟨g, cc, rfl, hcc, hg, hblk⟩
  · have Hnil := Lib.hid hnil; clear hnil
    obtain rfl : n = 0 := by have := Hl.out; rw [Hnil.out] at this; simpa using this
    obtain rfl : m = 0 := by omega
    go_wp2_with fail
    refine wp_loop_rounds 1 ?_
    rw [rounds_succ]
    go_wp2_with fail
    refine wp_loop_rounds 1 ?_
    rw [rounds_succ]
    go_wp2_with fail
    refine (trim_any [] none 0 0 w1 (SL.nil _ _ _ _) Dig.nil (by omega)).mono ?_
    rintro e w' ⟨q, rfl, hq, hqd, rfl⟩
    obtain rfl : q = 0 := by simpa using hq
    go_wp2
    go_ret
    refine ⟨_, _, _, rfl, ?_, hb1, Fresh.ofNone _ _⟩
    have e1 : val ys = 0 := by
      have := Hb.out.len
      have h2 : ys = [] := List.eq_nil_of_length_eq_zero (by omega)
      rw [h2]; rfl
    have e2 : val xs = 0 := by rw [Hnil.out]; rfl
    rw [e1, e2, show ((0 : Int) - 0).toNat = 0 from rfl, digs_zero]
    exact SL.nil _ _ _ _
  · obtain rfl : n = xs.length := Hl.out
    generalize hgB : w.heap.size = B at *
    have HgB := Lib.hid hgB; clear hgB
    go_wp2_with fail
    go_loopw [13] (fun v wr => ∃ (k : Nat) (out : List Int), k ≤ m ∧ v = .int .i64 k ∧ Blk wr g out ∧ M1 xs ys xs.length k out ∧ Below B w wr) (fun v _ => m - (intOf v).toNat)
    case atStart => exact ⟨0, _, Nat.zero_le _, rfl, hblk, M1.start Hx.out, hb1⟩
    case round =>
      obtain ⟨k, out, hk, rfl, hblk, hp, hbw⟩ := hrel
      by_cases hkm : k < m
      · obtain ⟨hl, _, gb⟩ := Hb.out
        obtain ⟨bb, ob, rfl, hbb, cb⟩ := gb (by omega)
        have hbb' : bb < B := hbb
        have g1 := (hbw.cell (p := ⟨bb, ob + k, none⟩) hbb').trans (cb k hkm)
        have hol : out.length = xs.length := hp.1
        have g2 := hblk.cell (j := k) (by omega)
        have g3 := hblk.free k
        have hxk := hp.2.1 k
        have hyk := Hy.out.all k
        have Hll := Lib.hid hl; have Hol := Lib.hid hol
        clear gb cb hl hbb hol
        generalize hxx : out.getD k 0 = x at *
        generalize hyy : ys.getD k 0 = y at *
        have Hxx := Lib.hid hxx; have Hyy := Lib.hid hyy; clear hxx hyy
        go_wp2
        go_roundw
        case rel =>
          refine ⟨k + 1, _, by omega, by go_num, hblk.set k (by have := Hol.out; omega) (x - y), ?_, hbw.setCell hg _⟩
          have := hp.step Hy.out (by have := Hll.out; omega) (by omega)
          rw [Hxx.out, Hyy.out] at this
          exact this
        case measure => simp [intOf]; omega
      · obtain rfl : k = m := by omega
        have hvv : 0 ≤ val xs - val ys := by have := Hle.out; omega
        go_wp2_with fail
        go_loopw [28] (fun v wr => ∃ (k : Nat) (out : List Int), k ≤ xs.length ∧ v = .int .i64 k ∧ Blk wr g out ∧ M2 (val xs - val ys) xs.length k out ∧ Below B w wr) (fun v _ => xs.length - (intOf v).toNat)
        case atStart => exact ⟨0, _, Nat.zero_le _, rfl, hblk, M2.start hp Hb.out.len, hbw⟩
        case round =>
          clear hp hblk hbw
          obtain ⟨k, out, hk, rfl, hblk, hp, hbw⟩ := hrel
          have hol : out.length = xs.length := hp.1
          have Hol := Lib.hid hol; clear hol
          by_cases hkn : k < xs.length
          · have g2 := hblk.cell (j := k) (by have := Hol.out; omega)
            have g3 := hblk.free k
            have hxk := hp.2.1 k
            by_cases hc : out.getD k 0 < 0
            · have hlast := hp.last hvv hkn hc
              have g4 := hblk.free (k + 1)
              have g5 := hblk.cell (j := k + 1) (by have := Hol.out; omega)
              have hyk := hp.2.1 (k + 1)
              have g6 := (World.cell?_setCell_other (w := wr) (a := ⟨g, k, none⟩) (b := ⟨g, k + 1, none⟩) (v := .int .i64 (out.getD k 0 + 1000000000)) (by simp)).trans g5
              clear g5
              generalize hxx : out.getD k 0 = x at *
              generalize hyy : out.getD (k + 1) 0 = y at *
              have Hxx := Lib.hid hxx; have Hyy := Lib.hid hyy; clear hxx hyy
              go_wp2
              go_roundw
              case rel =>
                refine ⟨k + 1, _, by omega, by go_num, (hblk.set k (by have := Hol.out; omega) (x + 1000000000)).set (k + 1) (by have := Hol.out; simp; omega) (y - 1), ?_, (hbw.setCell hg _).setCell hg _⟩
                have := hp.more hlast (by rw [Hxx.out]; exact hc)
                rw [Hxx.out, Hyy.out] at this
                exact this
              case measure => simp [intOf]; omega
            · generalize hxx : out.getD k 0 = x at *
              have Hxx := Lib.hid hxx; clear hxx
              go_wp2
              go_roundw
              case rel => exact ⟨k + 1, out, by omega, by go_num, hblk, hp.less (by rw [Hxx.out]; omega), hbw⟩
              case measure => simp [intOf]; omega
          · obtain rfl : k = xs.length := by omega
            obtain ⟨hd, hv⟩ := hp.dig
            have Hv := Lib.hid hv; clear hv
            have hsl := hblk.sl (c := cc) (by have := Hol.out; omega)
            rw [Hol.out] at hsl
            go_wp2_with fail
            refine (trim_any out _ _ _ _ hsl hd (by omega)).mono ?_
            rintro e w' ⟨q, rfl, hq, hqd, rfl⟩
            have Hqd := Lib.hid hqd; clear hqd
            have Hq := Lib.hid hq; clear hq
            go_wp2
            go_ret
            refine ⟨_, _, _, rfl, ?_, by rw [HgB.out]; exact hbw, Fresh.mk (by rw [HgB.out]; exact hg) _⟩
            have := hsl.pre (k := q) (by have := Hq.out; have := Hol.out; omega)
            rw [Hqd.out, Hv.out] at this
            exact this

theorem minus_any (x y : Nat) (a b : Option Addr) (n m c d : Nat) (w : World) (ha : SL w.heap.size w a n c (digs x)) (hb : SL w.heap.size w b m d (digs y)) (hn : n ≤ 1000000) (hle : y ≤ x) :
    Calls Try.prog 55 #[.slice a n c, .slice b m d] w (RetS w (digs (x - y))) := by
  have := minus_raw _ _ a b n m c d w ha hb hn (by rw [ha.len, hb.len]; exact length_digs_mono hle) (dig_digs x) (dig_digs y) (by rw [val_digs, val_digs]; omega)
  rw [val_digs, val_digs, show ((x : Int) - y).toNat = x - y by omega] at this
  exact this

end Go.Proofs.Ytkfkdkoohnfgaaa
