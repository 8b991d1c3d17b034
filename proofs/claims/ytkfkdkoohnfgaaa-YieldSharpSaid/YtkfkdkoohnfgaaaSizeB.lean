/-
  DERIVED. The walks of package long's sizes, second part: Plus.
-/
import Derived.Test.YtkfkdkoohnfgaaaSizeA
namespace Go.Proofs.Ytkfkdkoohnfgaaa
open Go.RowKit

theorem getD_set (l : List Int) (i j : Nat) (v : Int) : (l.set i v).getD j 0 = if i = j ∧ i < l.length then v else l.getD j 0 := by
  simp only [List.getD_eq_getElem?_getD, List.getElem?_set]
  by_cases h : i = j
  · subst h
    by_cases h2 : i < l.length
    · simp [h2]
    · simp [h2]
  · simp [h]

/-- Plus, the first loop: the second one's first k digits are added. -/
def P1 (xs ys : List Int) (n k : Nat) (out : List Int) : Prop :=
  out.length = n + 1 ∧ (∀ j, 0 ≤ out.getD j 0 ∧ out.getD j 0 ≤ 1999999998) ∧ (∀ j, k ≤ j → out.getD j 0 < 1000000000) ∧ out.getD n 0 = 0 ∧ val out = val xs + val (ys.take k)

theorem P1.start {xs ys : List Int} {n : Nat} (hx : Dig xs) (hl : n = xs.length) : P1 xs ys n 0 (over xs (List.replicate (n + 1) 0)) := by
  have e : over xs (List.replicate (n + 1) 0) = xs ++ [0] := by unfold over; rw [List.drop_replicate, ← hl]; simp
  have hd : Dig (xs ++ [0]) := hx.append (Dig.cons (by omega) Dig.nil)
  rw [e]
  refine ⟨by simp [hl], fun j => ⟨(hd.all j).1, by have := (hd.all j).2; omega⟩, fun j _ => (hd.all j).2, ?_, ?_⟩
  · simp [hl]
  · rw [val_append]; simp [val]

theorem P1.step {xs ys out : List Int} {n k : Nat} (h : P1 xs ys n k out) (hy : Dig ys) (hk : k < ys.length) (hkn : k < n) : P1 xs ys n (k + 1) (out.set k (out.getD k 0 + ys.getD k 0)) := by
  obtain ⟨h1, h2, h3, h4, h5⟩ := h
  have a := hy.all k
  have b := h3 k (Nat.le_refl _)
  have b2 := (h2 k).1
  refine ⟨by simpa using h1, fun j => ?_, fun j hj => ?_, ?_, ?_⟩
  · rw [getD_set]; split
    · omega
    · exact h2 j
  · rw [getD_set, if_neg (by omega)]; exact h3 j (by omega)
  · rw [getD_set, if_neg (by omega)]; exact h4
  · rw [val_set (by omega), h5, val_take_succ hk, show out.getD k 0 + ys.getD k 0 - out.getD k 0 = ys.getD k 0 by omega]; omega

/-- Plus, the second loop: the first k carries are taken. -/
def P2 (v : Int) (n k : Nat) (out : List Int) : Prop :=
  out.length = n + 1 ∧ (∀ j, 0 ≤ out.getD j 0 ∧ out.getD j 0 ≤ 1999999999) ∧ (∀ j, j < k → out.getD j 0 < 1000000000) ∧ (∀ j, k < j → out.getD j 0 ≤ 1999999998) ∧
    (k < n → out.getD n 0 = 0) ∧ (k = n → out.getD n 0 ≤ 1) ∧ val out = v

theorem P2.start {xs ys out : List Int} {n m : Nat} (h : P1 xs ys n m out) (hm : m = ys.length) : P2 (val xs + val ys) n 0 out := by
  obtain ⟨h1, h2, h3, h4, h5⟩ := h
  refine ⟨h1, fun j => ⟨(h2 j).1, by have := (h2 j).2; omega⟩, fun j hj => absurd hj (by omega), fun j _ => (h2 j).2, fun _ => h4, fun hn => by omega, ?_⟩
  rw [h5, hm, List.take_length]

theorem P2.less {v : Int} {n k : Nat} {out : List Int} (h : P2 v n k out) (hk : k < n) (hs : out.getD k 0 < 1000000000) : P2 v n (k + 1) out := by
  obtain ⟨h1, h2, h3, h4, h5, h6, h7⟩ := h
  refine ⟨h1, h2, fun j hj => ?_, fun j hj => h4 j (by omega), fun _ => h5 hk, fun _ => by have := h5 hk; omega, h7⟩
  by_cases e : j = k
  · subst e; exact hs
  · exact h3 j (by omega)

theorem P2.more {v : Int} {n k : Nat} {out : List Int} (h : P2 v n k out) (hk : k < n) (hs : 1000000000 ≤ out.getD k 0) :
    P2 v n (k + 1) ((out.set k (out.getD k 0 - 1000000000)).set (k + 1) (out.getD (k + 1) 0 + 1)) := by
  obtain ⟨h1, h2, h3, h4, h5, h6, h7⟩ := h
  have a := h2 k; have b := h2 (k + 1); have c := h4 (k + 1) (by omega)
  refine ⟨by simpa using h1, fun j => ?_, fun j hj => ?_, fun j hj => ?_, fun hn => ?_, fun hn => ?_, ?_⟩
  · rw [getD_set, getD_set]; split
    · omega
    · split
      · omega
      · exact h2 j
  · rw [getD_set, getD_set]; split
    · omega
    · split
      · omega
      · exact h3 j (by omega)
  · rw [getD_set, getD_set, if_neg (by omega), if_neg (by omega)]; exact h4 j (by omega)
  · rw [getD_set, getD_set, if_neg (by omega), if_neg (by omega)]; exact h5 hk
  · rw [getD_set, if_pos ⟨hn, by simp; omega⟩, hn, h5 hk]; omega
  · rw [val_set (by simp; omega), val_set (by omega), getD_set, if_neg (by omega), h7, Int.pow_succ]
    generalize (1000000000 : Int) ^ k = p
    generalize out.getD k 0 = x
    rw [show x - 1000000000 - x = -1000000000 by omega, show out.getD (k + 1) 0 + 1 - out.getD (k + 1) 0 = 1 by omega]
    omega

theorem P2.dig {v : Int} {n : Nat} {out : List Int} (h : P2 v n n out) : Dig out ∧ val out = v := by
  obtain ⟨h1, h2, h3, h4, h5, h6, h7⟩ := h
  refine ⟨fun j hj => ⟨(h2 j).1, ?_⟩, h7⟩
  by_cases e : j = n
  · subst e; have := h6 rfl; omega
  · exact h3 j (by omega)

set_option maxRecDepth 100000 in
set_option maxHeartbeats 800000 in
/-- Plus, the longer one first. -/
theorem plus_ge (xs ys : List Int) (a b : Option Addr) (n m c d : Nat) (w : World) (ha : SL w.heap.size w a n c xs) (hb : SL w.heap.size w b m d ys) (hn : n ≤ 1000000) (hm : m ≤ n) (hx : Dig xs) (hy : Dig ys) :
    Calls Try.prog 53 #[.slice a n c, .slice b m d] w (RetS w (digs (val xs + val ys).toNat)) := by
  have Ha := Lib.hid ha; have Hb := Lib.hid hb; clear ha hb
  have Hx := Lib.hid hx; have Hy := Lib.hid hy; clear hx hy
  go_enter Try.func53, Try.ntmps53
  go_wp2_with (refine wpList_make_ints rfl (.tmp 18) (.tmp 18) 84 rfl Try.underlying84 ((n : Int) + 1) (n + 1) rfl rfl rfl (by omega) ?_)
  intro w1 hz1 hb1
  have hgs := hz1.lt
  generalize hg : w.heap.size = g at *
  have Hg := Lib.hid hg; clear hg
  go_wp2_with (refine wpList_copy_ints rfl (.tmp 20) (.tmp 21) 84 84 rfl Try.underlying84 g (n + 1) (n + 1) _ n c rfl rfl g xs _ (Ha.out.below hb1 (Nat.le_refl _)) hz1 (by simp) (by rw [← Ha.out.len]; simp) g w hb1 (Nat.le_refl _) ?_)
  intro w2 hz2 hb2
  clear hz1 hb1 hgs
  go_wp2_with fail
  go_loopw [25] (fun v wr => ∃ (k : Nat) (out : List Int), k ≤ m ∧ v = .int .i64 k ∧ Blk wr g out ∧ P1 xs ys n k out ∧ Below g w wr) (fun v _ => m - (intOf v).toNat)
  case atStart => exact ⟨0, _, Nat.zero_le _, rfl, hz2, P1.start Hx.out Ha.out.len, hb2⟩
  case round =>
    obtain ⟨k, out, hk, rfl, hblk, hp, hbw⟩ := hrel
    by_cases hkm : k < m
    · obtain ⟨hl, _, gb⟩ := Hb.out
      obtain ⟨bb, ob, rfl, hbb, cb⟩ := gb (by omega)
      have hbb' : bb < g := hbb
      have g1 := (hbw.cell (p := ⟨bb, ob + k, none⟩) hbb').trans (cb k hkm)
      have hol : out.length = n + 1 := hp.1
      have g2 := hblk.cell (j := k) (by omega)
      have g3 := hblk.free k
      have hxk := hp.2.1 k
      have hyk := Hy.out.all k
      have Hl := Lib.hid hl; have Hol := Lib.hid hol
      clear gb cb hl hbb hol
      generalize hxx : out.getD k 0 = x at *
      generalize hyy : ys.getD k 0 = y at *
      have Hxx := Lib.hid hxx; have Hyy := Lib.hid hyy; clear hxx hyy
      go_wp2
      go_roundw
      case rel =>
        refine ⟨k + 1, _, by omega, by go_num, hblk.set k (by have := Hol.out; omega) (x + y), ?_, hbw.setCell (Nat.le_refl _) _⟩
        have := hp.step Hy.out (by have := Hl.out; omega) (by omega)
        rw [Hxx.out, Hyy.out] at this
        exact this
      case measure => simp [intOf]; omega
    · obtain rfl : k = m := by omega
      go_wp2_with fail
      go_loopw [40] (fun v wr => ∃ (k : Nat) (out : List Int), k ≤ n ∧ v = .int .i64 k ∧ Blk wr g out ∧ P2 (val xs + val ys) n k out ∧ Below g w wr) (fun v _ => n - (intOf v).toNat)
      case atStart => exact ⟨0, _, Nat.zero_le _, rfl, hblk, P2.start hp Hb.out.len, hbw⟩
      case round =>
        clear hp hblk hbw
        obtain ⟨k, out, hk, rfl, hblk, hp, hbw⟩ := hrel
        have hol : out.length = n + 1 := hp.1
        have Hol := Lib.hid hol; clear hol
        by_cases hkn : k < n
        · have g2 := hblk.cell (j := k) (by have := Hol.out; omega)
          have g3 := hblk.free k
          have g4 := hblk.free (k + 1)
          have g5 := hblk.cell (j := k + 1) (by have := Hol.out; omega)
          have hxk := hp.2.1 k
          have hyk := hp.2.1 (k + 1)
          have g6 := (World.cell?_setCell_other (w := wr) (a := ⟨g, k, none⟩) (b := ⟨g, k + 1, none⟩) (v := .int .i64 (out.getD k 0 - 1000000000)) (by simp)).trans g5
          clear g5
          generalize hxx : out.getD k 0 = x at *
          generalize hyy : out.getD (k + 1) 0 = y at *
          have Hxx := Lib.hid hxx; have Hyy := Lib.hid hyy; clear hxx hyy
          by_cases hc : 1000000000 ≤ x
          · go_wp2
            go_roundw
            case rel =>
              refine ⟨k + 1, _, by omega, by go_num, (hblk.set k (by have := Hol.out; omega) (x - 1000000000)).set (k + 1) (by have := Hol.out; simp; omega) (y + 1), ?_, (hbw.setCell (Nat.le_refl _) _).setCell (Nat.le_refl _) _⟩
              have := hp.more hkn (by rw [Hxx.out]; exact hc)
              rw [Hxx.out, Hyy.out] at this
              exact this
            case measure => simp [intOf]; omega
          · go_wp2
            go_roundw
            case rel => exact ⟨k + 1, out, by omega, by go_num, hblk, hp.less hkn (by rw [Hxx.out]; omega), hbw⟩
            case measure => simp [intOf]; omega
        · obtain rfl : k = n := by omega
          obtain ⟨hd, hv⟩ := hp.dig
          have Hv := Lib.hid hv; clear hv
          have hsl := hblk.sl (c := k + 1) (by have := Hol.out; omega)
          rw [Hol.out] at hsl
          go_wp2_with fail
          refine (trim_any out _ _ _ _ hsl hd (by omega)).mono ?_
          rintro e w' ⟨q, rfl, hq, hqd, rfl⟩
          have Hqd := Lib.hid hqd; clear hqd
          have Hq := Lib.hid hq; clear hq
          go_wp2
          go_ret
          refine ⟨_, _, _, rfl, ?_, by rw [Hg.out]; exact hbw, Fresh.mk (by rw [Hg.out]; omega) _⟩
          have := hsl.pre (k := q) (by have := Hq.out; have := Hol.out; omega)
          rw [Hqd.out, Hv.out] at this
          exact this
set_option maxRecDepth 100000 in
set_option maxHeartbeats 800000 in
/-- Plus, the longer one behind. -/
theorem plus_lt (xs ys : List Int) (a b : Option Addr) (n m c d : Nat) (w : World) (ha : SL w.heap.size w a n c xs) (hb : SL w.heap.size w b m d ys) (hn : n ≤ 1000000) (hm : m < n) (hx : Dig xs) (hy : Dig ys) :
    Calls Try.prog 53 #[.slice b m d, .slice a n c] w (RetS w (digs (val xs + val ys).toNat)) := by
  have Ha := Lib.hid ha; have Hb := Lib.hid hb; clear ha hb
  have Hx := Lib.hid hx; have Hy := Lib.hid hy; clear hx hy
  go_enter Try.func53, Try.ntmps53
  go_wp2_with (refine wpList_make_ints rfl (.tmp 18) (.tmp 18) 84 rfl Try.underlying84 ((n : Int) + 1) (n + 1) rfl rfl rfl (by omega) ?_)
  intro w1 hz1 hb1
  have hgs := hz1.lt
  generalize hg : w.heap.size = g at *
  have Hg := Lib.hid hg; clear hg
  go_wp2_with (refine wpList_copy_ints rfl (.tmp 20) (.tmp 21) 84 84 rfl Try.underlying84 g (n + 1) (n + 1) _ n c rfl rfl g xs _ (Ha.out.below hb1 (Nat.le_refl _)) hz1 (by simp) (by rw [← Ha.out.len]; simp) g w hb1 (Nat.le_refl _) ?_)
  intro w2 hz2 hb2
  clear hz1 hb1 hgs
  go_wp2_with fail
  go_loopw [25] (fun v wr => ∃ (k : Nat) (out : List Int), k ≤ m ∧ v = .int .i64 k ∧ Blk wr g out ∧ P1 xs ys n k out ∧ Below g w wr) (fun v _ => m - (intOf v).toNat)
  case atStart => exact ⟨0, _, Nat.zero_le _, rfl, hz2, P1.start Hx.out Ha.out.len, hb2⟩
  case round =>
    obtain ⟨k, out, hk, rfl, hblk, hp, hbw⟩ := hrel
    by_cases hkm : k < m
    · obtain ⟨hl, _, gb⟩ := Hb.out
      obtain ⟨bb, ob, rfl, hbb, cb⟩ := gb (by omega)
      have hbb' : bb < g := hbb
      have g1 := (hbw.cell (p := ⟨bb, ob + k, none⟩) hbb').trans (cb k hkm)
      have hol : out.length = n + 1 := hp.1
      have g2 := hblk.cell (j := k) (by omega)
      have g3 := hblk.free k
      have hxk := hp.2.1 k
      have hyk := Hy.out.all k
      have Hl := Lib.hid hl; have Hol := Lib.hid hol
      clear gb cb hl hbb hol
      generalize hxx : out.getD k 0 = x at *
      generalize hyy : ys.getD k 0 = y at *
      have Hxx := Lib.hid hxx; have Hyy := Lib.hid hyy; clear hxx hyy
      go_wp2
      go_roundw
      case rel =>
        refine ⟨k + 1, _, by omega, by go_num, hblk.set k (by have := Hol.out; omega) (x + y), ?_, hbw.setCell (Nat.le_refl _) _⟩
        have := hp.step Hy.out (by have := Hl.out; omega) (by omega)
        rw [Hxx.out, Hyy.out] at this
        exact this
      case measure => simp [intOf]; omega
    · obtain rfl : k = m := by omega
      go_wp2_with fail
      go_loopw [40] (fun v wr => ∃ (k : Nat) (out : List Int), k ≤ n ∧ v = .int .i64 k ∧ Blk wr g out ∧ P2 (val xs + val ys) n k out ∧ Below g w wr) (fun v _ => n - (intOf v).toNat)
      case atStart => exact ⟨0, _, Nat.zero_le _, rfl, hblk, P2.start hp Hb.out.len, hbw⟩
      case round =>
        clear hp hblk hbw
        obtain ⟨k, out, hk, rfl, hblk, hp, hbw⟩ := hrel
        have hol : out.length = n + 1 := hp.1
        have Hol := Lib.hid hol; clear hol
        by_cases hkn : k < n
        · have g2 := hblk.cell (j := k) (by have := Hol.out; omega)
          have g3 := hblk.free k
          have g4 := hblk.free (k + 1)
          have g5 := hblk.cell (j := k + 1) (by have := Hol.out; omega)
          have hxk := hp.2.1 k
          have hyk := hp.2.1 (k + 1)
          have g6 := (World.cell?_setCell_other (w := wr) (a := ⟨g, k, none⟩) (b := ⟨g, k + 1, none⟩) (v := .int .i64 (out.getD k 0 - 1000000000)) (by simp)).trans g5
          clear g5
          generalize hxx : out.getD k 0 = x at *
          generalize hyy : out.getD (k + 1) 0 = y at *
          have Hxx := Lib.hid hxx; have Hyy := Lib.hid hyy; clear hxx hyy
          by_cases hc : 1000000000 ≤ x
          · go_wp2
            go_roundw
            case rel =>
              refine ⟨k + 1, _, by omega, by go_num, (hblk.set k (by have := Hol.out; omega) (x - 1000000000)).set (k + 1) (by have := Hol.out; simp; omega) (y + 1), ?_, (hbw.setCell (Nat.le_refl _) _).setCell (Nat.le_refl _) _⟩
              have := hp.more hkn (by rw [Hxx.out]; exact hc)
              rw [Hxx.out, Hyy.out] at this
              exact this
            case measure => simp [intOf]; omega
          · go_wp2
            go_roundw
            case rel => exact ⟨k + 1, out, by omega, by go_num, hblk, hp.less hkn (by rw [Hxx.out]; omega), hbw⟩
            case measure => simp [intOf]; omega
        · obtain rfl : k = n := by omega
          obtain ⟨hd, hv⟩ := hp.dig
          have Hv := Lib.hid hv; clear hv
          have hsl := hblk.sl (c := k + 1) (by have := Hol.out; omega)
          rw [Hol.out] at hsl
          go_wp2_with fail
          refine (trim_any out _ _ _ _ hsl hd (by omega)).mono ?_
          rintro e w' ⟨q, rfl, hq, hqd, rfl⟩
          have Hqd := Lib.hid hqd; clear hqd
          have Hq := Lib.hid hq; clear hq
          go_wp2
          go_ret
          refine ⟨_, _, _, rfl, ?_, by rw [Hg.out]; exact hbw, Fresh.mk (by rw [Hg.out]; omega) _⟩
          have := hsl.pre (k := q) (by have := Hq.out; have := Hol.out; omega)
          rw [Hqd.out, Hv.out] at this
          exact this

theorem plus_any (x y : Nat) (a b : Option Addr) (n m c d : Nat) (w : World) (ha : SL w.heap.size w a n c (digs x)) (hb : SL w.heap.size w b m d (digs y)) (hn : n ≤ 1000000) (hm : m ≤ 1000000) :
    Calls Try.prog 53 #[.slice a n c, .slice b m d] w (RetS w (digs (x + y))) := by
  by_cases h : m ≤ n
  · have := plus_ge _ _ a b n m c d w ha hb hn h (dig_digs x) (dig_digs y)
    rw [val_digs, val_digs] at this
    exact this
  · have := plus_lt _ _ b a m n d c w hb ha hm (by omega) (dig_digs y) (dig_digs x)
    rw [val_digs, val_digs, Int.add_comm] at this
    exact this

end Go.Proofs.Ytkfkdkoohnfgaaa
