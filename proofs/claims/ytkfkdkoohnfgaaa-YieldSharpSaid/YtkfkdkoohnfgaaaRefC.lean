/-
  DERIVED. The walks of the reference's long integers, third part: less, Right, told.
-/
import Derived.Test.YtkfkdkoohnfgaaaRefB
namespace Go.Proofs.Ytkfkdkoohnfgaaa
open Go.RowKit

set_option maxHeartbeats 400000 in
theorem less_len (a b : Option Addr) (n m c d : Nat) (w : World) (hne : n ≠ m) :
    Calls Try.prog 78 #[.slice a n c, .slice b m d] w (RetQ w (.bool (decide ((n : Int) - m < 0)))) := by
  have h1 : ((n : Int) != m) = true := by simp; omega
  clear hne
  go_enter Try.func78, Try.ntmps78
  go_wp2
  go_ret
  refine ⟨?_, 0, rfl⟩
  show Ending.returned (.bool (decide (n < m))) = _
  have h2 : decide (n < m) = decide ((n : Int) - m < 0) := by rw [decide_eq_decide]; omega
  rw [h2]

set_option maxHeartbeats 400000 in
theorem less_same (xs ys : List Int) (a b : Option Addr) (n c d : Nat) (w : World) (ha : SL w.heap.size w a n c xs) (hb : SL w.heap.size w b n d ys) (hn : n ≤ 1000000000) (hx : Dig xs) (hy : Dig ys) :
    Calls Try.prog 78 #[.slice a n c, .slice b n d] w (RetQ w (.bool (decide (cmpTo xs ys n < 0)))) := by
  have Ha := Lib.hid ha; have Hb := Lib.hid hb; clear ha hb
  have Hx := Lib.hid hx; have Hy := Lib.hid hy; clear hx hy
  generalize hR : decide (cmpTo xs ys n < 0) = R
  have HR := Lib.hid hR; clear hR
  go_enter Try.func78, Try.ntmps78
  go_wp2
  go_loopw [5] (fun v wr => ∃ k j : Nat, k ≤ n ∧ v = .int .i64 ((k : Int) - 1) ∧ cmpTo xs ys n = cmpTo xs ys k ∧ wr = w.drewN j) (fun v _ => (intOf v + 1).toNat)
  case atStart => exact ⟨n, 0, Nat.le_refl _, by go_num, rfl, rfl⟩
  case round =>
    obtain ⟨k, j, hk, rfl, ht, rfl⟩ := hrel
    have Ht := Lib.hid ht; clear ht
    by_cases h0 : k = 0
    · subst h0
      have hRf : R = false := by rw [← HR.out, Ht.out]; rfl
      subst hRf
      go_wp2
      go_ret
      exact ⟨rfl, _, rfl⟩
    · obtain ⟨k, rfl⟩ : ∃ i, k = i + 1 := ⟨k - 1, by omega⟩
      obtain ⟨_, _, ga⟩ := Ha.out
      obtain ⟨ba, oa, rfl, _, ca⟩ := ga (by omega)
      obtain ⟨_, _, gb⟩ := Hb.out
      obtain ⟨bb, ob, rfl, _, cb⟩ := gb (by omega)
      have g1 := ca k (by omega)
      have g3 := cb k (by omega)
      have g2 : (((k + 1 : Nat) : Int) - 1) = (k : Int) := by omega
      rw [g2]
      have g4 : (k : Int) < n := by omega
      have hxk := Hx.out.all k
      have hyk := Hy.out.all k
      clear g2 ca cb ga gb h0
      generalize hxx : xs.getD k 0 = x at *
      generalize hyy : ys.getD k 0 = y at *
      have Hxx := Lib.hid hxx; have Hyy := Lib.hid hyy; clear hxx hyy
      go_wp2
      go_quiet (fail)
      go_wp2
      · go_quiet (fail)
        go_wp2
        go_ret
        have hne : (x != y) = true := by assumption
        refine ⟨?_, by simp only [World.drewN_drewN]; exact ⟨_, rfl⟩⟩
        show Ending.returned (.bool (decide (x < y))) = _
        rw [← HR.out, Ht.out]
        simp only [cmpTo, Hxx.out, Hyy.out]
        rw [if_neg (by simpa using hne)]
        congr 2
        rw [decide_eq_decide]; omega
      · have hne : (x != y) = false := by assumption
        have hne' : x = y := by simpa using hne
        have Hne := Lib.hid hne'; clear hne' hne
        go_roundw
        case rel =>
          refine ⟨k, _, by omega, rfl, ?_, rfl⟩
          rw [Ht.out]
          simp only [cmpTo, Hxx.out, Hyy.out]
          rw [if_pos Hne.out]
        case measure => simp [intOf]

theorem less_any (x y : Nat) (a b : Option Addr) (n m c d : Nat) (w : World) (ha : SL w.heap.size w a n c (digs x)) (hb : SL w.heap.size w b m d (digs y)) (hn : n ≤ 1000000000) :
    Calls Try.prog 78 #[.slice a n c, .slice b m d] w (RetQ w (.bool (decide (x < y)))) := by
  have e : decide (x < y) = decide (cmpS (digs x) (digs y) < 0) := by rw [decide_eq_decide]; exact cmpS_sign.2.symm
  rw [e]
  by_cases h : n = m
  · subst h
    have := less_same _ _ a b n c d w ha hb hn (dig_digs x) (dig_digs y)
    unfold cmpS
    rw [if_pos (by rw [← ha.len, ← hb.len]), ← ha.len]
    exact this
  · have := less_len a b n m c d w h
    unfold cmpS
    rw [if_neg (by rw [← ha.len, ← hb.len]; exact h), ← ha.len, ← hb.len]
    exact this

set_option maxRecDepth 100000 in
set_option maxHeartbeats 400000 in
theorem right_ok (s : Bool) (z : Int) (a : Option Addr) (n c : Nat) (w : World) (h : LG w.heap.size w s a n c z) :
    Calls Try.prog 63 #[.agg #[.bool s, .slice a n c]] w (RetB w (.bool true)) := by
  have hsl := h.2.1
  have hs := h.1
  have hn := h.2.2
  have hd := dig_digs z.natAbs
  have ht := top_digs z.natAbs
  have hl := hsl.len
  generalize hzs : digs z.natAbs = zs at *
  have Hs := Lib.hid hs; have Hd := Lib.hid hd; have H := Lib.hid hsl; have Hl := Lib.hid hl; have Ht := Lib.hid ht; have Hzs := Lib.hid hzs; clear hs hd hsl h hl ht hzs
  have kk := ref_two w (.bool s) (.slice a n c) 51
  by_cases h0 : n = 0
  · have hsf : s = false := by
      rw [Hs.out]
      have := digs_len_zero.1 (by rw [Hzs.out, ← Hl.out]; exact h0)
      simp; omega
    subst h0 hsf
    go_enter Try.func63, Try.ntmps63
    go_wp2
    go_ret
    exact ⟨rfl, (Below.refl _ _).alloc (Nat.le_refl _) _⟩
  · obtain ⟨b, off, rfl, hb, ca⟩ := H.out.at (by omega)
    have hn0 : 0 < n := by omega
    have htop : zs.getD (n - 1) 0 ≠ 0 := by have := Ht.out; have e := Hl.out; rw [e] at hn0 ⊢; exact this hn0
    have g0 : ∀ j, (w.alloc (.cells #[.bool s, .slice (some ⟨b, off, none⟩) n c] 51)).cell? ⟨b, off + j, none⟩ = w.cell? ⟨b, off + j, none⟩ := fun j => ((Below.refl w.heap.size w).alloc (Nat.le_refl _) _).cell (p := ⟨b, off + j, none⟩) hb
    have g1 := (g0 (n - 1)).trans (ca (n - 1) (by omega))
    have g2 : ((n : Int) - 1).toNat = n - 1 := by omega
    have g3 : (zs.getD (n - 1) 0 == 0) = false := by simpa using htop
    have g6 : (zs.getD (n - 1) 0 != 0) = true := by simpa using htop
    have g4 : ((n : Int) == 0) = false := by simp; omega
    have g5 : n - 1 < n := by omega
    have Hca := Lib.hid ca; have G0 := Lib.hid g0
    clear ca h0 htop g0
    generalize hxx : zs.getD (n - 1) 0 = x at *
    have Hxx := Lib.hid hxx; clear hxx
    have G1 := Lib.hid g1; clear g1
    go_enter Try.func63, Try.ntmps63
    go_wp2
    go_loop [3] (fun v => ∃ k : Nat, k ≤ n ∧ v = .int .i64 k) (fun v => n - (intOf v).toNat)
    case atStart => exact ⟨0, Nat.zero_le _, rfl⟩
    case round =>
      obtain ⟨k, hk, rfl⟩ := hrel
      by_cases hkn : k < n
      · have g1 := (G0.out k).trans (Hca.out k (by omega))
        have g2 := Hd.out.all k
        generalize zs.getD k 0 = y at *
        go_wp2
        go_round
        case rel => exact ⟨k + 1, by omega, by go_num⟩
        case measure => simp [intOf]; omega
      · have g1 := G1.out
        go_wp2
        go_ret
        exact ⟨rfl, (Below.refl _ _).alloc (Nat.le_refl _) _⟩

/-- the slot lies below N, or in none of the blocks below M -/
def Out (N M : Nat) (a : Option Addr) (n : Nat) : Prop := ∀ b off, a = some ⟨b, off, none⟩ → 0 < n → b < N ∨ M ≤ b

theorem Out.ofFresh {N M : Nat} {a : Option Addr} {n : Nat} (h : Fresh M a n) : Out N M a n := fun b off e h0 => Or.inr (h b off e h0)
theorem Out.ofLG {N M : Nat} {w : World} {s : Bool} {a : Option Addr} {n c : Nat} {z : Int} (h : LG N w s a n c z) : Out N M a n := fun b off e h0 => by
  obtain ⟨b', off', e', hb, _⟩ := h.2.1.at h0
  rw [e] at e'; cases e'; exact Or.inl hb
theorem Out.mono {N M N' M' : Nat} {a : Option Addr} {n : Nat} (h : Out N M a n) (hN : N ≤ N') (hM : M' ≤ M) : Out N' M' a n := fun b off e h0 => by
  rcases h b off e h0 with h | h
  · exact Or.inl (by omega)
  · exact Or.inr (by omega)

/-- a call that gives back a long integer, in memory of its own or in that of one below N -/
def RetA1 (N : Nat) (w : World) (z : Int) (e : Ending) (w' : World) : Prop :=
  ∃ s a n c, e = .returned (.agg #[.bool s, .slice a n c]) ∧ LG w'.heap.size w' s a n c z ∧ Below w.heap.size w w' ∧ Out N w.heap.size a n
def RetA (N : Nat) (w : World) (z : Int) (e : Ending) (w' : World) : Prop :=
  ∃ s a n c, e = .returned (.tuple #[.agg #[.bool s, .slice a n c], .int .i64 0]) ∧ LG w'.heap.size w' s a n c z ∧ Below w.heap.size w w' ∧ Out N w.heap.size a n

/-- the result is stored into a block of the call's own -/
theorem lg_stored {w3 : World} {s : Bool} {a : Option Addr} {n c N M blk : Nat} {z : Int} (hlg : LG w3.heap.size w3 s a n c z) (ho : Out N M a n) (h1 : N ≤ blk) (h2 : blk < M) (u v : Value) :
    LG ((w3.setCell ⟨blk, 0, none⟩ u).setCell ⟨blk, 1, none⟩ v).heap.size ((w3.setCell ⟨blk, 0, none⟩ u).setCell ⟨blk, 1, none⟩ v) s a n c z := by
  have hne : ∀ b off, a = some ⟨b, off, none⟩ → 0 < n → b ≠ blk := fun b off e h0 => by rcases ho b off e h0 with h | h <;> omega
  have := (hlg.setCell ⟨blk, 0, none⟩ u hne).setCell ⟨blk, 1, none⟩ v hne
  simpa using this

set_option maxHeartbeats 400000 in
theorem refTold_ok (s : Bool) (a : Option Addr) (n c : Nat) (w : World) (hn : n ≤ 600) :
    Calls Try.prog 73 #[.agg #[.bool s, .slice a n c]] w (RetB w (.tuple #[.agg #[.bool s, .slice a n c], .int .i64 0])) := by
  have hn' : ¬ 600 < n := by omega
  go_enter Try.func73, Try.ntmps73
  obtain ⟨e1, e2⟩ := heap_two w (.cells #[.bool s, .slice a n c] 51) (.cells #[.bool s, .slice a n c] 51)
  obtain ⟨c0, c1, _, _⟩ := cells_at e2
  have C0 := Lib.hid c0; have C1 := Lib.hid c1; clear c0 c1 e1 e2
  go_wp2
  refine bodyPost_ret (v := .tuple #[.agg #[.bool s, .slice a n c], .int .i64 0]) ?_ rfl ?_
  · simp [results, Try.results73, go_sem, C0.out, C1.out]
  · exact ⟨rfl, ((Below.refl w.heap.size w).alloc (Nat.le_refl _) _).alloc (by simp) _⟩

end Go.Proofs.Ytkfkdkoohnfgaaa
