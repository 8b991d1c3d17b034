/-
  DERIVED. The walks of package long, first part: Check, told, Of.
-/
import Derived.Test.YtkfkdkoohnfgaaaSizeD
namespace Go.Proofs.Ytkfkdkoohnfgaaa
open Go.RowKit

/-- a valid long integer, as its sign and its slice, with the value z -/
def LG (N : Nat) (w : World) (s : Bool) (a : Option Addr) (n c : Nat) (z : Int) : Prop :=
  s = decide (z < 0) ∧ SL N w a n c (digs z.natAbs) ∧ n ≤ 600

theorem LG.below {N M w w' s a n c z} (h : LG N w s a n c z) (hb : Below M w w') (hN : N ≤ M) : LG N w' s a n c z := ⟨h.1, h.2.1.below hb hN, h.2.2⟩
theorem LG.mono {N M w s a n c z} (h : LG N w s a n c z) (hN : N ≤ M) : LG M w s a n c z := ⟨h.1, h.2.1.mono hN, h.2.2⟩
theorem LG.go {w w' s a n c z} (h : LG w.heap.size w s a n c z) (hb : Below w.heap.size w w') : LG w'.heap.size w' s a n c z := ⟨h.1, h.2.1.go hb, h.2.2⟩
theorem LG.zero (N : Nat) (w : World) (a : Option Addr) (c : Nat) : LG N w false a 0 c 0 := ⟨rfl, by simpa [digs_zero] using SL.nil N w a c, by omega⟩

set_option maxRecDepth 100000 in
set_option maxHeartbeats 400000 in
theorem check_ok (s : Bool) (z : Int) (a : Option Addr) (n c : Nat) (w : World) (h : LG w.heap.size w s a n c z) :
    Calls Try.prog 65 #[.agg #[.bool s, .slice a n c]] w (RetB w (.int .i64 0)) := by
  have hsl := h.2.1
  have hs := h.1
  have hn := h.2.2
  have hd := dig_digs z.natAbs
  have ht := top_digs z.natAbs
  have hl := hsl.len
  generalize hzs : digs z.natAbs = zs at *
  have Hs := Lib.hid hs; have Hd := Lib.hid hd; have H := Lib.hid hsl; have Hl := Lib.hid hl; have Ht := Lib.hid ht; have Hzs := Lib.hid hzs; clear hs hd hsl h hl ht hzs
  by_cases h0 : n = 0
  · have hsf : s = false := by
      rw [Hs.out]
      have := digs_len_zero.1 (by rw [Hzs.out, ← Hl.out]; exact h0)
      simp; omega
    subst h0 hsf
    go_enter Try.func65, Try.ntmps65
    go_wp2
    refine wp_loop_rounds 1 ?_
    rw [rounds_succ]
    go_wp2
    go_ret
    exact ⟨rfl, (Below.refl _ _).alloc (Nat.le_refl _) _⟩
  · obtain ⟨b, off, rfl, hb, ca⟩ := H.out.at (by omega)
    have hn0 : 0 < n := by omega
    have htop : zs.getD (n - 1) 0 ≠ 0 := by have := Ht.out; have e := Hl.out; rw [e] at hn0 ⊢; exact this hn0
    have g1 := ca (n - 1) (by omega)
    have g2 : ((n : Int) - 1).toNat = n - 1 := by omega
    have g3 : (zs.getD (n - 1) 0 == 0) = false := by simpa using htop
    have g4 : ((n : Int) == 0) = false := by simp; omega
    have Hca := Lib.hid ca
    clear ca h0 htop
    generalize hxx : zs.getD (n - 1) 0 = x at *
    have Hxx := Lib.hid hxx; clear hxx
    go_enter Try.func65, Try.ntmps65
    go_wp2
    clear g1 g2 g3
    go_loop [35] (fun v => ∃ k : Nat, k ≤ n ∧ v = .int .i64 k) (fun v => n - (intOf v).toNat)
    case atStart => exact ⟨0, Nat.zero_le _, rfl⟩
    case round =>
      obtain ⟨k, hk, rfl⟩ := hrel
      by_cases hkn : k < n
      · have g1 := Hca.out k (by omega)
        have g2 := Hd.out.all k
        generalize zs.getD k 0 = y at *
        go_wp2
        go_round
        case rel => exact ⟨k + 1, by omega, by go_num⟩
        case measure => simp [intOf]; omega
      · go_wp2
        go_ret
        exact ⟨rfl, (Below.refl _ _).alloc (Nat.le_refl _) _⟩

/-- a call that gives back a long integer and OK -/
def RetL (w : World) (z : Int) (e : Ending) (w' : World) : Prop :=
  ∃ s a n c, e = .returned (.tuple #[.agg #[.bool s, .slice a n c], .int .i64 0]) ∧ LG w'.heap.size w' s a n c z ∧ Below w.heap.size w w' ∧ Fresh w.heap.size a n

theorem told_post {w w1 : World} {o : Obj} (hb1 : Below (w.alloc o).heap.size (w.alloc o) w1) (u v : Value) (s : Bool) (a : Option Addr) (n c N : Nat) (hn : n ≤ 600)
    (hs : s = true → 0 < N) (h : SL w1.heap.size w1 a n c (digs N)) (hf : Fresh (w.heap.size + 1) a n) (z : Int) (hz : z = if s then -(N : Int) else N) :
    RetL w z (.returned (.tuple #[.agg #[.bool s, .slice a n c], .int .i64 0])) ((w1.setCell ⟨w.heap.size, 0, none⟩ u).setCell ⟨w.heap.size, 1, none⟩ v) := by
  have hne : ∀ b off, a = some ⟨b, off, none⟩ → 0 < n → b ≠ w.heap.size := fun b off e h0 => by have := hf b off e h0; omega
  refine ⟨s, a, n, c, rfl, ⟨?_, ?_, hn⟩, ((below_alloc hb1).setCell (Nat.le_refl _) _).setCell (Nat.le_refl _) _, hf.mono (by omega)⟩
  · subst hz; cases s
    · simp
    · have := hs rfl; simp; omega
  · have e : z.natAbs = N := by subst hz; cases s <;> simp
    rw [e]
    have := (h.setCell ⟨w.heap.size, 0, none⟩ u hne).setCell ⟨w.heap.size, 1, none⟩ v hne
    simpa using this

theorem LG.setCell {N w s a n c z} (h : LG N w s a n c z) (p : Addr) (u : Value) (hne : ∀ b off, a = some ⟨b, off, none⟩ → 0 < n → b ≠ p.block) : LG N (w.setCell p u) s a n c z :=
  ⟨h.1, h.2.1.setCell p u hne, h.2.2⟩

/-- a long integer and OK, the first one by way of a block of the call's own -/
theorem retL_mk {w w3 : World} {s : Bool} {a : Option Addr} {n c B : Nat} {z : Int} (hlg : LG w3.heap.size w3 s a n c z) (hb : Below w.heap.size w w3) (hf : Fresh B a n) (blk : Nat) (hblk : blk < B) (hw : w.heap.size ≤ blk) (u v : Value) :
    RetL w z (.returned (.tuple #[.agg #[.bool s, .slice a n c], .int .i64 0])) ((w3.setCell ⟨blk, 0, none⟩ u).setCell ⟨blk, 1, none⟩ v) := by
  have hne : ∀ b off, a = some ⟨b, off, none⟩ → 0 < n → b ≠ blk := fun b off e h0 => by have := hf b off e h0; omega
  refine ⟨s, a, n, c, rfl, ?_, (hb.setCell hw _).setCell hw _, hf.mono (by omega)⟩
  have := (hlg.setCell ⟨blk, 0, none⟩ u hne).setCell ⟨blk, 1, none⟩ v hne
  simpa using this

set_option maxHeartbeats 400000 in
theorem told_ok (s : Bool) (N : Nat) (a : Option Addr) (n c : Nat) (w : World) (h : SL w.heap.size w a n c (digs N)) (hn : n ≤ 600) :
    Calls Try.prog 52 #[.bool s, .slice a n c] w (RetL w (if s then -(N : Int) else N)) := by
  have H := Lib.hid h; clear h
  have hn' : n ≤ 1000000 := by omega
  have Hl := Lib.hid H.out.len
  rcases Nat.eq_zero_or_pos n with h0 | h0
  · subst h0
    obtain rfl : N = 0 := digs_len_zero.1 Hl.out.symm
    clear Hl
    have ez : (if s then -((0 : Nat) : Int) else ((0 : Nat) : Int)) = 0 := by cases s <;> rfl
    rw [ez]; clear ez
    cases s
    all_goals
      go_enter Try.func52, Try.ntmps52
      go_wp2_with fail
      refine (clone_any _ a 0 c _ (by simpa using H.out.alloc _) hn').mono ?_
      rintro e w1 ⟨v, rfl, hv, hb1⟩
      obtain ⟨k1, k2, k3⟩ := kept_new hb1
      have k10 := k1 0
      have k11 := k1 1
      have k20 := k2 0
      have k21 := k2 1
      simp at k10 k11
      clear k1 k2
      rcases hv with ⟨rfl, _⟩ | ⟨g, cc, rfl, hcc, hg, hblk⟩
      · go_wp2
        refine bodyPost_ret (v := .tuple #[.agg #[.bool false, .slice none 0 0], .int .i64 0]) ?_ rfl ?_
        · simp [results, Try.results52, go_sem, k10, k11]
        · exact told_post hb1 _ _ _ _ _ _ 0 (by omega) (by simp) (by rw [digs_zero]; exact SL.nil _ _ _ _) (Fresh.zero _ _) _ (by simp)
      · rw [digs_zero] at hcc ⊢
        clear hblk
        go_wp2
        refine bodyPost_ret (v := .tuple #[.agg #[.bool false, .slice (some ⟨g, 0, none⟩) 0 cc], .int .i64 0]) ?_ rfl ?_
        · simp [results, Try.results52, go_sem, k10, k11]
        · exact told_post hb1 _ _ _ _ _ _ 0 (by omega) (by simp) (by rw [digs_zero]; exact SL.nil _ _ _ _) (Fresh.zero _ _) _ (by simp)
  · cases s
    all_goals
      go_enter Try.func52, Try.ntmps52
      go_wp2_with fail
      refine (clone_any _ a n c _ (by simpa using H.out.alloc _) hn').mono ?_
      rintro e w1 ⟨v, rfl, hv, hb1⟩
      obtain ⟨k1, k2, k3⟩ := kept_new hb1
      have k10 := k1 0
      have k11 := k1 1
      have k20 := k2 0
      have k21 := k2 1
      simp at k10 k11
      clear k1 k2
      rcases hv with ⟨rfl, hnil⟩ | ⟨g, cc, rfl, hcc, hg, hblk⟩
      · exact absurd (by have := Hl.out; rw [hnil] at this; exact this) (by omega : n ≠ 0)
      · go_wp2
        first
          | (refine bodyPost_ret (v := .tuple #[.agg #[.bool false, .slice (some ⟨g, 0, none⟩) (digs N).length cc], .int .i64 0]) ?_ rfl ?_; · (simp [results, Try.results52, go_sem, k10, k11]; done))
          | (refine bodyPost_ret (v := .tuple #[.agg #[.bool true, .slice (some ⟨g, 0, none⟩) (digs N).length cc], .int .i64 0]) ?_ rfl ?_; · (simp [results, Try.results52, go_sem, k10, k11]; done))
        refine told_post hb1 _ _ _ _ _ _ N (by rw [← Hl.out]; omega) (fun _ => ?_) (hblk.sl hcc) (Fresh.mk (by simp at hg; omega) _) _ (by simp)
        exact Nat.pos_of_ne_zero fun e => by have := digs_len_zero.2 e; have := Hl.out; omega

end Go.Proofs.Ytkfkdkoohnfgaaa
