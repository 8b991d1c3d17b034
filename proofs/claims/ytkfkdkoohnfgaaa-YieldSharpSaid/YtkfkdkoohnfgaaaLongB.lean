/-
  DERIVED. The walks of package long, second part: Of.
-/
import Derived.Test.YtkfkdkoohnfgaaaLongA
namespace Go.Proofs.Ytkfkdkoohnfgaaa
open Go.RowKit

/-- a call that gives back a long integer -/
def RetL1 (w : World) (z : Int) (e : Ending) (w' : World) : Prop :=
  ∃ s a n c, e = .returned (.agg #[.bool s, .slice a n c]) ∧ LG w'.heap.size w' s a n c z ∧ Below w.heap.size w w' ∧ Fresh w.heap.size a n

theorem tmod_of_neg {k : Int} (h : k < 0) : k.tmod 1000000000 = -((-k) % 1000000000) := by
  rw [show k.tmod 1000000000 = -((-k).tmod 1000000000) by rw [Int.neg_tmod]; omega, Int.tmod_eq_emod_of_nonneg (by omega)]
theorem tdiv_of_neg {k : Int} (h : k < 0) : k.tdiv 1000000000 = -((-k) / 1000000000) := by
  rw [show k.tdiv 1000000000 = -((-k).tdiv 1000000000) by rw [Int.neg_tdiv]; omega, Int.tdiv_eq_ediv_of_nonneg (by omega)]

/-- what holds ahead of each round of Of -/
def OfRel (n : Int) (w : World) (q : Value) (wr : World) : Prop :=
  ∃ (k : Int) (va : Option Addr) (vc : Nat) (zs : List Int), q = .int .i64 k ∧ -9223372036854775808 ≤ k ∧ k ≤ 9223372036854775807 ∧ digs n.natAbs = zs ++ digs k.natAbs ∧
    wr.ownsRow (w.heap.size + 2) 3 1 (.slice va zs.length vc) zs.length (zs.map (Value.int .i64)) ∧
    wr.heap[w.heap.size]? = some (.cells #[.bool false, .slice none 0 0] 51 (0, 0)) ∧
    wr.heap[w.heap.size + 1]? = some (.cells #[.bool (decide (n < 0)), .slice va zs.length vc] 51 (0, 0)) ∧ Below w.heap.size w wr ∧ w.heap.size + 2 ≤ wr.heap.size

theorem heap_two (w : World) (o p : Obj) : ((w.alloc o).alloc p).heap[w.heap.size]? = some o ∧ ((w.alloc o).alloc p).heap[w.heap.size + 1]? = some p := by
  constructor
  · rw [Below.heap_alloc _ _ _ (by simp)]; exact heap_alloc_new _ _
  · have := heap_alloc_new (w.alloc o) p
    simpa using this

theorem length_digs_int (n : Int) (h1 : -9223372036854775808 ≤ n) (h2 : n ≤ 9223372036854775807) : (digs n.natAbs).length ≤ 3 :=
  length_digs_le (by simp; omega)

set_option maxRecDepth 100000 in
set_option maxHeartbeats 800000 in
theorem of_any (n : Int) (w : World) (h1 : -9223372036854775808 ≤ n) (h2 : n ≤ 9223372036854775807) :
    Calls Try.prog 19 #[.int .i64 n] w (RetL1 w n) := by
  have hlen := length_digs_int n h1 h2
  have Hlen := Lib.hid hlen; clear hlen
  go_enter Try.func19, Try.ntmps19
  go_wp2_with fail
  go_loopw [0] (fun q wr => OfRel n w q wr) (fun q _ => (intOf q).natAbs)
  case atStart =>
    obtain ⟨e1, e2⟩ := heap_two w (.cells #[.bool false, .slice none 0 0] 51) (.cells #[.bool (decide (n < 0)), .slice none 0 0] 51)
    exact ⟨n, none, 0, [], rfl, h1, h2, by simp, World.ownsRow_nil _ _ _ _, e1, e2, ((Below.refl _ _).alloc (Nat.le_refl _) _).alloc (by simp) _, by simp⟩
  case round =>
    obtain ⟨k, va, vc, zs, rfl, hk1, hk2, hd, hown, hc1, hc2, hbw, hsz⟩ := hrel
    have k10 : wr.cell? ⟨w.heap.size + 1, 0, none⟩ = some (.bool (decide (n < 0))) := by simp [World.cell?, hc2]
    have k11 : wr.cell? ⟨w.heap.size + 1, 1, none⟩ = some (.slice va zs.length vc) := by simp [World.cell?, hc2]
    have k12 : ∀ i, wr.frozen? ⟨w.heap.size + 1, i, none⟩ = false := fun i => by simp [World.frozen?, hc2]
    have Hd := Lib.hid hd; have Hown := Lib.hid hown; have Hc1 := Lib.hid hc1; have Hc2 := Lib.hid hc2; clear hd hown hc1 hc2
    by_cases hk0 : k = 0
    · subst hk0
      have j10 : wr.cell? ⟨w.heap.size, 0, none⟩ = some (.bool false) := by simp [World.cell?, Hc1.out]
      have j11 : wr.cell? ⟨w.heap.size, 1, none⟩ = some (.slice none 0 0) := by simp [World.cell?, Hc1.out]
      have j20 : wr.frozen? ⟨w.heap.size, 0, none⟩ = false := by simp [World.frozen?, Hc1.out]
      have j21 : wr.frozen? ⟨w.heap.size, 1, none⟩ = false := by simp [World.frozen?, Hc1.out]
      have Hsl := Lib.hid (owns_sl Hown.out)
      have Hcs := Lib.hid (owns_cells Hown.out)
      go_wp2
      refine bodyPost_ret (v := .agg #[.bool (decide (n < 0)), .slice va zs.length vc]) ?_ rfl ?_
      · simp [results, Try.results19, go_sem, j10, j11]
      · have hzs : digs n.natAbs = zs := by have := Hd.out; simpa [digs_zero] using this
        refine ⟨_, va, zs.length, vc, rfl, ⟨rfl, ?_, by have := Hlen.out; rw [hzs] at this; omega⟩, (hbw.setCell (Nat.le_refl _) _).setCell (Nat.le_refl _) _, ?_⟩
        rotate_left
        · rcases Hcs.out.2 with ⟨e, h0⟩ | ⟨g, cap, e, hg, hcap, hcells⟩
          · rw [h0]; exact Fresh.zero _ _
          · injection e with e1 e2 e3
            rw [e1]; exact Fresh.mk (by omega) _
        rw [hzs]
        refine ⟨rfl, Hsl.out.cap, fun h0 => ?_⟩
        rcases Hcs.out.2 with ⟨_, e⟩ | ⟨g, cap, e, hg, hcap, hcells⟩
        · omega
        · injection e with e1 e2 e3
          subst e1 e3
          refine ⟨g, 0, rfl, by simpa using hcells.lt, fun j hj => ?_⟩
          have := (hcells.other ⟨w.heap.size, 0, none⟩ (by simp; omega) (.bool (decide (n < 0)))).other ⟨w.heap.size, 1, none⟩ (by simp; omega) (.slice (some ⟨g, 0, none⟩) zs.length vc)
          rw [Nat.zero_add, this.cell (by simp; omega)]
          simp [List.getD_eq_getElem?_getD, List.getElem?_eq_getElem hj]
    · have hb : ((k : Int) != 0) = true := by simpa using hk0
      have Hk0 := Lib.hid hk0; clear hk0
      by_cases hpos : 0 ≤ k
      · have hd3 := Hd.out
        have hkp : 0 < k.natAbs := by have := Hk0.out; omega
        have hlz : zs.length ≤ 3 := by have := Hlen.out; rw [hd3, List.length_append] at this; omega
        clear hd3
        go_wp2_with (refine wpList_append_ints rfl (.tmp 15) (.tmp 20) 49 rfl Try.underlying49 (w.heap.size + 2) _ _ zs rfl (Hown.out.alloc _) _ _ 1 1 [_] rfl (SL.one wr _ _) (by simp) (by omega) (by simp; omega) ?_)
        intro v' w1 hown1 hgrow
        obtain ⟨va', vc', rfl⟩ := owns_slice hown1
        have e1 := (grown_old (base := w.heap.size + 2) Hown.out hgrow (b := w.heap.size) (by omega) hsz).trans Hc1.out
        have e2 := (grown_old (base := w.heap.size + 2) Hown.out hgrow (b := w.heap.size + 1) (by omega) hsz).trans Hc2.out
        have e3 := grown_below hbw Hown.out hgrow (by omega) hsz
        have e4 := hgrow.size
        have f11 : w1.cell? ⟨w.heap.size + 1, 1, none⟩ = some (.slice va zs.length vc) := by simp [World.cell?, e2]
        have f12 : w1.frozen? ⟨w.heap.size + 1, 1, none⟩ = false := by simp [World.frozen?, e2]
        have He1 := Lib.hid e1; have He2 := Lib.hid e2; have Hown1 := Lib.hid hown1; clear e1 e2 hown1 hgrow k10 k11 k12
        go_wp2
        go_roundw
        case rel =>
          have hx : digs k.natAbs = [k % 1000000000] ++ digs (k / 1000000000).natAbs := by
            rw [digs_pos hkp, show ((k.natAbs % 1000000000 : Nat) : Int) = k % 1000000000 by omega, show k.natAbs / 1000000000 = (k / 1000000000).natAbs by omega]; rfl
          refine ⟨k / 1000000000, va', vc', zs ++ [k % 1000000000], rfl, by omega, by omega, ?_, ?_, obj_other He1.out _ (by simp) _, ?_, e3.setCell (by simp) _, ?_⟩
          · rw [Hd.out, hx, List.append_assoc]
          · have := ownsRow_setCell_below Hown1.out (a := ⟨w.heap.size + 1, 1, none⟩) (by simp) (.slice va' (zs.length + 1) vc')
            simpa using this
          · have := obj_setCell He2.out 1 (.slice va' (zs.length + 1) vc')
            simpa using this
          · simp at e4 ⊢; omega
        case measure => simp [intOf]; omega
      · have ht := tmod_of_neg (k := k) (by omega)
        have hq := tdiv_of_neg (k := k) (by omega)
        have hd3 := Hd.out
        have hkp : 0 < k.natAbs := by have := Hk0.out; omega
        have hlz : zs.length ≤ 3 := by have := Hlen.out; rw [hd3, List.length_append] at this; omega
        have hr0 : 0 ≤ (-k) % 1000000000 := by omega
        have hr1 : (-k) % 1000000000 < 1000000000 := by omega
        have hq0 : 0 ≤ (-k) / 1000000000 := by omega
        have hq1 : (-k) / 1000000000 ≤ 9223372037 := by omega
        have hx : digs k.natAbs = [(-k) % 1000000000] ++ digs (-((-k) / 1000000000)).natAbs := by
          rw [digs_pos hkp, show ((k.natAbs % 1000000000 : Nat) : Int) = (-k) % 1000000000 by omega, show k.natAbs / 1000000000 = (-((-k) / 1000000000)).natAbs by omega]; rfl
        have hmeas : ((-k) / 1000000000).natAbs < k.natAbs := by omega
        have Hx := Lib.hid hx; clear hx
        clear hd3
        by_cases hr : (-k) % 1000000000 = 0
        · rw [hr] at ht
          rw [show (-0 : Int) = 0 from rfl] at ht
          have Hr := Lib.hid hr; clear hr
          go_wp2_with (refine wpList_append_ints rfl (.tmp 15) (.tmp 20) 49 rfl Try.underlying49 (w.heap.size + 2) _ _ zs rfl (Hown.out.alloc _) _ _ 1 1 [_] rfl (SL.one wr _ _) (by simp) (by omega) (by simp; omega) ?_)
          intro v' w1 hown1 hgrow
          obtain ⟨va', vc', rfl⟩ := owns_slice hown1
          have e1 := (grown_old (base := w.heap.size + 2) Hown.out hgrow (b := w.heap.size) (by omega) hsz).trans Hc1.out
          have e2 := (grown_old (base := w.heap.size + 2) Hown.out hgrow (b := w.heap.size + 1) (by omega) hsz).trans Hc2.out
          have e3 := grown_below hbw Hown.out hgrow (by omega) hsz
          have e4 := hgrow.size
          have f11 : w1.cell? ⟨w.heap.size + 1, 1, none⟩ = some (.slice va zs.length vc) := by simp [World.cell?, e2]
          have f12 : w1.frozen? ⟨w.heap.size + 1, 1, none⟩ = false := by simp [World.frozen?, e2]
          have He1 := Lib.hid e1; have He2 := Lib.hid e2; have Hown1 := Lib.hid hown1; clear e1 e2 hown1 hgrow k10 k11 k12
          go_wp2
          go_roundw
          case rel =>
            refine ⟨-((-k) / 1000000000), va', vc', zs ++ [0], rfl, by omega, by omega, ?_, ?_, obj_other He1.out _ (by simp) _, ?_, e3.setCell (by simp) _, ?_⟩
            · rw [Hd.out, Hx.out, Hr.out, List.append_assoc]
            · have := ownsRow_setCell_below Hown1.out (a := ⟨w.heap.size + 1, 1, none⟩) (by simp) (.slice va' (zs.length + 1) vc')
              simpa using this
            · have := obj_setCell He2.out 1 (.slice va' (zs.length + 1) vc')
              simpa using this
            · simp at e4 ⊢; omega
          case measure => simp [intOf]; omega
        · have hr' : 0 < (-k) % 1000000000 := by omega
          clear hr
          go_wp2_with (refine wpList_append_ints rfl (.tmp 15) (.tmp 20) 49 rfl Try.underlying49 (w.heap.size + 2) _ _ zs rfl (Hown.out.alloc _) _ _ 1 1 [_] rfl (SL.one wr _ _) (by simp) (by omega) (by simp; omega) ?_)
          intro v' w1 hown1 hgrow
          obtain ⟨va', vc', rfl⟩ := owns_slice hown1
          have e1 := (grown_old (base := w.heap.size + 2) Hown.out hgrow (b := w.heap.size) (by omega) hsz).trans Hc1.out
          have e2 := (grown_old (base := w.heap.size + 2) Hown.out hgrow (b := w.heap.size + 1) (by omega) hsz).trans Hc2.out
          have e3 := grown_below hbw Hown.out hgrow (by omega) hsz
          have e4 := hgrow.size
          have f11 : w1.cell? ⟨w.heap.size + 1, 1, none⟩ = some (.slice va zs.length vc) := by simp [World.cell?, e2]
          have f12 : w1.frozen? ⟨w.heap.size + 1, 1, none⟩ = false := by simp [World.frozen?, e2]
          have He1 := Lib.hid e1; have He2 := Lib.hid e2; have Hown1 := Lib.hid hown1; clear e1 e2 hown1 hgrow k10 k11 k12
          go_wp2
          go_roundw
          case rel =>
            refine ⟨-((-k) / 1000000000), va', vc', zs ++ [(-k) % 1000000000], rfl, by omega, by omega, ?_, ?_, obj_other He1.out _ (by simp) _, ?_, e3.setCell (by simp) _, ?_⟩
            · rw [Hd.out, Hx.out, List.append_assoc]
            · have := ownsRow_setCell_below Hown1.out (a := ⟨w.heap.size + 1, 1, none⟩) (by simp) (.slice va' (zs.length + 1) vc')
              simpa using this
            · have := obj_setCell He2.out 1 (.slice va' (zs.length + 1) vc')
              simpa using this
            · simp at e4 ⊢; omega
          case measure => simp [intOf]; omega

end Go.Proofs.Ytkfkdkoohnfgaaa
