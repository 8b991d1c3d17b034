/-
  DERIVED. The walks of the reference's long integers, first part: made.
-/
import Derived.Test.YtkfkdkoohnfgaaaLongE
namespace Go.Proofs.Ytkfkdkoohnfgaaa
open Go.RowKit

/-- what holds ahead of each round of made's second loop -/
def MadeRel (s : Bool) (zs : List Int) (q : Nat) (w : World) (v : Value) (wr : World) : Prop :=
  ∃ (k : Nat) (va : Option Addr) (vc : Nat), v = .int .i64 k ∧ k ≤ q ∧ wr.ownsRow (w.heap.size + 2) 3 1 (.slice va k vc) k ((zs.take k).map (Value.int .i64)) ∧
    wr.heap[w.heap.size]? = some (.cells #[.bool false, .slice none 0 0] 51 (0, 0)) ∧
    wr.heap[w.heap.size + 1]? = some (.cells #[.bool s, .slice va k vc] 51 (0, 0)) ∧ Below w.heap.size w wr ∧ w.heap.size + 2 ≤ wr.heap.size

/-- a call that gives back a long integer in memory of its own, free to be written -/
def RetM (w : World) (z : Int) (e : Ending) (w' : World) : Prop :=
  ∃ s a n c, e = .returned (.agg #[.bool s, .slice a n c]) ∧ LG w'.heap.size w' s a n c z ∧ Below w.heap.size w w' ∧ Fresh w.heap.size a n ∧ (n = 0 ∨ ∃ g, a = some ⟨g, 0, none⟩ ∧ Blk w' g (digs z.natAbs)) ∧ (a = none → c = 0)

theorem made_end {s : Bool} {zs : List Int} {q vc : Nat} {va : Option Addr} {w wr : World} {z : Int} (hs : s = decide (z < 0)) (hz : digs z.natAbs = zs.take q) (hq : q ≤ 600)
    (hown : wr.ownsRow (w.heap.size + 2) 3 1 (.slice va q vc) q ((zs.take q).map (Value.int .i64))) (hb : Below w.heap.size w wr) :
    RetM w z (.returned (.agg #[.bool s, .slice va q vc])) ((wr.setCell ⟨w.heap.size, 0, none⟩ (.bool s)).setCell ⟨w.heap.size, 1, none⟩ (.slice va q vc)) := by
  have hsl := owns_sl hown
  have hf : Fresh (w.heap.size + 2) va q := by
    rcases (owns_cells hown).2 with ⟨e, h0⟩ | ⟨g, cap, e, hg, hcap, hcells⟩
    · rw [h0]; exact Fresh.zero _ _
    · injection e with e1 e2 e3
      rw [e1]; exact Fresh.mk hg _
  have hne : ∀ b off, va = some ⟨b, off, none⟩ → 0 < q → b ≠ w.heap.size := fun b off e h0 => by have := hf b off e h0; omega
  refine ⟨s, va, q, vc, rfl, ⟨hs, ?_, hq⟩, (hb.setCell (Nat.le_refl _) _).setCell (Nat.le_refl _) _, hf.mono (by omega), ?_, ?_⟩
  rotate_left
  · rcases (owns_cells hown).2 with ⟨e, h0⟩ | ⟨g, cap, e, hg, hcap, hcells⟩
    · exact Or.inl h0
    · injection e with e1 e2 e3
      refine Or.inr ⟨g, e1, ?_⟩
      rw [hz]
      exact (hcells.other ⟨w.heap.size, 0, none⟩ (by simp; omega) _).other ⟨w.heap.size, 1, none⟩ (by simp; omega) _
  · rcases (owns_cells hown).2 with ⟨e, h0⟩ | ⟨g, cap, e, hg, hcap, hcells⟩
    · injection e with e1 e2 e3
      exact fun _ => e3
    · injection e with e1 e2 e3
      intro h; rw [h] at e1; cases e1
  rw [hz]
  have := (hsl.setCell ⟨w.heap.size, 0, none⟩ (.bool s) hne).setCell ⟨w.heap.size, 1, none⟩ (.slice va q vc) hne
  simpa using this

theorem grown_undrew {w w' : World} {r : Option Nat} (h : w.drew.grownBy w' r) : w.grownBy w' r := ⟨h.1, h.2, h.3, h.4, h.5⟩

theorem take_snoc_getD {zs : List Int} {j : Nat} (h : j < zs.length) : zs.take j ++ [zs[j]?.getD 0] = zs.take (j + 1) := by
  rw [List.take_add_one, List.getElem?_eq_getElem h]; rfl

set_option maxRecDepth 100000 in
set_option maxHeartbeats 800000 in
theorem made_own (s : Bool) (zs : List Int) (z : Int) (a : Option Addr) (n c : Nat) (w : World) (h : SL w.heap.size w a n c zs) (hd : Dig zs) (hn : n ≤ 1000000) (hm : (digs (val zs).toNat).length ≤ 600) (hz : z = if s then -val zs else val zs) :
    Calls Try.prog 59 #[.bool s, .slice a n c] w (RetM w z) := by
  have Hd := Lib.hid hd; have H := Lib.hid h; have hcap := h.cap; have Hz := Lib.hid hz; clear hd h hz
  have Hl := Lib.hid H.out.len
  go_enter Try.func59, Try.ntmps59
  go_wp2_with fail
  go_loop [5] (fun v => ∃ k : Nat, k ≤ n ∧ val (zs.take k) = val zs ∧ v = .int .i64 k) (fun v => (intOf v).toNat)
  case atStart => exact ⟨n, Nat.le_refl _, by rw [H.out.len, List.take_length], rfl⟩
  case round =>
    obtain ⟨k, hk, ht, rfl⟩ := hrel
    have Ht := Lib.hid ht; clear ht
    -- the end of the first loop
    by_cases h0 : k = 0
    · subst h0
      have hv : val zs = 0 := by rw [← Ht.out]; rfl
      have hz0 : z = 0 := by rw [Hz.out, hv]; cases s <;> rfl
      have Hz0 := Lib.hid hz0; clear hz0 hv
      cases s
      all_goals
        go_wp2_with fail
        go_loopw [7] (fun v wr => MadeRel false zs 0 w v wr) (fun v _ => (0 : Nat) - (intOf v).toNat)
        case atStart =>
          obtain ⟨e1, e2⟩ := heap_two w (.cells #[.bool false, .slice none 0 0] 51) (.cells #[.bool false, .slice none 0 0] 51)
          exact ⟨0, none, 0, rfl, Nat.le_refl _, World.ownsRow_nil _ _ _ _, e1, e2, ((Below.refl _ _).alloc (Nat.le_refl _) _).alloc (by simp) _, by simp⟩
        case round =>
          obtain ⟨k, va, vc, rfl, hk0, hown, hc1, hc2, hbw, hsz⟩ := hrel
          obtain rfl : k = 0 := by omega
          have j10 : wr.cell? ⟨w.heap.size, 0, none⟩ = some (.bool false) := by simp [World.cell?, hc1]
          have j11 : wr.cell? ⟨w.heap.size, 1, none⟩ = some (.slice none 0 0) := by simp [World.cell?, hc1]
          have j20 : wr.frozen? ⟨w.heap.size, 0, none⟩ = false := by simp [World.frozen?, hc1]
          have j21 : wr.frozen? ⟨w.heap.size, 1, none⟩ = false := by simp [World.frozen?, hc1]
          have k10 : wr.cell? ⟨w.heap.size + 1, 0, none⟩ = some (.bool false) := by simp [World.cell?, hc2]
          have k11 : wr.cell? ⟨w.heap.size + 1, 1, none⟩ = some (.slice va 0 vc) := by simp [World.cell?, hc2]
          have Hown := Lib.hid hown; clear hown hc1 hc2
          go_wp2_with fail
          refine bodyPost_ret (v := .agg #[.bool false, .slice va 0 vc]) ?_ rfl ?_
          · simp [results, Try.results59, go_sem, j10, j11]
          · exact made_end (by rw [Hz0.out]; rfl) (by rw [Hz0.out]; simp [digs_zero]) (by omega) Hown.out hbw
    · obtain ⟨k, rfl⟩ : ∃ i, k = i + 1 := ⟨k - 1, by omega⟩
      obtain ⟨hl, _, ga⟩ := H.out
      obtain ⟨b, off, rfl, hbl, ca⟩ := ga (by omega)
      have hbo := ((Below.refl w.heap.size w).alloc (Nat.le_refl _) (.cells #[.bool false, .slice none 0 0] 51)).cell (p := ⟨b, off + k, none⟩) hbl
      have g1 := hbo.trans (ca k (by omega))
      have Hca := Lib.hid ca
      clear ca ga h0 hl hbo
      by_cases hzz : zs.getD k 0 = 0
      · have Hzz := Lib.hid hzz
        rw [hzz] at g1; clear hzz
        cases s
        all_goals
          go_wp2
          go_round
          case rel => exact ⟨k, by omega, by rw [← val_take_zero (by have := Hl.out; omega) Hzz.out, Ht.out], by go_num⟩
          case measure => simp [intOf]
      · have Hzz := Lib.hid hzz
        have hz' : (zs.getD k 0 == 0) = false := by simpa using hzz
        clear hzz
        generalize hx : zs.getD k 0 = x at g1 hz'
        have Hx := Lib.hid hx; clear hx
        have htk : zs.take (k + 1) = digs (val zs).toNat := digs_of_take (n := (val zs).toNat) Hd.out (by have := Hl.out; omega) (Or.inr (by simpa using Hzz.out)) (by rw [Ht.out, Int.toNat_of_nonneg (val_nonneg Hd.out)])
        have hvp : 0 < val zs := by
          have h1 := val_nonneg Hd.out
          rcases Int.lt_or_eq_of_le h1 with h2 | h2
          · exact h2
          · rw [← h2] at htk
            have := congrArg List.length htk
            rw [List.length_take, show (0 : Int).toNat = 0 from rfl, digs_zero, Nat.min_eq_left (by have := Hl.out; omega)] at this
            exact absurd this (by simp)
        have htz : digs z.natAbs = zs.take (k + 1) := by
          rw [htk, Hz.out]; congr 1; cases s <;> simp <;> omega
        have hsz : s = decide (z < 0) := by
          rw [Hz.out]; cases s <;> simp <;> omega
        have hk600 : k + 1 ≤ 600 := by
          have := congrArg List.length htk
          rw [List.length_take, Nat.min_eq_left (by have := Hl.out; omega)] at this
          omega
        have Htz := Lib.hid htz; have Hsz := Lib.hid hsz; clear htz hsz hvp htk
        cases s
        all_goals
          go_wp2_with fail
          go_loopw [7] (fun v wr => MadeRel _ zs (k + 1) w v wr) (fun v _ => (k + 1 : Nat) - (intOf v).toNat)
          case atStart =>
            obtain ⟨e1, e2⟩ := heap_two w (.cells #[.bool false, .slice none 0 0] 51) (.cells #[.bool _, .slice none 0 0] 51)
            exact ⟨0, none, 0, rfl, Nat.zero_le _, World.ownsRow_nil _ _ _ _, e1, e2, ((Below.refl _ _).alloc (Nat.le_refl _) _).alloc (by simp) _, by simp⟩
          case round =>
            obtain ⟨j, va, vc, rfl, hj, hown, hc1, hc2, hbw, hsz⟩ := hrel
            have k11 : wr.cell? ⟨w.heap.size + 1, 1, none⟩ = some (.slice va j vc) := by simp [World.cell?, hc2]
            have Hown := Lib.hid hown
            by_cases hjk : j = k + 1
            · subst hjk
              have j10 : wr.cell? ⟨w.heap.size, 0, none⟩ = some (.bool false) := by simp [World.cell?, hc1]
              have j11 : wr.cell? ⟨w.heap.size, 1, none⟩ = some (.slice none 0 0) := by simp [World.cell?, hc1]
              have j20 : wr.frozen? ⟨w.heap.size, 0, none⟩ = false := by simp [World.frozen?, hc1]
              have j21 : wr.frozen? ⟨w.heap.size, 1, none⟩ = false := by simp [World.frozen?, hc1]
              first
                | have k10 : wr.cell? ⟨w.heap.size + 1, 0, none⟩ = some (.bool false) := by simp [World.cell?, hc2]; done
                | have k10 : wr.cell? ⟨w.heap.size + 1, 0, none⟩ = some (.bool true) := by simp [World.cell?, hc2]; done
              clear hown hc1 hc2
              go_wp2_with fail
              first
                | (refine bodyPost_ret (v := .agg #[.bool false, .slice va (k + 1) vc]) ?_ rfl ?_; · (simp [results, Try.results59, go_sem, j10, j11]; done))
                | (refine bodyPost_ret (v := .agg #[.bool true, .slice va (k + 1) vc]) ?_ rfl ?_; · (simp [results, Try.results59, go_sem, j10, j11]; done))
              exact made_end Hsz.out Htz.out (by omega) Hown.out hbw
            · have g2 := (hbw.cell (p := ⟨b, off + j, none⟩) hbl).trans (Hca.out j (by omega))
              have g3 : j < k + 1 := by omega
              have g4 : j < n := by omega
              have Hc1 := Lib.hid hc1; have Hc2 := Lib.hid hc2
              clear hown hc1 hc2 hjk
              go_wp2_with fail
              refine wp_region_eager 7 [(0, true), (1, true), (2, true), (3, true), (4, true), (5, true), (6, false)] (by kernel_rfl) (by kernel_rfl) ?_
              iterate 6
                refine wpOrd_yield (v := ?_) rfl (fun _ _ _ h => h) (by rfl) ?_ ?_
                rotate_left
                · intro x hx
                  have q1 := (hx.cell (p := ⟨w.heap.size + 1, 1, none⟩) (by show w.heap.size + 1 < wr.heap.size; omega)).trans k11
                  have q2 := (hx.cell (p := ⟨b, off + j, none⟩) (by show b < wr.heap.size; have := hbw.size; omega)).trans g2
                  go_simp
                  with_reducible rfl
                try simp only [Act.put, List.setIfInBounds_toArray, List.set_cons_zero, List.set_cons_succ]
              refine wpOrd_step rfl rfl (fun K hK => ?_)
              go_simp
              refine hK _ _ ((Below.refl _ _).alloc (Nat.le_refl _) _) ?_
              clear hK K
              try simp only [Act.put, List.setIfInBounds_toArray, List.set_cons_zero, List.set_cons_succ]
              refine wpOrd_nil rfl ?_
              refine wpList_append_ints rfl (.tmp 34) (.tmp 39) 49 rfl Try.underlying49 (w.heap.size + 2) _ _ (zs.take j) rfl (Hown.out.alloc _) _ _ 1 1 [_] rfl (SL.one wr.drew _ _) (by simp) (by omega) (by simp; omega) ?_
              intro v' w1 hown1 hgrow
              rw [take_snoc_getD (by have := Hl.out; omega)] at hown1
              obtain ⟨va', vc', rfl⟩ := owns_slice hown1
              have hgrow' : (wr.alloc (.cells #[.int .i64 (zs[j]?.getD 0)] 3)).grownBy w1 (Value.slice va j vc).ownBlock := grown_undrew hgrow
              have e1 := (grown_old (base := w.heap.size + 2) Hown.out hgrow' (b := w.heap.size) (by omega) hsz).trans Hc1.out
              have e2 := (grown_old (base := w.heap.size + 2) Hown.out hgrow' (b := w.heap.size + 1) (by omega) hsz).trans Hc2.out
              have e3 := grown_below hbw Hown.out hgrow' (by omega) hsz
              have e4 := hgrow'.size
              have f11 : w1.cell? ⟨w.heap.size + 1, 1, none⟩ = some (.slice va j vc) := by simp [World.cell?, e2]
              have f12 : w1.frozen? ⟨w.heap.size + 1, 1, none⟩ = false := by simp [World.frozen?, e2]
              have He1 := Lib.hid e1; have He2 := Lib.hid e2; have Hown1 := Lib.hid hown1; clear e1 e2 hown1 hgrow hgrow'
              go_wp2
              go_roundw
              case rel =>
                refine ⟨j + 1, va', vc', by go_num, by omega, ?_, obj_other He1.out _ (by simp) _, ?_, e3.setCell (by simp) _, ?_⟩
                · have := ownsRow_setCell_below Hown1.out (a := ⟨w.heap.size + 1, 1, none⟩) (by simp) (.slice va' (j + 1) vc')
                  simpa using this
                · have := obj_setCell He2.out 1 (.slice va' (j + 1) vc')
                  simpa using this
                · simp at e4 ⊢; omega
              case measure => simp [intOf]; omega
theorem made_any (s : Bool) (zs : List Int) (z : Int) (a : Option Addr) (n c : Nat) (w : World) (h : SL w.heap.size w a n c zs) (hd : Dig zs) (hn : n ≤ 1000000) (hm : (digs (val zs).toNat).length ≤ 600) (hz : z = if s then -val zs else val zs) :
    Calls Try.prog 59 #[.bool s, .slice a n c] w (RetL1 w z) :=
  (made_own s zs z a n c w h hd hn hm hz).mono fun _ _ ⟨s, a, n, c, e, h1, h2, h3, _⟩ => ⟨s, a, n, c, e, h1, h2, h3⟩

end Go.Proofs.Ytkfkdkoohnfgaaa
