/-
  DERIVED. The walks of the reference's long integers, fourth part: Same, Order, Cmp.
-/
import Derived.Test.YtkfkdkoohnfgaaaRefC
namespace Go.Proofs.Ytkfkdkoohnfgaaa
open Go.RowKit

theorem two_boxes {w : World} {x1 y1 x2 y2 : Value} {t : TypeId} {w2 : World} (hb : Below ((w.alloc (.cells #[x1, y1] t)).alloc (.cells #[x2, y2] t)).heap.size ((w.alloc (.cells #[x1, y1] t)).alloc (.cells #[x2, y2] t)) w2) :
    w2.cell? ⟨w.heap.size, 0, none⟩ = some x1 ∧ w2.cell? ⟨w.heap.size, 1, none⟩ = some y1 ∧ w2.cell? ⟨w.heap.size + 1, 0, none⟩ = some x2 ∧ w2.cell? ⟨w.heap.size + 1, 1, none⟩ = some y2 ∧ w.heap.size + 2 ≤ w2.heap.size ∧ Below w.heap.size w w2 := by
  obtain ⟨e1, e2⟩ := heap_two w (.cells #[x1, y1] t) (.cells #[x2, y2] t)
  obtain ⟨a1, a2, _, _⟩ := cells_at e1
  obtain ⟨b1, b2, _, _⟩ := cells_at e2
  have hs := hb.size
  simp at hs
  refine ⟨(hb.cell (p := ⟨w.heap.size, 0, none⟩) (by simp; omega)).trans a1, (hb.cell (p := ⟨w.heap.size, 1, none⟩) (by simp; omega)).trans a2, (hb.cell (p := ⟨w.heap.size + 1, 0, none⟩) (by simp)).trans b1, (hb.cell (p := ⟨w.heap.size + 1, 1, none⟩) (by simp)).trans b2, by omega, below_alloc (below_alloc hb)⟩

set_option maxHeartbeats 400000 in
theorem same_sign (s t : Bool) (a b : Option Addr) (n m c d : Nat) (w : World) (hne : s ≠ t ∨ n ≠ m) :
    Calls Try.prog 77 #[.agg #[.bool s, .slice a n c], .agg #[.bool t, .slice b m d]] w (RetB w (.bool false)) := by
  have hb := below_two (w := w) (.cells #[.bool s, .slice a n c] 51) (.cells #[.bool t, .slice b m d] 51)
  have Hb := Lib.hid hb; clear hb
  by_cases hst : s = t
  · subst hst
    have hnm : n ≠ m := hne.resolve_left (fun h => h rfl)
    have h1 : ((n : Int) != m) = true := by simp; omega
    clear hne hnm
    cases s
    all_goals
      go_enter Try.func77, Try.ntmps77
      go_wp2
      go_ret
      exact ⟨rfl, Hb.out⟩
  · clear hne
    cases s
    all_goals cases t
    all_goals first
      | exact absurd rfl hst
      | (clear hst
         go_enter Try.func77, Try.ntmps77
         go_wp2
         go_ret
         exact ⟨rfl, Hb.out⟩)

set_option maxRecDepth 100000 in
set_option maxHeartbeats 800000 in
theorem same_len (s : Bool) (xs ys : List Int) (a b : Option Addr) (n c d : Nat) (w : World) (ha : SL w.heap.size w a n c xs) (hb : SL w.heap.size w b n d ys) (hn : n ≤ 1000) (hx : Dig xs) (hy : Dig ys) :
    Calls Try.prog 77 #[.agg #[.bool s, .slice a n c], .agg #[.bool s, .slice b n d]] w (RetB w (.bool (decide (xs = ys)))) := by
  generalize hR : decide (xs = ys) = R
  have HR := Lib.hid hR; clear hR
  have Ha := Lib.hid ha; have Hb := Lib.hid hb; clear ha hb
  have Hx := Lib.hid hx; have Hy := Lib.hid hy; clear hx hy
  go_enter Try.func77, Try.ntmps77
  go_wp2
  have hq := two_boxes (Below.refl _ _) (w := w) (x1 := .bool s) (y1 := .slice a n c) (x2 := .bool s) (y2 := .slice b n d) (t := 51)
  obtain ⟨q1, q2, q3, q4, q5, q6⟩ := hq
  have Hb2 := Lib.hid q6
  generalize hW : (w.alloc (.cells #[.bool s, .slice a n c] 51)).alloc (.cells #[.bool s, .slice b n d] 51) = W0 at *
  clear hW q6
  go_loopw [5] (fun v wr => ∃ k j : Nat, k ≤ n ∧ v = .int .i64 (k : Int) ∧ (∀ i, i < k → xs.getD i 0 = ys.getD i 0) ∧ wr = W0.drewN j) (fun v _ => n - (intOf v).toNat)
  case atStart => exact ⟨0, 0, Nat.zero_le _, rfl, fun i hi => absurd hi (by omega), rfl⟩
  case round =>
    obtain ⟨k, j, hk, rfl, ht, rfl⟩ := hrel
    have Ht := Lib.hid ht; clear ht
    by_cases h0 : k = n
    · subst h0
      have hRt : R = true := by
        rw [← HR.out, decide_eq_true_eq]
        refine List.ext_getElem (by rw [← Ha.out.len, ← Hb.out.len]) fun i h1 h2 => ?_
        have := Ht.out i (by rw [Ha.out.len]; exact h1)
        simpa [List.getD_eq_getElem?_getD, List.getElem?_eq_getElem h1, List.getElem?_eq_getElem h2] using this
      subst hRt
      go_wp2
      go_ret
      exact ⟨rfl, below_drewN Hb2.out _⟩
    · have hkn : k < n := by omega
      obtain ⟨_, _, ga⟩ := Ha.out
      obtain ⟨ba, oa, rfl, hba, ca⟩ := ga (by omega)
      obtain ⟨_, _, gb⟩ := Hb.out
      obtain ⟨bb, ob, rfl, hbb, cb⟩ := gb (by omega)
      have g1 := (Hb2.out.cell (p := ⟨ba, oa + k, none⟩) hba).trans (ca k hkn)
      have g3 := (Hb2.out.cell (p := ⟨bb, ob + k, none⟩) hbb).trans (cb k hkn)
      have hxk := Hx.out.all k
      have hyk := Hy.out.all k
      clear ca cb ga gb h0
      generalize hxx : xs.getD k 0 = x at *
      generalize hyy : ys.getD k 0 = y at *
      have Hxx := Lib.hid hxx; have Hyy := Lib.hid hyy; clear hxx hyy
      go_wp2
      go_quiet (fail)
      go_wp2
      · go_ret
        have hne : (x != y) = true := by assumption
        refine ⟨?_, by simp only [World.drewN_drewN]; exact below_drewN Hb2.out _⟩
        show Ending.returned (.bool false) = _
        rw [← HR.out, decide_eq_false]
        intro e
        have := Hxx.out
        rw [e, Hyy.out] at this
        simp [this] at hne
      · have hne : (x != y) = false := by assumption
        have hne' : x = y := by simpa using hne
        have Hne := Lib.hid hne'; clear hne' hne
        go_roundw
        case rel =>
          refine ⟨k + 1, _, by omega, by go_num, fun i hi => ?_, rfl⟩
          by_cases e : i = k
          · subst e; rw [Hxx.out, Hyy.out, Hne.out]
          · exact Ht.out i (by omega)
        case measure => simp [intOf]; omega

theorem digs_inj {m n : Nat} : digs m = digs n ↔ m = n := by
  constructor
  · intro h
    have := congrArg val h
    rw [val_digs, val_digs] at this
    omega
  · rintro rfl; rfl

theorem same_any (s t : Bool) (x y : Int) (a b : Option Addr) (n m c d : Nat) (w : World) (ha : LG w.heap.size w s a n c x) (hb : LG w.heap.size w t b m d y) :
    Calls Try.prog 77 #[.agg #[.bool s, .slice a n c], .agg #[.bool t, .slice b m d]] w (RetB w (.bool (decide (x = y)))) := by
  by_cases h : s ≠ t ∨ n ≠ m
  · have e : decide (x = y) = false := by
      rw [decide_eq_false]
      rintro rfl
      rcases h with h | h
      · exact h (by rw [ha.1, hb.1])
      · exact h (by rw [ha.2.1.len, hb.2.1.len])
    rw [e]
    exact same_sign s t a b n m c d w h
  · have h1 : s = t := Decidable.byContradiction fun hc => h (Or.inl hc)
    have h2 : n = m := Decidable.byContradiction fun hc => h (Or.inr hc)
    subst h1 h2
    have e : decide (x = y) = decide (digs x.natAbs = digs y.natAbs) := by
      rw [decide_eq_decide, digs_inj]
      have e1 := ha.1
      have e2 := hb.1
      rw [e1, decide_eq_decide] at e2
      omega
    rw [e]
    exact same_len s _ _ a b n c d w ha.2.1 hb.2.1 (by have := ha.2.2; omega) (dig_digs _) (dig_digs _)

set_option maxRecDepth 100000 in
set_option maxHeartbeats 800000 in
theorem order_any (s t : Bool) (x y : Int) (a b : Option Addr) (n m c d : Nat) (w : World) (ha : LG w.heap.size w s a n c x) (hb : LG w.heap.size w t b m d y) :
    Calls Try.prog 64 #[.agg #[.bool s, .slice a n c], .agg #[.bool t, .slice b m d]] w (RetB w (.int .i64 (cmpZ x y))) := by
  generalize hR : cmpZ x y = R
  have HR := Lib.hid hR; clear hR
  have hbb := below_two (w := w) (.cells #[.bool s, .slice a n c] 51) (.cells #[.bool t, .slice b m d] 51)
  have Ha := Lib.hid ha; have Hb := Lib.hid hb; have Hbb := Lib.hid hbb; clear ha hb hbb
  have hs := Ha.out.1
  have ht := Hb.out.1
  have Hs := Lib.hid hs; have Ht := Lib.hid ht; clear hs ht
  go_enter Try.func64, Try.ntmps64
  go_wp2_with fail
  refine (same_any s t x y a b n m c d _ (Ha.out.go Hbb.out) (Hb.out.go Hbb.out)).mono ?_
  rintro e w2 ⟨rfl, hb2⟩
  obtain ⟨q1, q2, q3, q4, q5, q6⟩ := two_boxes hb2
  clear hb2
  have hlt1 : w.heap.size < w2.heap.size := by omega
  have hlt2 : w.heap.size + 1 < w2.heap.size := by omega
  by_cases hxy : x = y
  · have hR0 : R = 0 := by rw [← HR.out]; unfold cmpZ; subst hxy; simp
    have hd : decide (x = y) = true := by simpa using hxy
    subst hR0
    clear hxy
    rw [hd]; clear hd
    go_wp2
    go_ret
    exact ⟨rfl, q6⟩
  · have hd : decide (x = y) = false := by simpa using hxy
    rw [hd]; clear hd
    by_cases hst : s = t
    · subst hst
      have hR1 : R = if (decide (x.natAbs < y.natAbs) != s) = true then -1 else 1 := by
        rw [← HR.out, Hs.out]
        have h1 := Hs.out
        rw [Ht.out, decide_eq_decide] at h1
        unfold cmpZ
        by_cases hn : x < 0
        · have h2 : y < 0 := h1.2 hn
          simp [hn]
          by_cases h3 : x < y
          · rw [if_pos h3, if_pos (by omega)]
          · rw [if_neg h3, if_pos (by omega), if_neg (by omega)]
        · have h2 : ¬ y < 0 := fun h => hn (h1.1 h)
          simp [hn]
          by_cases h3 : x < y
          · rw [if_pos h3, if_pos (by omega)]
          · rw [if_neg h3, if_pos (by omega), if_neg (by omega)]
      have HR1 := Lib.hid hR1; clear hR1 hxy
      have hl1 := (Ha.out.go q6).2.1
      have hl2 := (Hb.out.go q6).2.1
      have Hl1 := Lib.hid hl1; have Hl2 := Lib.hid hl2; clear hl1 hl2
      go_wp2_with fail
      refine wp_region_eager 8 [(0, true), (1, true), (2, true), (3, true), (5, true), (6, true), (4, false), (7, true)] (by kernel_rfl) (by kernel_rfl) ?_
      iterate 6
        refine wpOrd_yield (v := ?_) rfl (fun _ _ _ h => h) (by rfl) ?_ ?_
        rotate_left
        · intro x hx
          have z1 := (hx.cell (p := ⟨w.heap.size, 0, none⟩) hlt1).trans q1
          have z2 := (hx.cell (p := ⟨w.heap.size, 1, none⟩) hlt1).trans q2
          have z3 := (hx.cell (p := ⟨w.heap.size + 1, 0, none⟩) hlt2).trans q3
          have z4 := (hx.cell (p := ⟨w.heap.size + 1, 1, none⟩) hlt2).trans q4
          go_simp
          with_reducible rfl
        try simp only [Act.put, List.setIfInBounds_toArray, List.set_cons_zero, List.set_cons_succ]
      refine wpOrd_step rfl rfl (fun K hK => ?_)
      go_simp
      refine (less_any x.natAbs y.natAbs a b n m c d _ (by exact Hl1.out) (by exact Hl2.out) (by have := Ha.out.2.2; omega)).mono ?_
      rintro e w4 ⟨rfl, nk, rfl⟩
      refine hK _ _ (below_drewN (Below.refl _ _) _) ?_
      clear hK K
      try simp only [Act.put, List.setIfInBounds_toArray, List.set_cons_zero, List.set_cons_succ]
      generalize hL : decide (x.natAbs < y.natAbs) = L at *
      have Hl := Lib.hid hL; clear hL
      by_cases hb : (L != s) = true
      · have hR2 : R = -1 := by rw [HR1.out, if_pos hb]
        have HR2 := Lib.hid hR2; clear hR2
        have hb' : (L == s) = false := by simpa [bne] using hb
        refine wpOrd_yield (v := ?_) rfl (fun _ _ _ h => h) (by rfl) ?_ ?_
        rotate_left
        · intro x hx
          go_simp
          with_reducible rfl
        try simp only [Act.put, List.setIfInBounds_toArray, List.set_cons_zero, List.set_cons_succ]
        refine wpOrd_nil rfl ?_
        go_wp2
        go_ret
        exact ⟨by rw [HR2.out]; rfl, below_drewN q6 _⟩
      · have hR2 : R = 1 := by rw [HR1.out, if_neg hb]
        have HR2 := Lib.hid hR2; clear hR2
        have hb : (L != s) = false := by simpa using hb
        have hb' : (L == s) = true := by simpa [bne] using hb
        refine wpOrd_yield (v := ?_) rfl (fun _ _ _ h => h) (by rfl) ?_ ?_
        rotate_left
        · intro x hx
          go_simp
          with_reducible rfl
        try simp only [Act.put, List.setIfInBounds_toArray, List.set_cons_zero, List.set_cons_succ]
        refine wpOrd_nil rfl ?_
        go_wp2
        go_ret
        exact ⟨by rw [HR2.out]; rfl, below_drewN q6 _⟩
    · have hR1 : (s = true ∧ t = false ∧ R = -1) ∨ (s = false ∧ t = true ∧ R = 1) := by
        rw [← HR.out]
        have h1 := Hs.out
        have h2 := Ht.out
        unfold cmpZ
        by_cases hx : x < 0
        · by_cases hy : y < 0
          · rw [decide_eq_true hx] at h1; rw [decide_eq_true hy] at h2; exact absurd (h1.trans h2.symm) hst
          · rw [decide_eq_true hx] at h1; rw [decide_eq_false hy] at h2
            exact Or.inl ⟨h1, h2, if_pos (by omega)⟩
        · by_cases hy : y < 0
          · rw [decide_eq_false hx] at h1; rw [decide_eq_true hy] at h2
            exact Or.inr ⟨h1, h2, by rw [if_neg (by omega), if_pos (by omega)]⟩
          · rw [decide_eq_false hx] at h1; rw [decide_eq_false hy] at h2; exact absurd (h1.trans h2.symm) hst
      clear hst hxy HR
      rcases hR1 with ⟨rfl, rfl, rfl⟩ | ⟨rfl, rfl, rfl⟩
      · go_wp2
        go_ret
        exact ⟨rfl, q6⟩
      · go_wp2
        go_ret
        exact ⟨rfl, q6⟩

theorem refCmp_any (s t : Bool) (x y : Int) (a b : Option Addr) (n m c d : Nat) (w : World) (ha : LG w.heap.size w s a n c x) (hb : LG w.heap.size w t b m d y) :
    Calls Try.prog 41 #[.agg #[.bool s, .slice a n c], .agg #[.bool t, .slice b m d]] w (RetCmp w x y) := by
  have hbb := below_two (w := w) (.cells #[.bool s, .slice a n c] 51) (.cells #[.bool t, .slice b m d] 51)
  have Ha := Lib.hid ha; have Hb := Lib.hid hb; have Hbb := Lib.hid hbb; clear ha hb hbb
  go_enter Try.func41, Try.ntmps41
  go_wp2_with fail
  refine (right_ok s x a n c _ (Ha.out.go Hbb.out)).mono ?_
  rintro e w2 ⟨rfl, hb2⟩
  obtain ⟨q1, q2, q3, q4, q5, q6⟩ := two_boxes hb2
  clear hb2
  have Q6 := Lib.hid q6
  go_wp2_with fail
  refine (right_ok t y b m d _ (Hb.out.go Q6.out)).mono ?_
  rintro e w3 ⟨rfl, hb3⟩
  have k1 := (hb3.cell (p := ⟨w.heap.size, 0, none⟩) (by show w.heap.size < w2.heap.size; omega)).trans q1
  have k2 := (hb3.cell (p := ⟨w.heap.size, 1, none⟩) (by show w.heap.size < w2.heap.size; omega)).trans q2
  have k3 := (hb3.cell (p := ⟨w.heap.size + 1, 0, none⟩) (by show w.heap.size + 1 < w2.heap.size; omega)).trans q3
  have k4 := (hb3.cell (p := ⟨w.heap.size + 1, 1, none⟩) (by show w.heap.size + 1 < w2.heap.size; omega)).trans q4
  have k6 := Q6.out.trans (hb3.mono q6.size)
  have K6 := Lib.hid k6
  clear q1 q2 q3 q4 q5 q6 hb3 k6
  go_wp2_with fail
  refine (order_any s t x y a b n m c d _ (Ha.out.go K6.out) (Hb.out.go K6.out)).mono ?_
  rintro e w4 ⟨rfl, hb4⟩
  go_wp2
  go_ret2
  exact ⟨rfl, K6.out.trans (hb4.mono K6.out.size)⟩

end Go.Proofs.Ytkfkdkoohnfgaaa
