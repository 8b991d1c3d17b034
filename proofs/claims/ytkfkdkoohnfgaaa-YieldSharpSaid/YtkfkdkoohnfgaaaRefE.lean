/-
  DERIVED. The walks of the reference's long integers, fifth part: Sum, Add.
-/
import Derived.Test.YtkfkdkoohnfgaaaRefD
namespace Go.Proofs.Ytkfkdkoohnfgaaa
open Go.RowKit

theorem heap_three (w : World) (o p q : Obj) : (((w.alloc o).alloc p).alloc q).heap[w.heap.size]? = some o ∧ (((w.alloc o).alloc p).alloc q).heap[w.heap.size + 1]? = some p ∧ (((w.alloc o).alloc p).alloc q).heap[w.heap.size + 2]? = some q := by
  obtain ⟨e1, e2⟩ := heap_two w o p
  refine ⟨?_, ?_, ?_⟩
  · rw [Below.heap_alloc _ _ _ (by simp; omega)]; exact e1
  · rw [Below.heap_alloc _ _ _ (by simp)]; exact e2
  · have := heap_alloc_new ((w.alloc o).alloc p) q
    simpa using this

theorem below_three (w : World) (o p q : Obj) : Below w.heap.size w (((w.alloc o).alloc p).alloc q) :=
  (((Below.refl _ _).alloc (Nat.le_refl _) _).alloc (by simp) _).alloc (by simp; omega) _

theorem val_take_next (l : List Int) (k : Nat) : val (l.take (k + 1)) = val (l.take k) + l.getD k 0 * 1000000000 ^ k := by
  by_cases h : k < l.length
  · exact val_take_succ h
  · rw [List.take_of_length_le (by omega), List.take_of_length_le (by omega), List.getD_eq_getElem?_getD, List.getElem?_eq_none (by omega)]; simp

/-- the sum's digits, up to a place -/
def S1 (xs ys zs : List Int) (i : Nat) (cr : Int) : Prop :=
  zs.length = i ∧ Dig zs ∧ val zs + cr * 1000000000 ^ i = val (xs.take i) + val (ys.take i) ∧ 0 ≤ cr ∧ cr ≤ 1

theorem S1.step {xs ys zs : List Int} {i : Nat} {cr : Int} (h : S1 xs ys zs i cr) (hx : Dig xs) (hy : Dig ys) :
    S1 xs ys (zs ++ [(xs.getD i 0 + ys.getD i 0 + cr) % 1000000000]) (i + 1) ((xs.getD i 0 + ys.getD i 0 + cr) / 1000000000) := by
  obtain ⟨h1, h2, h3, h4, h5⟩ := h
  have a := hx.all i
  have b := hy.all i
  refine ⟨by simp [h1], h2.append (Dig.cons (by omega) Dig.nil), ?_, by omega, by omega⟩
  rw [val_append, h1, val_take_next, val_take_next]
  simp only [val]
  generalize xs.getD i 0 = x at *
  generalize ys.getD i 0 = y at *
  have e : (x + y + cr) % 1000000000 + (x + y + cr) / 1000000000 * 1000000000 = x + y + cr := by omega
  have e2 : val zs + 1000000000 ^ i * ((x + y + cr) % 1000000000 + 1000000000 * 0) + (x + y + cr) / 1000000000 * 1000000000 ^ (i + 1) = val zs + ((x + y + cr) % 1000000000 + (x + y + cr) / 1000000000 * 1000000000) * 1000000000 ^ i := by
    rw [Int.pow_succ, Int.add_mul, Int.mul_zero, Int.add_zero, Int.mul_comm (1000000000 ^ i), Int.add_assoc, Int.mul_assoc, Int.mul_comm (1000000000 ^ i) 1000000000]
  rw [e2, e, Int.add_mul, Int.add_mul]
  omega

theorem S1.last {xs ys zs : List Int} {i : Nat} (h : S1 xs ys zs i 0) (hx : xs.length ≤ i) (hy : ys.length ≤ i) : val zs = val xs + val ys := by
  have := h.2.2.1
  rw [List.take_of_length_le hx, List.take_of_length_le hy] at this
  omega

/-- what holds ahead of each round of Sum -/
def SumRel (w : World) (o1 o2 o3 : Obj) (xs ys : List Int) (dv cv iv : Value) (wr : World) : Prop :=
  ∃ (i : Nat) (cr : Int) (va : Option Addr) (vc : Nat) (zs : List Int), dv = .slice va zs.length vc ∧ cv = .int .i64 cr ∧ iv = .int .i64 (i : Int) ∧ S1 xs ys zs i cr ∧
    (i ≤ max xs.length ys.length ∨ (i = max xs.length ys.length + 1 ∧ cr = 0)) ∧ wr.ownsRow (w.heap.size + 3) 3 1 (.slice va zs.length vc) zs.length (zs.map (Value.int .i64)) ∧
    wr.heap[w.heap.size]? = some o1 ∧ wr.heap[w.heap.size + 1]? = some o2 ∧ wr.heap[w.heap.size + 2]? = some o3 ∧ Below w.heap.size w wr ∧ w.heap.size + 3 ≤ wr.heap.size

set_option maxRecDepth 100000 in
set_option maxHeartbeats 1600000 in
theorem sum_any (N : Nat) (s : Bool) (x y : Int) (a b : Option Addr) (n m c d : Nat) (w : World) (ha : LG N w s a n c x) (hb : LG N w s b m d y) (hN : N ≤ w.heap.size) (hfit : (digs (x + y).natAbs).length ≤ 600) :
    Calls Try.prog 74 #[.agg #[.bool s, .slice a n c], .agg #[.bool s, .slice b m d]] w (RetA1 N w (x + y)) := by
  have Ha := Lib.hid ha; have Hb := Lib.hid hb; clear ha hb
  have hn := Ha.out.2.2
  have hm := Hb.out.2.2
  have Hfit := Lib.hid hfit; clear hfit
  by_cases h0 : n = 0
  · subst h0
    have hx0 : x = 0 := by have := digs_len_zero.1 Ha.out.2.1.len.symm; omega
    obtain ⟨e1, e2, e3⟩ := heap_three w (.cells #[.bool s, .slice a 0 c] 51) (.cells #[.bool s, .slice b m d] 51) (.cells #[.bool s, .slice b m d] 51)
    obtain ⟨c0, c1, _, _⟩ := cells_at e3
    have C0 := Lib.hid c0; have C1 := Lib.hid c1; clear c0 c1 e1 e2 e3
    go_enter Try.func74, Try.ntmps74
    go_wp2
    refine bodyPost_ret (v := .agg #[.bool s, .slice b m d]) ?_ rfl ?_
    · simp [results, Try.results74, go_sem, C0.out, C1.out]
    · have hbb := below_three w (.cells #[.bool s, .slice a 0 c] 51) (.cells #[.bool s, .slice b m d] 51) (.cells #[.bool s, .slice b m d] 51)
      exact ⟨s, b, m, d, rfl, by rw [hx0, Int.zero_add]; exact (Hb.out.mono hN).go hbb, hbb, Out.ofLG Hb.out⟩
  · have g0 : ((n : Int) == 0) = false := by simp; omega
    by_cases hm0 : m = 0
    · subst hm0
      have hy0 : y = 0 := by have := digs_len_zero.1 Hb.out.2.1.len.symm; omega
      obtain ⟨e1, e2, e3⟩ := heap_three w (.cells #[.bool s, .slice a n c] 51) (.cells #[.bool s, .slice b 0 d] 51) (.cells #[.bool s, .slice a n c] 51)
      obtain ⟨c0, c1, _, _⟩ := cells_at e3
      have C0 := Lib.hid c0; have C1 := Lib.hid c1; clear c0 c1 e1 e2 e3
      go_enter Try.func74, Try.ntmps74
      go_wp2
      refine bodyPost_ret (v := .agg #[.bool s, .slice a n c]) ?_ rfl ?_
      · simp [results, Try.results74, go_sem, C0.out, C1.out]
      · have hbb := below_three w (.cells #[.bool s, .slice a n c] 51) (.cells #[.bool s, .slice b 0 d] 51) (.cells #[.bool s, .slice a n c] 51)
        exact ⟨s, a, n, c, rfl, by rw [hy0, Int.add_zero]; exact (Ha.out.mono hN).go hbb, hbb, Out.ofLG Ha.out⟩
    · have g1 : ((m : Int) == 0) = false := by simp; omega
      have hlx := Ha.out.2.1.len
      have hly := Hb.out.2.1.len
      have hdx := dig_digs x.natAbs
      have hdy := dig_digs y.natAbs
      have hvx := val_digs x.natAbs
      have hvy := val_digs y.natAbs
      have hsx := (Ha.out.2.1.mono hN)
      have hsy := (Hb.out.2.1.mono hN)
      have hsg : s = decide (x < 0) ∧ s = decide (y < 0) := ⟨Ha.out.1, Hb.out.1⟩
      generalize digs x.natAbs = xs at *
      generalize digs y.natAbs = ys at *
      have Hlx := Lib.hid hlx; have Hly := Lib.hid hly; have Hdx := Lib.hid hdx; have Hdy := Lib.hid hdy; have Hvx := Lib.hid hvx; have Hvy := Lib.hid hvy
      have Hsx := Lib.hid hsx; have Hsy := Lib.hid hsy; have Hsg := Lib.hid hsg
      clear hlx hly hdx hdy hvx hvy hsx hsy hsg
      go_enter Try.func74, Try.ntmps74
      go_wp2_with fail
      go_loopw [5, 6, 7] (fun dv cv iv wr => SumRel w (.cells #[.bool s, .slice a n c] 51 (0, 0)) (.cells #[.bool s, .slice b m d] 51 (0, 0)) (.cells #[.bool false, .slice none 0 0] 51 (0, 0)) xs ys dv cv iv wr) (fun _ _ iv _ => max n m + 1 - (intOf iv).toNat)
      case atStart =>
        obtain ⟨e1, e2, e3⟩ := heap_three w (.cells #[.bool s, .slice a n c] 51) (.cells #[.bool s, .slice b m d] 51) (.cells #[.bool false, .slice none 0 0] 51)
        exact ⟨0, 0, none, 0, [], rfl, rfl, rfl, ⟨rfl, Dig.nil, by simp [val], by omega, by omega⟩, Or.inl (Nat.zero_le _), World.ownsRow_nil _ _ _ _, e1, e2, e3, below_three _ _ _ _, by simp⟩
      case round =>
        obtain ⟨i, cr, va, vc, zs, rfl, rfl, rfl, hS, hi, hown, hc1, hc2, hc3, hbw, hsz⟩ := hrel
        obtain ⟨q1, q2, f1, f2⟩ := cells_at hc1
        obtain ⟨q3, q4, f3, f4⟩ := cells_at hc2
        obtain ⟨q5, q6, f5, f6⟩ := cells_at hc3
        have hax := Hsx.out.go hbw
        have hby := Hsy.out.go hbw
        have Hax := Lib.hid hax; have Hby := Lib.hid hby; have HS := Lib.hid hS; have Hown := Lib.hid hown; have Hc1 := Lib.hid hc1; have Hc2 := Lib.hid hc2; have Hc3 := Lib.hid hc3
        have hcr0 := hS.2.2.2.1
        have hcr1 := hS.2.2.2.2
        have hzl : zs.length = i := hS.1
        have Hzl := Lib.hid hzl
        clear hax hby hS hown hc1 hc2 hc3 f1 f2 f3 f4 hzl
        have Hlx' := Hlx.out; have Hly' := Hly.out
        have hi2 : i ≤ max n m ∨ (i = max n m + 1 ∧ cr = 0) := by rw [Hlx', Hly']; exact hi
        have Hi := Lib.hid hi
        clear hi Hlx' Hly'
        have hil : i ≤ 601 := by omega
        by_cases hend : ¬ i < n ∧ ¬ i < m ∧ cr = 0
        · obtain ⟨g2, g3, rfl⟩ := hend
          clear hi2
          have hv : val zs = val xs + val ys := HS.out.last (by rw [← Hlx.out]; omega) (by rw [← Hly.out]; omega)
          have hz : x + y = if s then -val zs else val zs := by
            obtain ⟨s1, s2⟩ := Hsg.out
            rw [hv, Hvx.out, Hvy.out]
            cases s
            · have h1 : ¬ x < 0 := by simpa using s1
              have h2 : ¬ y < 0 := by simpa using s2
              simp; omega
            · have h1 : x < 0 := by simpa using s1
              have h2 : y < 0 := by simpa using s2
              simp; omega
          have hdz : (digs (val zs).toNat).length ≤ 600 := by
            have h1 := val_nonneg HS.out.2.1
            have : (val zs).toNat = (x + y).natAbs := by rw [hz]; cases s <;> simp <;> omega
            rw [this]; exact Hfit.out
          have Hz := Lib.hid hz; have Hdz := Lib.hid hdz; clear hz hdz hv
          go_wp2_with fail
          refine (made_any s zs _ _ _ _ _ (owns_sl Hown.out) HS.out.2.1 (by have := Hzl.out; omega) Hdz.out Hz.out).mono ?_
          rintro e w1 ⟨s', a', n', c', rfl, hlg, hb1, hf⟩
          have k5 := (hb1.cell (p := ⟨w.heap.size + 2, 0, none⟩) (by show w.heap.size + 2 < wr.heap.size; omega)).trans q5
          have k6 := (hb1.cell (p := ⟨w.heap.size + 2, 1, none⟩) (by show w.heap.size + 2 < wr.heap.size; omega)).trans q6
          have k7 := (hb1.frozen (p := ⟨w.heap.size + 2, 0, none⟩) (by show w.heap.size + 2 < wr.heap.size; omega)).trans f5
          have k8 := (hb1.frozen (p := ⟨w.heap.size + 2, 1, none⟩) (by show w.heap.size + 2 < wr.heap.size; omega)).trans f6
          have Hlg := Lib.hid hlg; have Hf := Lib.hid hf; clear hlg hf
          go_wp2_with fail
          refine bodyPost_ret (v := .agg #[.bool s', .slice a' n' c']) ?_ rfl ?_
          · simp [results, Try.results74, go_sem, k5, k6]
          · refine ⟨s', a', n', c', rfl, lg_stored Hlg.out (Out.ofFresh (N := 0) Hf.out) (Nat.zero_le _) (by omega) _ _, ((hbw.trans (hb1.mono hbw.size)).setCell (by show w.heap.size ≤ w.heap.size + 2; omega) _).setCell (by show w.heap.size ≤ w.heap.size + 2; omega) _, Out.ofFresh (Hf.out.mono (by omega))⟩
        · have hcase : i < n ∨ (¬ i < n ∧ i < m) ∨ (¬ i < n ∧ ¬ i < m ∧ 0 < cr) := by omega
          have hile : i ≤ max n m := by omega
          have hnext : i + 1 ≤ max n m ∨ (i + 1 = max n m + 1 ∧ (xs.getD i 0 + ys.getD i 0 + cr) / 1000000000 = 0) ∨ i + 1 = max n m   := by
            by_cases h1 : i < max n m
            · exact Or.inl (by omega)
            · refine Or.inr (Or.inl ⟨by omega, ?_⟩)
              have h2 : xs.getD i 0 = 0 := by rw [List.getD_eq_getElem?_getD, List.getElem?_eq_none (by rw [← Hlx.out]; omega)]; rfl
              have h3 : ys.getD i 0 = 0 := by rw [List.getD_eq_getElem?_getD, List.getElem?_eq_none (by rw [← Hly.out]; omega)]; rfl
              rw [h2, h3]; omega
          clear hend hi2
          have hzl2 : zs.length ≤ 601 := by have := Hzl.out; omega
          have hdxi := Hdx.out.all i
          have hdyi := Hdy.out.all i
          have HSn := Lib.hid (HS.out.step Hdx.out Hdy.out)
          generalize hxi : xs.getD i 0 = xi at *
          generalize hyi : ys.getD i 0 = yi at *
          have Hxi := Lib.hid hxi; have Hyi := Lib.hid hyi; clear hxi hyi
          have hr1 : 0 ≤ (xi + yi + cr) % 1000000000 := by omega
          have hr2 : (xi + yi + cr) % 1000000000 < 1000000000 := by omega
          have hr3 : 0 ≤ xi + yi + cr := by omega
          rcases hcase with g | ⟨g, g'⟩ | ⟨g, g', g''⟩
          all_goals
            go_wp2_with fail
            refine wp_region_eager 11 [(0, true), (1, true), (2, true), (4, true), (5, true), (6, true), (9, true), (3, false), (7, false), (8, true), (10, true)] (by kernel_rfl) (by kernel_rfl) ?_
            iterate 7
              refine wpOrd_yield (v := ?_) rfl (fun _ _ _ h => h) (by rfl) ?_ ?_
              rotate_left
              · intro x hx
                have z2 := (hx.cell (p := ⟨w.heap.size, 1, none⟩) (by show w.heap.size < wr.heap.size; omega)).trans q2
                have z4 := (hx.cell (p := ⟨w.heap.size + 1, 1, none⟩) (by show w.heap.size + 1 < wr.heap.size; omega)).trans q4
                go_simp
                with_reducible rfl
              try simp only [Act.put, List.setIfInBounds_toArray, List.set_cons_zero, List.set_cons_succ]
            refine wpOrd_step rfl rfl (fun K hK => ?_)
            go_simp
            refine (refAt_z xs a n c i xi _ (by exact Hax.out) (by omega) (by omega) Hxi.out).mono ?_
            rintro e w4 ⟨rfl, rfl⟩
            refine hK _ _ (Below.refl _ _) ?_
            clear hK K
            try simp only [Act.put, List.setIfInBounds_toArray, List.set_cons_zero, List.set_cons_succ]
            refine wpOrd_step rfl rfl (fun K hK => ?_)
            go_simp
            refine (refAt_z ys b m d i yi _ (by exact Hby.out) (by omega) (by omega) Hyi.out).mono ?_
            rintro e w4 ⟨rfl, rfl⟩
            refine hK _ _ (Below.refl _ _) ?_
            clear hK K
            try simp only [Act.put, List.setIfInBounds_toArray, List.set_cons_zero, List.set_cons_succ]
            iterate 2
              refine wpOrd_yield (v := ?_) rfl (fun _ _ _ h => h) (by rfl) ?_ ?_
              rotate_left
              · intro x hx
                go_simp
                with_reducible rfl
              try simp only [Act.put, List.setIfInBounds_toArray, List.set_cons_zero, List.set_cons_succ]
            refine wpOrd_nil rfl ?_
            go_wp2_with (refine wpList_append_ints rfl (.tmp 57) (.tmp 60) 49 rfl Try.underlying49 (w.heap.size + 3) _ _ zs rfl (Hown.out.alloc _) _ _ 1 1 [_] rfl (SL.one wr.drew _ _) (by simp) (by omega) (by simp; omega) ?_)
            intro v' w1 hown1 hgrow
            obtain ⟨va', vc', rfl⟩ := owns_slice hown1
            have hgrow' : (wr.alloc (.cells #[.int .i64 ((xi + yi + cr) % 1000000000)] 3)).grownBy w1 (Value.slice va zs.length vc).ownBlock := grown_undrew hgrow
            have e1 := (grown_old (base := w.heap.size + 3) Hown.out hgrow' (b := w.heap.size) (by omega) hsz).trans Hc1.out
            have e2 := (grown_old (base := w.heap.size + 3) Hown.out hgrow' (b := w.heap.size + 1) (by omega) hsz).trans Hc2.out
            have e5 := (grown_old (base := w.heap.size + 3) Hown.out hgrow' (b := w.heap.size + 2) (by omega) hsz).trans Hc3.out
            have e3 := grown_below hbw Hown.out hgrow' (by omega) hsz
            have e4 := hgrow'.size
            have He1 := Lib.hid e1; have He2 := Lib.hid e2; have He5 := Lib.hid e5; have Hown1 := Lib.hid hown1; clear e1 e2 e5 hown1 hgrow hgrow' q1 q2 q3 q4 q5 q6
            go_wp2
            go_roundw
            case rel =>
              refine ⟨i + 1, (xi + yi + cr) / 1000000000, va', vc', zs ++ [(xi + yi + cr) % 1000000000], by simp, by go_num, by go_num, HSn.out, ?_, ?_, He1.out, He2.out, He5.out, e3, ?_⟩
              · rw [← Hlx.out, ← Hly.out]; omega
              · simpa using Hown1.out
              · simp at e4 ⊢; omega
            case measure => simp [intOf]; omega

end Go.Proofs.Ytkfkdkoohnfgaaa
