/-
  DERIVED. The walks of the reference's bounds of a yield, third part: choices.
-/
import Derived.Test.YtkfkdkoohnfgaaaRefM
import Derived.Test.YtkfkdkoohnfgaaaYieldC
namespace Go.Proofs.Ytkfkdkoohnfgaaa
open Go.RowKit

theorem refOf_i (z : Int) (w : World) (h0 : 0 ≤ z) (h1 : z ≤ 9223372036854775807) : Calls Try.prog 36 #[.int .i64 z] w (RetL1 w z) := by
  obtain ⟨k, rfl⟩ : ∃ k : Nat, z = (k : Int) := ⟨z.toNat, by omega⟩
  exact refOf_any k w h1

theorem LG.nonneg {N : Nat} {w : World} {s : Bool} {a : Option Addr} {n c : Nat} {z : Int} (h : LG N w s a n c z) (h0 : 0 ≤ z) : s = false := by
  rw [h.1]; exact decide_eq_false (by omega)

theorem refDiv_i (s t : Bool) (x y : Int) (a b : Option Addr) (n m c d : Nat) (w : World) (ha : LG w.heap.size w s a n c x) (hb : LG w.heap.size w t b m d y) (hx : 0 ≤ x) (hy : 0 < y) (hm : m ≤ 599) :
    Calls Try.prog 62 #[.agg #[.bool s, .slice a n c], .agg #[.bool t, .slice b m d]] w (RetLLE w (x / y) (x % y)) := by
  obtain rfl := ha.nonneg hx
  obtain rfl := hb.nonneg (by omega)
  obtain ⟨x, rfl⟩ : ∃ k : Nat, x = (k : Int) := ⟨x.toNat, by omega⟩
  obtain ⟨y, rfl⟩ : ∃ k : Nat, y = (k : Int) := ⟨y.toNat, by omega⟩
  exact refDiv_any x y a b n m c d w ha hb (by omega) hm

theorem ch_mul : ∀ (n k : Nat), (k + 1) * ch (n + 1) (k + 1) = (n + 1) * ch n k
  | n, 0 => by
    induction n with
    | zero => rfl
    | succ n ih =>
      rw [ch_succ, ch_zero] at *
      have h2 : (0 + 1) * (1 + ch (n + 1) (0 + 1)) = 1 + (0 + 1) * ch (n + 1) (0 + 1) := by omega
      rw [h2, ch_succ, ch_zero, ih]
      omega
  | 0, k + 1 => by rw [ch_gt 1 (k + 1 + 1) (by omega), ch_gt 0 (k + 1) (by omega)]; simp
  | n + 1, k + 1 => by
    have h1 := ch_mul n k
    have h2 := ch_mul n (k + 1)
    rw [ch_succ (n + 1) (k + 1), Nat.mul_add, h2, ch_succ n k, Nat.mul_add]
    have h3 : (k + 1 + 1) * ch n k + (k + 1 + 1) * ch n (k + 1) + (n + 1) * ch n (k + 1) = (k + 1) * ch (n + 1) (k + 1) + ch (n + 1) (k + 1) + (n + 1) * ch n (k + 1) := by
      rw [← Nat.mul_add, ← ch_succ]; rw [Nat.add_mul (k + 1) 1]; omega
    rw [h3, h1, ch_succ n k, Nat.add_mul (n + 1) 1, Nat.mul_add]
    omega

/-- one step of the product -/
theorem ch_step (m i : Nat) : ((ch (m + i) i : Nat) : Int) * ((m + i + 1 : Nat) : Int) / ((i + 1 : Nat) : Int) = ((ch (m + i + 1) (i + 1) : Nat) : Int) := by
  rw [← Int.natCast_mul, Nat.mul_comm, ← ch_mul, ← Int.natCast_ediv, Nat.mul_div_cancel_left _ (by omega)]

theorem ch_fit2 {n : Nat} (h : n ≤ 200) (k : Nat) {x : Nat} (hx : x ≤ 1000) : (digs (((ch n k : Nat) : Int) * (x : Int)).natAbs).length ≤ 600 := by
  rw [← Int.natCast_mul, Int.natAbs_natCast]
  refine Nat.le_trans (length_digs_mono (Nat.mul_le_mul (Nat.le_trans (ch_le n k) (Nat.pow_le_pow_right (by omega) h)) hx)) ?_
  refine Nat.le_trans (length_digs_le (k := 8) ?_) (by omega)
  decide +kernel

set_option maxRecDepth 100000 in
set_option maxHeartbeats 1600000 in
theorem choices_any (n j : Nat) (w : World) (hn : n ≤ 200) (hj : j ≤ n) :
    Calls Try.prog 39 #[.int .i64 (n : Int), .int .i64 (j : Int)] w (RetL1 w ((ch n j : Nat) : Int)) := by
  go_enter Try.func39, Try.ntmps39
  go_wp2_with fail
  refine (refOf_any 1 _ (by omega)).mono ?_
  rintro e w1 ⟨s1, a1, n1, c1, rfl, hl1, hb1, hf1⟩
  have hw1 := below_alloc hb1
  have e1 := (hb1.block w.heap.size (by simp)).trans (heap_alloc_new w (.cells #[.bool false, .slice none 0 0] 51))
  have hf1' : Fresh (w.heap.size + 1) a1 n1 := by simpa using hf1
  have hs1 := hb1.size
  simp at hs1
  have hv0 : VarL w.heap.size (w1.alloc (.cells #[.bool s1, .slice a1 n1 c1] 51)) w1.heap.size ((ch (n - j + 0) 0 : Nat) : Int) := by
    rw [ch_zero]
    exact ⟨s1, a1, n1, c1, heap_alloc_new w1 _, by simpa using hl1.go ((Below.refl _ _).alloc (Nat.le_refl _) _), Out.ofLG hl1, hf1'⟩
  have hw2 : Below w.heap.size w (w1.alloc (.cells #[.bool s1, .slice a1 n1 c1] 51)) := hw1.alloc hw1.size _
  have e2 := (Below.heap_alloc w1 (.cells #[.bool s1, .slice a1 n1 c1] 51) w.heap.size (by omega)).trans e1
  have Hv0 := Lib.hid hv0; have Hw2 := Lib.hid hw2; have E2 := Lib.hid e2; have Hs1 := Lib.hid hs1
  clear hv0 hw2 e2 e1 hw1 hf1 hf1' hl1 hb1 hs1
  go_wp2_with fail
  go_loopw [6] (fun iv wr => ∃ i : Nat, i ≤ j ∧ iv = .int .i64 ((i : Int) + 1) ∧ VarL w.heap.size wr w1.heap.size ((ch (n - j + i) i : Nat) : Int) ∧ wr.heap[w.heap.size]? = some (.cells #[.bool false, .slice none 0 0] 51 (0, 0)) ∧ Below w.heap.size w wr) (fun iv _ => j + 1 - (intOf iv).toNat)
  case atStart => exact ⟨0, Nat.zero_le _, rfl, Hv0.out, E2.out, Hw2.out⟩
  case round =>
    obtain ⟨i, hi, rfl, hv, e0, hwr⟩ := hrel
    obtain ⟨s, p, q, c, h1, h2, h3, h4⟩ := hv
    obtain ⟨q1, q2, f1, f2⟩ := cells_at h1
    have H1 := Lib.hid h1; have H2 := Lib.hid h2; have H3 := Lib.hid h3; have H4 := Lib.hid h4; have E0 := Lib.hid e0; have Hwr := Lib.hid hwr
    have hlt := lt_of_block h1
    clear h1 h2 h3 h4 e0 hwr
    by_cases hin : i < j
    · go_wp2_with fail
      refine wp_region_floats 17 [13, 14] [(15, 7, .cells #[.bool false, .slice none 0 0] 51), (16, 8, .cells #[.bool false, .slice none 0 0] 51)]
        [(0, true), (1, true), (2, true), (3, true), (4, true), (5, true), (8, true), (6, false), (7, false), (9, false), (10, false), (11, true), (12, true), (13, true), (14, true)] (by kernel_rfl) (by kernel_rfl) ?_ (fun _ _ _ _ _ h => h) (fun _ _ o _ _ h => by cases o <;> exact h) ?_
      · refine ⟨by simp, by simp, ?_⟩
        simp only [List.forall_mem_cons]
        exact ⟨⟨by omega, _, rfl, rfl, rfl, fun _ _ => rfl⟩, ⟨by omega, _, rfl, rfl, rfl, fun _ _ => rfl⟩, fun _ h => by cases h⟩
      iterate 7
        refine wpG_yield (v := ?_) rfl rfl (by rfl) ?_ ?_
        rotate_left
        · intro x hx
          have z1 := (hx.cell (p := ⟨w1.heap.size, 0, none⟩) hlt).trans q1
          have z2 := (hx.cell (p := ⟨w1.heap.size, 1, none⟩) hlt).trans q2
          go_simp
          with_reducible rfl
        try simp only [Act.put, List.setIfInBounds_toArray, List.set_cons_zero, List.set_cons_succ]
      refine wpG_step rfl rfl (fun x1 hx1 K hK => ?_)
      go_simp
      have w1e : IntKind.i64.wrap ((n : Int) - j) = (n : Int) - j := IntWalk.i64_in _ (by omega)
      have w2e : IntKind.i64.wrap ((n : Int) - j + ((i : Int) + 1)) = (n : Int) - j + ((i : Int) + 1) := IntWalk.i64_in _ (by omega)
      rw [w1e, w2e]
      refine (refOf_i _ _ (by omega) (by omega)).mono ?_
      rintro e w4 ⟨s4, a4, n4, c4, rfl, hlg4, hb4, hf4⟩
      refine hK _ _ hb4 ?_
      clear hK K
      refine wpG_step rfl rfl (fun x2 hx2 K hK => ?_)
      go_simp
      have hx1' : Below wr.heap.size wr x1 := below_undrew (k := 1) hx1
      have hx12 : Below wr.heap.size wr x2 := hx1'.trans ((hb4.trans (hx2.mono hb4.size)).mono hx1'.size)
      have hmi : (n : Int) - j + ((i : Int) + 1) = ((n - j + i + 1 : Nat) : Int) := by omega
      refine (mul39_any s s4 _ _ p a4 q n4 c c4 _ (H2.out.go hx12) (hlg4.go hx2) (by rw [hmi]; exact ch_fit2 (by omega) _ (by omega))).mono ?_
      rintro e w5 ⟨s5, a5, n5, c5, rfl, hlg5, hb5, hf5⟩
      refine hK _ _ hb5 ?_
      clear hK K
      have Hlg5 := Lib.hid hlg5; have Hmi := Lib.hid hmi
      clear hlg5 hlg4 hf4 hf5 hmi
      refine wpG_step rfl rfl (fun x3 hx3 K hK => ?_)
      go_simp
      refine (refOf_i _ _ (by omega) (by omega)).mono ?_
      rintro e w6 ⟨s6, a6, n6, c6, rfl, hlg6, hb6, hf6⟩
      refine hK _ _ hb6 ?_
      clear hK K
      have Hlg6 := Lib.hid hlg6
      clear hlg6 hf6
      refine wpG_step rfl rfl (fun x4 hx4 K hK => ?_)
      go_simp
      have hx3' : Below w5.heap.size w5 x3 := hx3
      have hx34 : Below w5.heap.size w5 x4 := hx3'.trans ((hb6.trans (hx4.mono hb6.size)).mono hx3'.size)
      have hn6 : n6 ≤ 599 := by
        have h1 := Hlg6.out.2.1.len
        have h2 := length_digs_int ((i : Int) + 1) (by omega) (by omega)
        omega
      have hst := ch_step (n - j) i
      have hpos : (0 : Int) ≤ ((ch (n - j + i) i : Nat) : Int) * ((n : Int) - j + ((i : Int) + 1)) := Int.mul_nonneg (by omega) (by omega)
      refine (refDiv_i s5 s6 _ _ a5 a6 n5 n6 c5 c6 _ (Hlg5.out.go hx34) (Hlg6.out.go hx4) hpos (by omega) hn6).mono ?_
      rintro e w7 ⟨s7, a7, n7, c7, s8, a8, n8, c8, rfl, hlg7, _, hb7, hf7, _⟩
      refine hK _ _ hb7 ?_
      clear hK K
      rw [Hmi.out, show (i : Int) + 1 = ((i + 1 : Nat) : Int) by omega, hst] at hlg7
      have Hlg7 := Lib.hid hlg7; have Hf7 := Lib.hid hf7
      clear hlg7 hf7 hst hpos
      iterate 4
        refine wpG_pure (v := ?_) rfl (by rfl) ?_ ?_
        rotate_left
        · intro x
          go_simp
          with_reducible rfl
        try simp only [Act.put, List.setIfInBounds_toArray, List.set_cons_zero, List.set_cons_succ]
      refine wpG_nil2 rfl (fun b1 b2 w8 hC1 hC2 hne hb8 hbl1 hbl2 => ?_)
      try simp only [Act.put, List.setIfInBounds_toArray, List.set_cons_zero, List.set_cons_succ]
      obtain ⟨⟨⟨⟨c10, c11⟩, c12⟩, c13⟩, c14⟩ := hC1
      obtain ⟨⟨⟨⟨c20, c21⟩, c22⟩, c23⟩, c24⟩ := hC2
      have hx12 := hx12
      have hx48 : Below x4.heap.size x4 w8 := hb7.trans (hb8.mono hb7.size)
      have hx58 : Below w5.heap.size w5 w8 := hx34.trans (hx48.mono hx34.size)
      have hr8 : Below wr.heap.size wr w8 := hx12.trans ((hb5.trans (hx58.mono hb5.size)).mono hx12.size)
      have hs4 : wr.heap.size ≤ x4.heap.size := by have := hx12.size; have := hb5.size; have := hx34.size; omega
      have hl8 := Hlg7.out.go hb8
      have n1 : ∀ b off, a7 = some ⟨b, off, none⟩ → 0 < n7 → b ≠ b1 := fun b off e h0 => by
        have p1 := Hf7.out b off e h0
        have p2 := LG.lt_of Hlg7.out e h0
        omega
      have n2 : ∀ b off, a7 = some ⟨b, off, none⟩ → 0 < n7 → b ≠ b2 := fun b off e h0 => by
        have p1 := Hf7.out b off e h0
        have p2 := LG.lt_of Hlg7.out e h0
        omega
      have h5 := (hr8.block w1.heap.size hlt).trans H1.out
      have h0 := (hr8.block w.heap.size (by have := Hs1.out; omega)).trans E0.out
      have hw8 := Hwr.out.trans (hr8.mono Hwr.out.size)
      obtain ⟨d1, d2, d3, d4⟩ := cells_at hbl1
      obtain ⟨d5, d6, d7, d8⟩ := cells_at hbl2
      obtain ⟨k1, k2, g1, g2⟩ := cells_at h5
      have hg1 : w1.heap.size ≠ b1 := by omega
      have hg2 : w1.heap.size ≠ b2 := by omega
      have Hl8 := Lib.hid hl8; have N1 := Lib.hid n1; have N2 := Lib.hid n2; have H5 := Lib.hid h5; have H0 := Lib.hid h0; have Hw8 := Lib.hid hw8
      have C10 : Hid (w.heap.size ≤ b1 ∧ w.heap.size ≤ b2 ∧ w.heap.size ≠ b1 ∧ w.heap.size ≠ b2) := Lib.hid (by have := Hs1.out; omega)
      clear hl8 n1 n2 h5 h0 hw8 q1 q2 f1 f2 c10 c11 c12 c13 c14 c20 c21 c22 c23 c24 hx1 hx2 hx3 hx4 hb4 hb5 hb6 hb7 hb8 hx1' hx12 hx3' hx34 hx48 hx58 hr8 hbl1 hbl2 w1e w2e
      go_wp2_with fail
      go_roundw
      case rel =>
        have hs := Hs1.out
        obtain ⟨g10, g20, g11, g21⟩ := C10.out
        have e1 := obj_other (obj_other (obj_other (obj_other H5.out ⟨b1, 0, none⟩ (Ne.symm hg1) (.bool s7)) ⟨b1, 1, none⟩ (Ne.symm hg1) (.slice a7 n7 c7)) ⟨b2, 0, none⟩ (Ne.symm hg2) (.bool s8)) ⟨b2, 1, none⟩ (Ne.symm hg2) (.slice a8 n8 c8)
        have e0 := obj_other (obj_other (obj_other (obj_other H0.out ⟨b1, 0, none⟩ (Ne.symm g11) (.bool s7)) ⟨b1, 1, none⟩ (Ne.symm g11) (.slice a7 n7 c7)) ⟨b2, 0, none⟩ (Ne.symm g21) (.bool s8)) ⟨b2, 1, none⟩ (Ne.symm g21) (.slice a8 n8 c8)
        have hl := (((Hl8.out.setCell ⟨b1, 0, none⟩ (.bool s7) N1.out).setCell ⟨b1, 1, none⟩ (.slice a7 n7 c7) N1.out).setCell ⟨b2, 0, none⟩ (.bool s8) N2.out).setCell ⟨b2, 1, none⟩ (.slice a8 n8 c8) N2.out
        refine ⟨i + 1, by omega, by go_num, ?_, ?_, (((((Hw8.out.setCell ?_ _).setCell ?_ _).setCell ?_ _).setCell ?_ _).setCell ?_ _).setCell ?_ _⟩
        · exact VarL.store e1 (by rw [show n - j + (i + 1) = n - j + i + 1 by omega]; simpa using hl) (Out.ofFresh (Hf7.out.mono (by omega))) (Hf7.out.mono (by omega))
        · rw [obj_other (obj_other e0 _ (by show w1.heap.size ≠ w.heap.size; omega) _) _ (by show w1.heap.size ≠ w.heap.size; omega) _]
        · exact g10
        · exact g10
        · exact g20
        · exact g20
        · show w.heap.size ≤ w1.heap.size; omega
        · show w.heap.size ≤ w1.heap.size; omega
      case measure => simp [intOf]; omega
    · obtain rfl : i = j := by omega
      obtain ⟨k1, k2, g1, g2⟩ := cells_at E0.out
      have hch : n - i + i = n := by omega
      have Hch := Lib.hid hch
      clear hch
      go_wp2_with fail
      refine bodyPost_ret (v := .agg #[.bool s, .slice p q c]) ?_ rfl ?_
      · simp [results, Try.results39, go_sem, k1, k2]
      · rw [← Hch.out]
        have hl := H2.out
        rw [Hch.out] at hl ⊢
        exact refL1_mk hl Hwr.out H4.out w.heap.size (by omega) (Nat.le_refl _) _ _

end Go.Proofs.Ytkfkdkoohnfgaaa
