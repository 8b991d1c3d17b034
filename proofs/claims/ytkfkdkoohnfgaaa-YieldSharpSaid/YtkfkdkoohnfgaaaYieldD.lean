/-
  DERIVED. The walks of package yield, fourth part: (trials).small.
-/
import Derived.Test.YtkfkdkoohnfgaaaYieldC
namespace Go.Proofs.Ytkfkdkoohnfgaaa
open Go.RowKit

/-- how likely j good ones of N are, at x of 100, times 100^N -/
def term (N : Nat) (x : Int) (j : Nat) : Int := ((ch N j : Nat) : Int) * (x ^ j * (100 - x) ^ (N - j))
/-- the sum of k of them, from A on -/
def psum (N : Nat) (x : Int) (A : Nat) : Nat → Int
  | 0 => 0
  | k + 1 => psum N x A k + term N x (A + k)

theorem pow_bd {x : Int} (h0 : 0 ≤ x) (h1 : x ≤ 100) {j : Nat} (hj : j ≤ 200) : 0 ≤ x ^ j ∧ x ^ j ≤ 100 ^ 200 := by
  refine ⟨Int.pow_nonneg h0, ?_⟩
  obtain ⟨y, rfl⟩ := Int.eq_ofNat_of_zero_le h0
  have h2 : y ≤ 100 := by omega
  have : y ^ j ≤ 100 ^ 200 := Nat.le_trans (Nat.pow_le_pow_left h2 j) (Nat.pow_le_pow_right (by omega) hj)
  have e : ((y ^ j : Nat) : Int) ≤ ((100 ^ 200 : Nat) : Int) := Int.ofNat_le.2 this
  rw [Int.natCast_pow, Int.natCast_pow] at e
  exact e

theorem mul_bd {a b A B : Int} (h1 : 0 ≤ a) (h2 : a ≤ A) (h3 : 0 ≤ b) (h4 : b ≤ B) : 0 ≤ a * b ∧ a * b ≤ A * B :=
  ⟨Int.mul_nonneg h1 h3, Int.mul_le_mul h2 h4 h3 (by omega)⟩

theorem fit_of_lt {z : Int} (h0 : 0 ≤ z) (h : z < ((1000000000 ^ 300 : Nat) : Int)) : (digs z.natAbs).length ≤ 600 := by
  refine Nat.le_trans (length_digs_le (k := 300) ?_) (by omega)
  apply Int.ofNat_lt.1
  rw [Int.natAbs_of_nonneg h0]
  exact h

theorem ch_bd {N j : Nat} (hN : N ≤ 200) : (0 : Int) ≤ ((ch N j : Nat) : Int) ∧ ((ch N j : Nat) : Int) ≤ 100 ^ 200 := by
  refine ⟨by omega, ?_⟩
  have h1 : ch N j ≤ 100 ^ 200 := Nat.le_trans (ch_le N j) (Nat.le_trans (Nat.pow_le_pow_right (by omega) hN) (Nat.pow_le_pow_left (by omega) 200))
  have e : ((ch N j : Nat) : Int) ≤ ((100 ^ 200 : Nat) : Int) := Int.ofNat_le.2 h1
  rw [Int.natCast_pow] at e
  exact e

theorem gb_bd {N j : Nat} {x : Int} (hN : N ≤ 200) (h0 : 0 ≤ x) (h1 : x ≤ 100) (hj : j ≤ N) : 0 ≤ x ^ j * (100 - x) ^ (N - j) ∧ x ^ j * (100 - x) ^ (N - j) ≤ 100 ^ 200 * 100 ^ 200 := by
  have a := pow_bd h0 h1 (show j ≤ 200 by omega)
  have b := pow_bd (x := 100 - x) (by omega) (by omega) (show N - j ≤ 200 by omega)
  exact mul_bd a.1 a.2 b.1 b.2

theorem term_bd {N j : Nat} {x : Int} (hN : N ≤ 200) (h0 : 0 ≤ x) (h1 : x ≤ 100) (hj : j ≤ N) : 0 ≤ term N x j ∧ term N x j ≤ 100 ^ 200 * (100 ^ 200 * 100 ^ 200) := by
  have a := gb_bd hN h0 h1 hj
  have c := ch_bd (N := N) (j := j) hN
  exact mul_bd c.1 c.2 a.1 a.2

theorem psum_bd {N A : Nat} {x : Int} (hN : N ≤ 200) (h0 : 0 ≤ x) (h1 : x ≤ 100) : ∀ k, A + k ≤ N + 1 → 0 ≤ psum N x A k ∧ psum N x A k ≤ (k : Int) * (100 ^ 200 * (100 ^ 200 * 100 ^ 200))
  | 0, _ => by simp [psum]
  | k + 1, h => by
    have ih := psum_bd (A := A) hN h0 h1 k (by omega)
    have t := term_bd hN h0 h1 (show A + k ≤ N by omega)
    simp only [psum]
    generalize (100 : Int) ^ 200 * (100 ^ 200 * 100 ^ 200) = C at *
    have e : (((k + 1 : Nat) : Int)) * C = (k : Int) * C + C := by rw [show (((k + 1 : Nat) : Int)) = (k : Int) + 1 by omega, Int.add_mul, Int.one_mul]
    rw [e]
    omega

theorem fit_gb {N j : Nat} {x : Int} (hN : N ≤ 200) (h0 : 0 ≤ x) (h1 : x ≤ 100) (hj : j ≤ N) : (digs (x ^ j * (100 - x) ^ (N - j)).natAbs).length ≤ 600 := by
  have a := gb_bd hN h0 h1 hj
  exact fit_of_lt a.1 (Int.lt_of_le_of_lt a.2 (by decide +kernel))
theorem fit_term {N j : Nat} {x : Int} (hN : N ≤ 200) (h0 : 0 ≤ x) (h1 : x ≤ 100) (hj : j ≤ N) : (digs (term N x j).natAbs).length ≤ 600 := by
  have a := term_bd hN h0 h1 hj
  exact fit_of_lt a.1 (Int.lt_of_le_of_lt a.2 (by decide +kernel))
theorem psum_small {N A k : Nat} {x : Int} (hN : N ≤ 200) (h0 : 0 ≤ x) (h1 : x ≤ 100) (h : A + k ≤ N + 1) : 0 ≤ psum N x A k ∧ psum N x A k ≤ 201 * (100 ^ 200 * (100 ^ 200 * 100 ^ 200)) := by
  have a := psum_bd hN h0 h1 k h
  refine ⟨a.1, Int.le_trans a.2 (Int.mul_le_mul_of_nonneg_right (by omega) (by decide +kernel))⟩
theorem fit_psum {N A k : Nat} {x : Int} (hN : N ≤ 200) (h0 : 0 ≤ x) (h1 : x ≤ 100) (h : A + k ≤ N + 1) : (digs (psum N x A k).natAbs).length ≤ 600 := by
  have a := psum_small hN h0 h1 h
  exact fit_of_lt a.1 (Int.lt_of_le_of_lt a.2 (by decide +kernel))
theorem fit_mil {N A k : Nat} {x : Int} (hN : N ≤ 200) (h0 : 0 ≤ x) (h1 : x ≤ 100) (h : A + k ≤ N + 1) : (digs (psum N x A k * 1000000).natAbs).length ≤ 600 := by
  have a := psum_small hN h0 h1 h
  have b := mul_bd (b := 1000000) (B := 1000000) a.1 a.2 (by omega) (by omega)
  exact fit_of_lt b.1 (Int.lt_of_le_of_lt b.2 (by decide +kernel))

theorem fit_pow {x : Int} (h0 : 0 ≤ x) (h1 : x ≤ 100) {N : Nat} (hN : N ≤ 200) : (digs (x ^ N).natAbs).length ≤ 600 := by
  have a := pow_bd h0 h1 hN
  exact fit_of_lt a.1 (Int.lt_of_le_of_lt a.2 (by decide +kernel))

/-- whether the tail is small, at x of 100 -/
def smallB (N A T : Nat) (M x : Int) : Bool := decide (psum N x A (T + 1 - A) * 1000000 ≤ M)

theorem cmpZ_le {a b : Int} : cmpZ a b ≤ 0 ↔ a ≤ b := by
  unfold cmpZ
  by_cases h : a < b
  · rw [if_pos h]; omega
  · rw [if_neg h]
    by_cases h2 : b < a
    · rw [if_pos h2]; omega
    · rw [if_neg h2]; omega

set_option maxRecDepth 100000 in
set_option maxHeartbeats 3200000 in
theorem small_any (N A T : Nat) (M x : Int) (g cap : Nat) (s : Bool) (a : Option Addr) (n c : Nat) (w : World) (hN : N ≤ 200) (hA : A ≤ T) (hT : T ≤ N) (h0 : 0 ≤ x) (h1 : x ≤ 100)
    (hrow : RowL w.heap.size 0 w g cap (bin N)) (hM : LG w.heap.size w s a n c M) :
    Calls Try.prog 22 #[.agg #[.int .i64 (N : Int), .int .i64 (A : Int), .int .i64 (T : Int), .slice (some ⟨g, 0, none⟩) (N + 1) cap, .bool s, .slice a n c], .int .i64 x] w
      (RetB w (.bool (smallB N A T M x))) := by
  have Hrow := Lib.hid hrow; have HM := Lib.hid hM; clear hrow hM
  have hgl := Hrow.out.lt
  go_enter Try.func22, Try.ntmps22
  go_wp2_with fail
  refine wp_region_eager 9 [(0, true), (1, true), (2, true), (4, true), (5, true), (6, true), (7, true), (3, false), (8, false)] (by kernel_rfl) (by kernel_rfl) ?_
  have y0 : IntKind.i64.wrap (100 - x) = 100 - x := IntWalk.i64_in _ (by omega)
  iterate 7
    refine wpOrd_yield (v := ?_) rfl (fun _ _ _ h => h) (by rfl) ?_ ?_
    rotate_left
    · intro x hx
      have q1 := (hx.cell (p := ⟨w.heap.size, 0, none⟩) (by simp)).trans ((World.cell?_alloc_at (w := w) #[.int .i64 (N : Int), .int .i64 (A : Int), .int .i64 (T : Int), .slice (some ⟨g, 0, none⟩) (N + 1) cap, .bool s, .slice a n c] 56 _ 0 rfl).trans rfl)
      go_simp
      with_reducible rfl
    try simp only [Act.put, List.setIfInBounds_toArray, List.set_cons_zero, List.set_cons_succ]
  refine wpOrd_step rfl rfl (fun K hK => ?_)
  go_simp
  refine (powers_any x _ _ h0 (by omega) N rfl (by omega) (fit_pow h0 h1 hN)).mono ?_
  rintro e w2 ⟨g2, cap2, rfl, hrow2, hb2⟩
  refine hK _ _ hb2 ?_
  clear hK K
  have hb2' := below_undrew (k := 1) hb2
  simp only [length_pw]
  refine wpOrd_step rfl rfl (fun K hK => ?_)
  go_simp
  refine (powers_any (100 - x) _ _ (by omega) (by omega) N rfl (by omega) (fit_pow (by omega) (by omega) hN)).mono ?_
  rintro e w3 ⟨g3, cap3, rfl, hrow3, hb3⟩
  refine hK _ _ hb3 ?_
  clear hK K
  simp only [length_pw]
  refine wpOrd_nil rfl ?_
  go_wp2_with fail
  refine (of_any 0 w3 (by omega) (by omega)).mono ?_
  rintro e w4 ⟨s4, a4, n4, c4, rfl, hl4, hb4, hf4⟩
  have hb24 : Below w2.heap.size w2 w4 := hb3.trans (hb4.mono hb3.size)
  have hb14 := hb2'.trans (hb24.mono hb2'.size)
  obtain ⟨kb, _, ks⟩ := kept_new hb14
  have hb04 := below_alloc hb14
  have Hrow0 := Lib.hid (Hrow.out.keep hb04)
  have Hrow2 := Lib.hid ((hrow2.keep hb24).mono hb24.size)
  have Hrow3 := Lib.hid ((hrow3.keep hb4).mono hb4.size)
  have HM4 := Lib.hid (HM.out.go hb04)
  have hs04 := hb04.size
  obtain rfl : s4 = false := by rw [hl4.1]; simp
  clear hrow2 hrow3 hb2 hb3 hb4 hb24 hb14 hb2'
  have Kb := Lib.hid kb; clear kb
  have Hl4 := Lib.hid hl4; clear hl4
  have kb1 := (Kb.out 1).trans rfl
  go_wp2_with fail
  clear kb1
  go_loopw [8] (fun jv wr => ∃ (j : Nat) (a7 : Option Addr) (n7 c7 : Nat), A ≤ j ∧ j ≤ T + 1 ∧ jv = .int .i64 (j : Int) ∧ wr.heap[w4.heap.size]? = some (.cells #[.bool false, .slice a7 n7 c7] 51 (0, 0)) ∧
      LG wr.heap.size wr false a7 n7 c7 (psum N x A (j - A)) ∧ (∀ b off, a7 = some ⟨b, off, none⟩ → 0 < n7 → b ≠ w4.heap.size) ∧ Below w4.heap.size w4 wr ∧ w4.heap.size + 1 ≤ wr.heap.size) (fun jv _ => T + 1 - (intOf jv).toNat)
  case atStart =>
    refine ⟨A, a4, n4, c4, Nat.le_refl _, by omega, rfl, heap_alloc_new _ _, ?_, ?_, (Below.refl _ _).alloc (Nat.le_refl _) _, by simp⟩
    · rw [Nat.sub_self]
      exact Hl4.out.go ((Below.refl _ _).alloc (Nat.le_refl _) _)
    · intro b off e h0
      have := LG.lt_of Hl4.out e h0
      omega
  case round =>
    obtain ⟨j, a7, n7, c7, hj1, hj2, rfl, h7, hl7, ho7, hbw, hsz⟩ := hrel
    have H7 := Lib.hid h7; have Hl7 := Lib.hid hl7; clear h7 hl7
    have hbs := hbw.size
    have u0 := (hbw.cell (p := ⟨w.heap.size, 0, none⟩) ks).trans ((Kb.out 0).trans rfl)
    have u2 := (hbw.cell (p := ⟨w.heap.size, 2, none⟩) ks).trans ((Kb.out 2).trans rfl)
    have u3 := (hbw.cell (p := ⟨w.heap.size, 3, none⟩) ks).trans ((Kb.out 3).trans rfl)
    have u4 := (hbw.cell (p := ⟨w.heap.size, 4, none⟩) ks).trans ((Kb.out 4).trans rfl)
    have u5 := (hbw.cell (p := ⟨w.heap.size, 5, none⟩) ks).trans ((Kb.out 5).trans rfl)
    have v0 : wr.cell? ⟨w4.heap.size, 0, none⟩ = some (.bool false) := by simp [World.cell?, H7.out]
    have v1 : wr.cell? ⟨w4.heap.size, 1, none⟩ = some (.slice a7 n7 c7) := by simp [World.cell?, H7.out]
    have hls : w.heap.size < wr.heap.size := by omega
    have hl4s : w4.heap.size < wr.heap.size := by omega
    by_cases hjT : j ≤ T
    · have f0 : wr.frozen? ⟨w4.heap.size, 0, none⟩ = false := by simp [World.frozen?, H7.out]
      have f1 : wr.frozen? ⟨w4.heap.size, 1, none⟩ = false := by simp [World.frozen?, H7.out]
      have hg1 : g < wr.heap.size := by omega
      have hg2 : g2 < wr.heap.size := by have := Hrow2.out.lt; omega
      have hg3 : g3 < wr.heap.size := by have := Hrow3.out.lt; omega
      obtain ⟨s1, a1, n1, c1, k1, k2, hl1, _⟩ := ((Hrow0.out.keep (hbw.mono hs04)).mono (by omega : w.heap.size ≤ wr.heap.size)).get (j := j) (by rw [length_bin]; omega)
      obtain ⟨s5, a5, n5, c5, k3, k4, hl5, _⟩ := ((Hrow2.out.keep hbw).mono hbs).get (j := j) (by rw [length_pw]; omega)
      obtain ⟨s6, a6, n6, c6, k5, k6, hl6, _⟩ := ((Hrow3.out.keep hbw).mono hbs).get (j := N - j) (by rw [length_pw]; omega)
      rw [bin_get _ _ (by omega)] at hl1
      rw [pw_get _ _ _ (by omega)] at hl5 hl6
      have Hl1 := Lib.hid hl1; have Hl5 := Lib.hid hl5; have Hl6 := Lib.hid hl6; clear hl1 hl5 hl6
      have i1 : (0 : Int) ≤ (j : Int) := by omega
      have i2 : (j : Int) < (N : Int) + 1 := by omega
      have i6 : j ≤ N := by omega
      have i3 : (0 : Int) ≤ (N : Int) - (j : Int) := by omega
      have i4 : (N : Int) - (j : Int) < (N : Int) + 1 := by omega
      have r1 : IntKind.i64.wrap ((N : Int) - (j : Int)) = (N : Int) - (j : Int) := IntWalk.i64_in _ (by omega)
      have r2 : ((N : Int) - (j : Int)).toNat = N - j := by omega
      go_wp2_with fail
      refine wp_region_eager 23 [(0, true), (1, true), (2, true), (3, true), (4, true), (5, true), (6, true), (7, true), (8, true), (9, true), (10, true), (11, true), (12, true), (13, true), (14, true), (15, true), (16, true), (17, false), (18, false), (19, false), (20, true), (21, true), (22, false)] (by kernel_rfl) (by kernel_rfl) ?_
      iterate 17
        refine wpOrd_yield (v := ?_) rfl (fun _ _ _ h => h) (by rfl) ?_ ?_
        rotate_left
        · intro x hx
          have q0 := (hx.cell (p := ⟨w.heap.size, 0, none⟩) hls).trans u0
          have q1 := (hx.cell (p := ⟨w.heap.size, 3, none⟩) hls).trans u3
          have q2 := (hx.cell (p := ⟨w4.heap.size, 0, none⟩) hl4s).trans v0
          have q3 := (hx.cell (p := ⟨w4.heap.size, 1, none⟩) hl4s).trans v1
          have q4 := (hx.cell (p := ⟨g, j * 2, none⟩) hg1).trans k1
          have q5 := (hx.cell (p := ⟨g, j * 2 + 1, none⟩) hg1).trans k2
          have q6 := (hx.cell (p := ⟨g2, j * 2, none⟩) hg2).trans k3
          have q7 := (hx.cell (p := ⟨g2, j * 2 + 1, none⟩) hg2).trans k4
          have q8 := (hx.cell (p := ⟨g3, (N - j) * 2, none⟩) hg3).trans k5
          have q9 := (hx.cell (p := ⟨g3, (N - j) * 2 + 1, none⟩) hg3).trans k6
          go_simp
          with_reducible rfl
        try simp only [Act.put, List.setIfInBounds_toArray, List.set_cons_zero, List.set_cons_succ]
      have F1 := Lib.hid (fit_gb hN h0 h1 i6)
      have F2 := Lib.hid (fit_term hN h0 h1 i6)
      have hps : psum N x A (j - A) + term N x j = psum N x A (j + 1 - A) := by
        rw [show j + 1 - A = (j - A) + 1 by omega]
        simp only [psum]
        rw [show A + (j - A) = j by omega]
      have F3 : Hid ((digs (psum N x A (j - A) + term N x j).natAbs).length ≤ 600) := Lib.hid (by rw [hps]; exact fit_psum hN h0 h1 (by omega))
      have Hps := Lib.hid hps; clear hps
      have htn := (term_bd hN h0 h1 i6).1
      have Htn := Lib.hid htn; clear htn
      refine wpOrd_step rfl rfl (fun K hK => ?_)
      go_simp
      refine (ymul_any s5 s6 _ _ a5 a6 n5 n6 c5 c6 _ (by exact Hl5.out) (by exact Hl6.out) F1.out).mono ?_
      rintro e x5 ⟨s8, a8, n8, c8, rfl, hl8, hx5, hf8⟩
      refine hK _ _ hx5 ?_
      clear hK K
      have hx5' : Below wr.heap.size wr x5 := below_undrew (k := 1) hx5
      try simp only [Act.put, List.setIfInBounds_toArray, List.set_cons_zero, List.set_cons_succ]
      refine wpOrd_step rfl rfl (fun K hK => ?_)
      go_simp
      refine (ymul_any s1 s8 _ _ a1 a8 n1 n8 c1 c8 _ (by exact Hl1.out.go hx5') hl8 F2.out).mono ?_
      rintro e x6 ⟨s9, a9, n9, c9, rfl, hl9, hx6, hf9⟩
      refine hK _ _ hx6 ?_
      clear hK K
      have hx6' := hx5'.trans (hx6.mono hx5'.size)
      obtain rfl : s9 = false := by rw [hl9.1]; simp; exact Htn.out
      try simp only [Act.put, List.setIfInBounds_toArray, List.set_cons_zero, List.set_cons_succ]
      refine wpOrd_step rfl rfl (fun K hK => ?_)
      go_simp
      refine (add_same false _ _ a7 a9 n7 n9 c7 c9 _ (Hl7.out.go hx6') hl9 F3.out).mono ?_
      rintro e x7 ⟨s10, a10, n10, c10, rfl, hl10, hx7, hf10⟩
      refine hK _ _ hx7 ?_
      clear hK K
      try simp only [Act.put, List.setIfInBounds_toArray, List.set_cons_zero, List.set_cons_succ]
      iterate 2
        refine wpOrd_yield (v := ?_) rfl (fun _ _ _ h => h) (by rfl) ?_ ?_
        rotate_left
        · intro x hx
          go_simp
          with_reducible rfl
        try simp only [Act.put, List.setIfInBounds_toArray, List.set_cons_zero, List.set_cons_succ]
      refine wpOrd_step rfl rfl (fun K hK => ?_)
      go_simp
      refine (mustL_ok s10 a10 n10 c10 _).mono ?_
      rintro e x8 ⟨rfl, hx8⟩
      refine hK _ _ hx8 ?_
      clear hK K
      try simp only [Act.put, List.setIfInBounds_toArray, List.set_cons_zero, List.set_cons_succ]
      have hx68 := hx7.trans (hx8.mono hx7.size)
      have hx8' := hx6'.trans (hx68.mono hx6'.size)
      have hl11 : LG x8.heap.size x8 s10 a10 n10 c10 (psum N x A (j + 1 - A)) := by rw [← Hps.out]; exact hl10.go hx8
      have hs8 := hx8'.size
      have hs6 := hx6'.size
      have h78 := (hx8'.block w4.heap.size hl4s).trans H7.out
      have y0 : x8.cell? ⟨w4.heap.size, 0, none⟩ = some (.bool false) := by simp [World.cell?, h78]
      have y1 : x8.cell? ⟨w4.heap.size, 1, none⟩ = some (.slice a7 n7 c7) := by simp [World.cell?, h78]
      have y2 : x8.frozen? ⟨w4.heap.size, 0, none⟩ = false := by simp [World.frozen?, h78]
      have y3 : x8.frozen? ⟨w4.heap.size, 1, none⟩ = false := by simp [World.frozen?, h78]
      have hne : ∀ b off, a10 = some ⟨b, off, none⟩ → 0 < n10 → b ≠ w4.heap.size := fun b off e h0 => by have := hf10 b off e h0; omega
      have hl12 := (hl11.setCell ⟨w4.heap.size, 0, none⟩ (.bool s10) hne).setCell ⟨w4.heap.size, 1, none⟩ (.slice a10 n10 c10) hne
      have h79 := obj_setCell (obj_setCell h78 0 (.bool s10)) 1 (.slice a10 n10 c10)
      obtain rfl : s10 = false := by rw [hl11.1]; simp; exact (psum_bd (A := A) hN h0 h1 _ (by omega)).1
      have H79 := Lib.hid h79; have Hl12 := Lib.hid hl12; clear h78 h79 hl12 hl11 hl10
      refine wpOrd_nil rfl ?_
      go_wp2
      go_roundw
      case rel =>
        refine ⟨j + 1, a10, n10, c10, by omega, by omega, by go_num, ?_, ?_, hne, ((hbw.trans (hx8'.mono hbs)).setCell (Nat.le_refl _) _).setCell (Nat.le_refl _) _, ?_⟩
        · have := H79.out
          simpa using this
        · have := Hl12.out
          simpa using this
        · simp; omega
      case measure => simp [intOf]; omega
    · obtain rfl : j = T + 1 := by omega
      have F1 := Lib.hid (fit_mil (A := A) (k := T + 1 - A) hN h0 h1 (by omega))
      go_wp2_with fail
      refine wp_region_eager 10 [(0, true), (3, true), (4, true), (1, false), (2, false), (5, false), (6, true), (7, true), (8, false), (9, true)] (by kernel_rfl) (by kernel_rfl) ?_
      iterate 3
        refine wpOrd_yield (v := ?_) rfl (fun _ _ _ h => h) (by rfl) ?_ ?_
        rotate_left
        · intro x hx
          have q0 := (hx.cell (p := ⟨w.heap.size, 4, none⟩) hls).trans u4
          have q1 := (hx.cell (p := ⟨w.heap.size, 5, none⟩) hls).trans u5
          have q2 := (hx.cell (p := ⟨w4.heap.size, 0, none⟩) hl4s).trans v0
          have q3 := (hx.cell (p := ⟨w4.heap.size, 1, none⟩) hl4s).trans v1
          go_simp
          with_reducible rfl
        try simp only [Act.put, List.setIfInBounds_toArray, List.set_cons_zero, List.set_cons_succ]
      refine wpOrd_step rfl rfl (fun K hK => ?_)
      go_simp
      refine (of_any 1000000 _ (by omega) (by omega)).mono ?_
      rintro e x5 ⟨s8, a8, n8, c8, rfl, hl8, hx5, hf8⟩
      refine hK _ _ hx5 ?_
      clear hK K
      have hx5' : Below wr.heap.size wr x5 := below_undrew (k := 1) hx5
      try simp only [Act.put, List.setIfInBounds_toArray, List.set_cons_zero, List.set_cons_succ]
      refine wpOrd_step rfl rfl (fun K hK => ?_)
      go_simp
      refine (ymul_any false s8 _ _ a7 a8 n7 n8 c7 c8 _ (by exact Hl7.out.go hx5') hl8 F1.out).mono ?_
      rintro e x6 ⟨s9, a9, n9, c9, rfl, hl9, hx6, hf9⟩
      refine hK _ _ hx6 ?_
      clear hK K
      have hx6' := hx5'.trans (hx6.mono hx5'.size)
      try simp only [Act.put, List.setIfInBounds_toArray, List.set_cons_zero, List.set_cons_succ]
      refine wpOrd_step rfl rfl (fun K hK => ?_)
      go_simp
      have hM6 : LG x6.heap.size x6 s a n c M := ((HM4.out.below hbw (Nat.le_refl _)).mono hbs).go hx6'
      refine (lcmp_any s9 s _ _ a9 a n9 n c9 c _ hl9 hM6).mono ?_
      rintro e x7 ⟨rfl, hx7⟩
      refine hK _ _ hx7 ?_
      clear hK K
      try simp only [Act.put, List.setIfInBounds_toArray, List.set_cons_zero, List.set_cons_succ]
      iterate 2
        refine wpOrd_yield (v := ?_) rfl (fun _ _ _ h => h) (by rfl) ?_ ?_
        rotate_left
        · intro x hx
          go_simp
          with_reducible rfl
        try simp only [Act.put, List.setIfInBounds_toArray, List.set_cons_zero, List.set_cons_succ]
      refine wpOrd_step rfl rfl (fun K hK => ?_)
      go_simp
      refine (mustI_ok _ _).mono ?_
      rintro e x8 ⟨rfl, hx8⟩
      refine hK _ _ hx8 ?_
      clear hK K
      try simp only [Act.put, List.setIfInBounds_toArray, List.set_cons_zero, List.set_cons_succ]
      iterate 1
        refine wpOrd_yield (v := ?_) rfl (fun _ _ _ h => h) (by rfl) ?_ ?_
        rotate_left
        · intro x hx
          go_simp
          with_reducible rfl
        try simp only [Act.put, List.setIfInBounds_toArray, List.set_cons_zero, List.set_cons_succ]
      refine wpOrd_nil rfl ?_
      go_wp2
      go_ret
      refine ⟨?_, hb04.trans ((hbw.trans ((hx6'.trans ((hx7.trans (hx8.mono hx7.size)).mono hx6'.size)).mono hbs)).mono hs04)⟩
      show Ending.returned (.bool _) = _
      congr 2
      unfold smallB
      exact decide_eq_decide.2 cmpZ_le

end Go.Proofs.Ytkfkdkoohnfgaaa
