/-
  DERIVED. The walks of the reference's bounds of a yield, fourth part: small.
-/
import Derived.Test.YtkfkdkoohnfgaaaRefN
import Derived.Test.YtkfkdkoohnfgaaaYieldF
namespace Go.Proofs.Ytkfkdkoohnfgaaa
open Go.RowKit

theorem power_i (x m : Int) (N : Nat) (w : World) (h0 : 0 ≤ x) (h1 : x ≤ 100) (hm : m = (N : Int)) (hN : N ≤ 200) :
    Calls Try.prog 40 #[.int .i64 x, .int .i64 m] w (RetL1 w (x ^ N)) := by
  subst hm
  obtain ⟨k, rfl⟩ : ∃ k : Nat, x = (k : Int) := ⟨x.toNat, by omega⟩
  rw [← Int.natCast_pow]
  refine power_any k N w (by omega) (by omega) (fun i hi => ?_)
  have := fit_pow h0 h1 (N := i) (by omega)
  rwa [← Int.natCast_pow, Int.natAbs_natCast] at this

/-- block g holds the long integer z -/
def SumL (w : World) (g : Nat) (z : Int) : Prop :=
  ∃ s p q c, w.heap[g]? = some (.cells #[.bool s, .slice p q c] 51 (0, 0)) ∧ LG w.heap.size w s p q c z

/-- what holds whole numbers is not the block of a long integer -/
theorem LG.ne_var {N : Nat} {w : World} {s u : Bool} {a : Option Addr} {n c g : Nat} {z : Int} {v : Option Addr} {p q : Nat} {t : TypeId} (h : LG N w s a n c z) (hg : w.heap[g]? = some (.cells #[.bool u, .slice v p q] t (0, 0))) :
    ∀ b off, a = some ⟨b, off, none⟩ → 0 < n → b ≠ g := fun b off e h0 hb => by
  subst hb
  obtain ⟨b', off', e', _, hc⟩ := h.2.1.at h0
  rw [e] at e'; cases e'
  have := hc 0 h0
  simp only [World.cell?, hg] at this
  match off, this with
  | 0, this => simp at this
  | 1, this => simp at this
  | k + 2, this => simp at this

theorem SumL.store {w : World} {g : Nat} {z : Int} {s u : Bool} {p v : Option Addr} {q c q' c' : Nat} (h0 : w.heap[g]? = some (.cells #[.bool u, .slice v q' c'] 51 (0, 0))) (h : LG w.heap.size w s p q c z) :
    SumL ((w.setCell ⟨g, 0, none⟩ (.bool s)).setCell ⟨g, 1, none⟩ (.slice p q c)) g z := by
  have hne := h.ne_var h0
  refine ⟨s, p, q, c, ?_, by simpa using (h.setCell ⟨g, 0, none⟩ (.bool s) hne).setCell ⟨g, 1, none⟩ (.slice p q c) hne⟩
  rw [obj_setCell (w := w.setCell ⟨g, 0, none⟩ (.bool s)) (by exact obj_setCell h0 0 (.bool s)) 1 (.slice p q c)]
  rfl

set_option maxRecDepth 100000 in
set_option maxHeartbeats 1600000 in
theorem refSmall_any (N A T : Nat) (d x : Int) (w : World) (hN : N ≤ 200) (hA : A ≤ T) (hT : T ≤ N) (hd0 : 1 ≤ d) (hd1 : d ≤ 999999) (h0 : 0 ≤ x) (h1 : x ≤ 100) :
    Calls Try.prog 24 #[.int .i64 (N : Int), .int .i64 (A : Int), .int .i64 (T : Int), .int .i64 d, .int .i64 x] w (RetB w (.bool (smallB N A T (d * 100 ^ N) x))) := by
  go_enter Try.func24, Try.ntmps24
  go_wp2_with fail
  refine (refOf_i 0 _ (by omega) (by omega)).mono ?_
  rintro e w1 ⟨s1, a1, n1, c1, rfl, hl1, hb1, hf1⟩
  have hv0 : SumL (w1.alloc (.cells #[.bool s1, .slice a1 n1 c1] 51)) w1.heap.size (psum N x A 0) :=
    ⟨s1, a1, n1, c1, heap_alloc_new w1 _, by simpa [psum] using hl1.go ((Below.refl _ _).alloc (Nat.le_refl _) _)⟩
  have hw2 : Below w.heap.size w (w1.alloc (.cells #[.bool s1, .slice a1 n1 c1] 51)) := hb1.alloc hb1.size _
  have Hv0 := Lib.hid hv0; have Hw2 := Lib.hid hw2; have Hs1 := Lib.hid hb1.size
  clear hv0 hw2 hf1 hl1 hb1
  go_wp2_with fail
  go_loopw [12] (fun jv wr => ∃ j : Nat, A ≤ j ∧ j ≤ T + 1 ∧ jv = .int .i64 (j : Int) ∧ SumL wr w1.heap.size (psum N x A (j - A)) ∧ Below w.heap.size w wr) (fun jv _ => T + 1 - (intOf jv).toNat)
  case atStart => exact ⟨A, Nat.le_refl _, by omega, rfl, by rw [Nat.sub_self]; exact Hv0.out, Hw2.out⟩
  case round =>
    obtain ⟨j, hj0, hj1, rfl, hv, hwr⟩ := hrel
    obtain ⟨s, p, q, c, g1, g2⟩ := hv
    obtain ⟨q1, q2, f1, f2⟩ := cells_at g1
    have G1 := Lib.hid g1; have G2 := Lib.hid g2; have Hwr := Lib.hid hwr
    have hlt := lt_of_block g1
    obtain rfl : s = false := g2.nonneg (psum_bd (A := A) hN h0 h1 (j - A) (by omega)).1
    clear g1 g2 hwr
    by_cases hj : j ≤ T
    · have hx1 : IntKind.i64.wrap (100 - x) = 100 - x := IntWalk.i64_in _ (by omega)
      have hx2 : IntKind.i64.wrap ((N : Int) - j) = (N : Int) - j := IntWalk.i64_in _ (by omega)
      have i6 : j ≤ N := by omega
      go_wp2_with fail
      refine wp_region_eager 16 [(0, true), (1, true), (2, true), (4, true), (5, true), (7, true), (8, true), (9, true), (10, true), (11, true), (3, false), (6, false), (12, false), (13, false), (14, false), (15, false)] (by kernel_rfl) (by kernel_rfl) ?_
      iterate 10
        refine wpOrd_yield (v := ?_) rfl (fun _ _ _ h => h) (by rfl) ?_ ?_
        rotate_left
        · intro y hy
          have z1 := (hy.cell (p := ⟨w1.heap.size, 0, none⟩) hlt).trans q1
          have z2 := (hy.cell (p := ⟨w1.heap.size, 1, none⟩) hlt).trans q2
          go_simp
          with_reducible rfl
        try simp only [Act.put, List.setIfInBounds_toArray, List.set_cons_zero, List.set_cons_succ]
      clear hx1 hx2
      refine wpOrd_step rfl rfl (fun KK hKK => ?_)
      go_simp
      refine (choices_any N j _ hN i6).mono ?_
      rintro e w3 ⟨s3, a3, n3, c3, rfl, hl3, hb3, hf3⟩
      refine hKK _ _ hb3 ?_
      clear hKK KK
      refine wpOrd_step rfl rfl (fun KK hKK => ?_)
      go_simp
      refine (power_i x _ j _ h0 h1 rfl (by omega)).mono ?_
      rintro e w4 ⟨s4, a4, n4, c4, rfl, hl4, hb4, hf4⟩
      refine hKK _ _ hb4 ?_
      clear hKK KK
      refine wpOrd_step rfl rfl (fun KK hKK => ?_)
      go_simp
      refine (power_i (100 - x) _ (N - j) _ (by omega) (by omega) (by omega) (by omega)).mono ?_
      rintro e w5 ⟨s5, a5, n5, c5, rfl, hl5, hb5, hf5⟩
      refine hKK _ _ hb5 ?_
      clear hKK KK
      refine wpOrd_step rfl rfl (fun KK hKK => ?_)
      go_simp
      refine (mul39_any s4 s5 _ _ a4 a5 n4 n5 c4 c5 _ (hl4.go hb5) hl5 (fit_gb hN h0 h1 i6)).mono ?_
      rintro e w6 ⟨s6, a6, n6, c6, rfl, hl6, hb6, hf6⟩
      refine hKK _ _ hb6 ?_
      clear hKK KK
      refine wpOrd_step rfl rfl (fun KK hKK => ?_)
      go_simp
      have hb36 : Below w3.heap.size w3 w6 := hb4.trans ((hb5.trans (hb6.mono hb5.size)).mono hb4.size)
      refine (mul39_any s3 s6 _ _ a3 a6 n3 n6 c3 c6 _ (hl3.go hb36) hl6 (fit_term hN h0 h1 i6)).mono ?_
      rintro e w7 ⟨s7, a7, n7, c7, rfl, hl7, hb7, hf7⟩
      refine hKK _ _ hb7 ?_
      clear hKK KK
      refine wpOrd_step rfl rfl (fun KK hKK => ?_)
      go_simp
      have htn := (term_bd hN h0 h1 i6).1
      obtain rfl : s7 = false := hl7.nonneg htn
      have hps : psum N x A (j - A) + term N x j = psum N x A (j + 1 - A) := by
        rw [show j + 1 - A = (j - A) + 1 by omega]
        simp only [psum]
        rw [show A + (j - A) = j by omega]
      have hb07 : Below wr.heap.size wr w7 := (below_undrew (k := 1) hb3).trans ((hb36.trans (hb7.mono hb36.size)).mono (below_undrew (k := 1) hb3).size)
      refine (add39_any w7.heap.size false _ _ p a7 q n7 c c7 _ (G2.out.go hb07) hl7 (Nat.le_refl _) (by
        have := fit_psum hN h0 h1 (A := A) (k := j + 1 - A) (by omega)
        rw [← hps] at this
        exact this)).mono ?_
      rintro e w8 ⟨s8, a8, n8, c8, rfl, hl8, hb8, _⟩
      refine hKK _ _ hb8 ?_
      clear hKK KK
      change LG _ _ _ _ _ _ (psum N x A (j - A) + term N x j) at hl8
      rw [hps] at hl8
      try simp only [Act.put, List.setIfInBounds_toArray, List.set_cons_zero, List.set_cons_succ]
      have hb08 := hb07.trans (hb8.mono hb07.size)
      have g8 := (hb08.block w1.heap.size hlt).trans G1.out
      have hw8 := Hwr.out.trans (hb08.mono Hwr.out.size)
      obtain ⟨k1, k2, k3, k4⟩ := cells_at g8
      have Hl8 := Lib.hid hl8; have G8 := Lib.hid g8; have Hw8 := Lib.hid hw8
      clear hl3 hl4 hl5 hl6 hl7 hl8 g8 hw8 hb08 hb07 hb36 hb3 hb4 hb5 hb6 hb7 hb8 hf3 hf4 hf5 hf6 hf7 q1 q2 f1 f2 hps htn
      refine wpOrd_nil rfl ?_
      go_wp2_with fail
      go_roundw
      case rel =>
        have hs := Hs1.out
        refine ⟨j + 1, by omega, by omega, by go_num, SumL.store G8.out Hl8.out, (Hw8.out.setCell ?_ _).setCell ?_ _⟩
        · exact hs
        · exact hs
      case measure => simp [intOf]; omega
    · obtain rfl : j = T + 1 := by omega
      go_wp2_with fail
      refine wp_region_eager 13 [(0, true), (3, true), (5, true), (1, false), (2, false), (4, false), (6, false), (7, false), (8, false), (9, true), (10, true), (11, true), (12, true)] (by kernel_rfl) (by kernel_rfl) ?_
      iterate 3
        refine wpOrd_yield (v := ?_) rfl (fun _ _ _ h => h) (by rfl) ?_ ?_
        rotate_left
        · intro y hy
          have z1 := (hy.cell (p := ⟨w1.heap.size, 0, none⟩) hlt).trans q1
          have z2 := (hy.cell (p := ⟨w1.heap.size, 1, none⟩) hlt).trans q2
          go_simp
          with_reducible rfl
        try simp only [Act.put, List.setIfInBounds_toArray, List.set_cons_zero, List.set_cons_succ]
      refine wpOrd_step rfl rfl (fun KK hKK => ?_)
      go_simp
      refine (refOf_i _ _ (by omega) (by omega)).mono ?_
      rintro e w3 ⟨s3, a3, n3, c3, rfl, hl3, hb3, hf3⟩
      refine hKK _ _ hb3 ?_
      clear hKK KK
      refine wpOrd_step rfl rfl (fun KK hKK => ?_)
      go_simp
      refine (mul39_any false s3 _ _ p a3 q n3 c c3 _ (G2.out.go (below_undrew (k := 1) hb3)) hl3 (fit_mil hN h0 h1 (by omega))).mono ?_
      rintro e w4 ⟨s4, a4, n4, c4, rfl, hl4, hb4, hf4⟩
      refine hKK _ _ hb4 ?_
      clear hKK KK
      refine wpOrd_step rfl rfl (fun KK hKK => ?_)
      go_simp
      refine (refOf_i _ _ (by omega) (by omega)).mono ?_
      rintro e w5 ⟨s5, a5, n5, c5, rfl, hl5, hb5, hf5⟩
      refine hKK _ _ hb5 ?_
      clear hKK KK
      refine wpOrd_step rfl rfl (fun KK hKK => ?_)
      go_simp
      refine (power_i 100 _ N _ (by omega) (by omega) rfl hN).mono ?_
      rintro e w6 ⟨s6, a6, n6, c6, rfl, hl6, hb6, hf6⟩
      refine hKK _ _ hb6 ?_
      clear hKK KK
      refine wpOrd_step rfl rfl (fun KK hKK => ?_)
      go_simp
      refine (mul39_any s5 s6 _ _ a5 a6 n5 n6 c5 c6 _ (hl5.go hb6) hl6 (most_fit hN hd0 hd1).2).mono ?_
      rintro e w7 ⟨s7, a7, n7, c7, rfl, hl7, hb7, hf7⟩
      refine hKK _ _ hb7 ?_
      clear hKK KK
      refine wpOrd_step rfl rfl (fun KK hKK => ?_)
      go_simp
      have hb47 : Below w4.heap.size w4 w7 := hb5.trans ((hb6.trans (hb7.mono hb6.size)).mono hb5.size)
      refine (refCmp_any s4 s7 _ _ a4 a7 n4 n7 c4 c7 _ (hl4.go hb47) hl7).mono ?_
      rintro e w8 ⟨rfl, hb8⟩
      refine hKK _ _ hb8 ?_
      clear hKK KK
      have hle : decide (cmpZ (psum N x A (T + 1 - A) * 1000000) (d * 100 ^ N) ≤ 0) = smallB N A T (d * 100 ^ N) x := decide_eq_decide.2 cmpZ_le
      generalize cmpZ (psum N x A (T + 1 - A) * 1000000) (d * 100 ^ N) = r at *
      have Hle := Lib.hid hle; clear hle
      iterate 4
        refine wpOrd_yield (v := ?_) rfl (fun _ _ _ h => h) (by rfl) ?_ ?_
        rotate_left
        · intro y hy
          go_simp
          with_reducible rfl
        try simp only [Act.put, List.setIfInBounds_toArray, List.set_cons_zero, List.set_cons_succ]
      refine wpOrd_nil rfl ?_
      have hw8 : Below w.heap.size w w8 := Hwr.out.trans (((below_undrew (k := 1) hb3).trans ((hb4.trans ((hb47.trans (hb8.mono hb47.size)).mono hb4.size)).mono (below_undrew (k := 1) hb3).size)).mono Hwr.out.size)
      have Hw8 := Lib.hid hw8
      clear hl3 hl4 hl5 hl6 hl7 hb47 hb3 hb4 hb5 hb6 hb7 hb8 hf3 hf4 hf5 hf6 hf7 q1 q2 f1 f2 hw8
      go_wp2
      go_ret
      exact ⟨by rw [← Hle.out]; rfl, Hw8.out⟩

end Go.Proofs.Ytkfkdkoohnfgaaa
