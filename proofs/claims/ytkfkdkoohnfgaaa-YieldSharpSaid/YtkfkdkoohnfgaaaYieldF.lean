/-
  DERIVED. The walks of package yield, sixth part: Bound's closure, where the numbers are within their limits.
-/
import Derived.Test.YtkfkdkoohnfgaaaYieldE
import Derived.Test.YtkfkdkoohnfgaaaOnly
import Derived.BigRegion
namespace Go.Proofs.Ytkfkdkoohnfgaaa
open Go.RowKit

/-- the first one of x, x - 1 .. that serves; 0 if none above serves -/
def down (p : Int → Bool) : Nat → Int
  | 0 => 0
  | x + 1 => if p ((x : Int) + 1) then (x : Int) + 1 else down p x
/-- the first one of 100 - f, 100 - f + 1 .. that serves; 100 if none below serves -/
def up (p : Int → Bool) : Nat → Int
  | 0 => 100
  | f + 1 => if p (100 - ((f : Int) + 1)) then 100 - ((f : Int) + 1) else up p f

theorem down_spec {p : Int → Bool} (h0 : p 0 = true) : ∀ x : Nat, ∃ m : Nat, m ≤ x ∧ down p x = (x : Int) - m ∧ (∀ i : Nat, i < m → p ((x : Int) - i) = false) ∧ p ((x : Int) - m) = true
  | 0 => ⟨0, Nat.le_refl _, rfl, fun i h => absurd h (by omega), by simpa using h0⟩
  | x + 1 => by
    by_cases h : p ((x : Int) + 1) = true
    · exact ⟨0, Nat.zero_le _, by simp [down, h], fun i h => absurd h (by omega), by simpa using h⟩
    · obtain ⟨m, h1, h2, h3, h4⟩ := down_spec h0 x
      refine ⟨m + 1, by omega, ?_, fun i hi => ?_, ?_⟩
      · simp only [down, h]; simp [h2]; omega
      · cases i with
        | zero => simpa using h
        | succ i => rw [show (((x + 1 : Nat) : Int) - ((i + 1 : Nat) : Int)) = (x : Int) - i by omega]; exact h3 i (by omega)
      · rw [show (((x + 1 : Nat) : Int) - ((m + 1 : Nat) : Int)) = (x : Int) - m by omega]; exact h4

theorem up_spec {p : Int → Bool} (h0 : p 100 = true) : ∀ f : Nat, ∃ m : Nat, m ≤ f ∧ up p f = 100 - (f : Int) + m ∧ (∀ i : Nat, i < m → p (100 - (f : Int) + i) = false) ∧ p (100 - (f : Int) + m) = true
  | 0 => ⟨0, Nat.le_refl _, rfl, fun i h => absurd h (by omega), by simpa using h0⟩
  | f + 1 => by
    by_cases h : p (100 - ((f : Int) + 1)) = true
    · refine ⟨0, Nat.zero_le _, ?_, fun i h => absurd h (by omega), ?_⟩
      · simp only [up, h, if_true]; omega
      · rw [show (100 - ((f + 1 : Nat) : Int) + ((0 : Nat) : Int)) = 100 - ((f : Int) + 1) by omega]; exact h
    · obtain ⟨m, h1, h2, h3, h4⟩ := up_spec h0 f
      refine ⟨m + 1, by omega, ?_, fun i hi => ?_, ?_⟩
      · simp only [up, h]; simp [h2]; omega
      · cases i with
        | zero => rw [show (100 - ((f + 1 : Nat) : Int) + ((0 : Nat) : Int)) = 100 - ((f : Int) + 1) by omega]; simpa using h
        | succ i => rw [show (100 - ((f + 1 : Nat) : Int) + ((i + 1 : Nat) : Int)) = 100 - (f : Int) + i by omega]; exact h3 i (by omega)
      · rw [show (100 - ((f + 1 : Nat) : Int) + ((m + 1 : Nat) : Int)) = 100 - (f : Int) + m by omega]; exact h4

theorem psum_zero {N A : Nat} {x : Int} : ∀ k, (∀ j, A ≤ j → j < A + k → term N x j = 0) → psum N x A k = 0
  | 0, _ => rfl
  | k + 1, h => by
    simp only [psum]
    rw [psum_zero k (fun j h1 h2 => h j h1 (by omega)), h (A + k) (by omega) (by omega)]
    rfl

theorem small_low {N k : Nat} {M : Int} (hk : 0 < k) (hM : 0 ≤ M) : smallB N k N M 0 = true := by
  unfold smallB
  rw [psum_zero _ (fun j h1 h2 => by unfold term; rw [Int.zero_pow (by omega)]; simp)]
  simp
  exact hM

theorem small_high {N k : Nat} {M : Int} (hk : k < N) (hM : 0 ≤ M) : smallB N 0 k M 100 = true := by
  unfold smallB
  rw [psum_zero _ (fun j h1 h2 => by unfold term; rw [show (100 : Int) - 100 = 0 by omega, Int.zero_pow (by omega)]; simp)]
  simp
  exact hM

/-- the low bound, the high bound -/
def lowOf (N k : Nat) (d : Int) : Int := if 0 < k then down (smallB N k N (d * 100 ^ N)) 100 else 0
def highOf (N k : Nat) (d : Int) : Int := if k < N then up (smallB N 0 k (d * 100 ^ N)) 100 else 100

/-- a call that gives back two numbers -/
def Ret2 (w : World) (x y : Int) (e : Ending) (w' : World) : Prop := e = .returned (.agg #[.int .i64 x, .int .i64 y]) ∧ Below w.heap.size w w'

theorem most_fit {N : Nat} {d : Int} (hN : N ≤ 200) (h1 : 1 ≤ d) (h2 : d ≤ 999999) : 0 ≤ d * 100 ^ N ∧ (digs (d * 100 ^ N).natAbs).length ≤ 600 := by
  have a := pow_bd (x := 100) (by omega) (by omega) hN
  have b := mul_bd (a := d) (A := 1000000) (by omega) (by omega) a.1 a.2
  exact ⟨b.1, fit_of_lt b.1 (Int.lt_of_le_of_lt b.2 (by decide +kernel))⟩

theorem below_alloc_drew {w x : World} {o : Obj} (h : Below (w.alloc o).drew.heap.size (w.alloc o).drew x) : Below w.heap.size w x := below_alloc (below_undrew (k := 1) h)

set_option maxRecDepth 100000 in
set_option maxHeartbeats 6400000 in
theorem bound1_ok (N k : Nat) (d : Int) (bn bk bd : Nat) (w : World) (hN1 : 1 ≤ N) (hN : N ≤ 200) (hk : k ≤ N) (h1 : 1 ≤ d) (h2 : d ≤ 999999)
    (ln : bn < w.heap.size) (lk : bk < w.heap.size) (ld : bd < w.heap.size)
    (cn : w.cell? ⟨bn, 0, none⟩ = some (.int .i64 (N : Int))) (ck : w.cell? ⟨bk, 0, none⟩ = some (.int .i64 (k : Int))) (cd : w.cell? ⟨bd, 0, none⟩ = some (.int .i64 d)) :
    Calls Try.prog 15 #[.pointer (some ⟨bn, 0, none⟩), .pointer (some ⟨bk, 0, none⟩), .pointer (some ⟨bd, 0, none⟩)] w (Ret2 w (lowOf N k d) (highOf N k d)) := by
  have hMf := most_fit hN h1 h2
  have HM0 := Lib.hid hMf.1; have HMf := Lib.hid hMf.2; clear hMf
  have hfp := fit_pow (x := 100) (by omega) (by omega) hN
  have Hfp := Lib.hid hfp; clear hfp
  have z1 : ¬ ((N : Int) < 1) := by omega
  have z2 : ¬ (200 < (N : Int)) := by omega
  have z3 : ¬ ((N : Int) < (k : Int)) := by omega
  go_enter Try.func15, Try.ntmps15
  go_wp2_with fail
  refine wp_region_float 15 14 [(0, true), (1, true), (2, true), (3, true), (5, true), (7, true), (9, true), (4, false), (6, false), (8, false), (10, true), (11, true), (12, false), (13, true)] _ _
    (.cells #[.int .i64 0, .int .i64 0, .int .i64 0, .slice none 0 0, .bool false, .slice none 0 0] 56) rfl rfl rfl (by kernel_rfl) (by kernel_rfl) (fun _ _ => rfl) (fun _ _ _ _ h => h) (fun _ _ o _ _ h => by cases o <;> exact h) ?_
  iterate 7
    refine wpF_yield (v := ?_) rfl (by rfl) ?_ ?_
    rotate_left
    · intro x hx
      have hx' := below_alloc_drew hx
      have q0 := (hx'.cell (p := ⟨bn, 0, none⟩) ln).trans cn
      have q1 := (hx'.cell (p := ⟨bk, 0, none⟩) lk).trans ck
      have q2 := (hx'.cell (p := ⟨bd, 0, none⟩) ld).trans cd
      go_simp
      with_reducible rfl
    try simp only [Act.put, List.setIfInBounds_toArray, List.set_cons_zero, List.set_cons_succ]
  refine wpF_step rfl rfl (fun x1 hx1 K hK => ?_)
  go_simp
  have hx1' := below_alloc_drew hx1
  refine (row_any N _ hN).mono ?_
  rintro e w1 ⟨g, cap, rfl, hrow, hb1⟩
  refine hK _ _ hb1 ?_
  clear hK K
  simp only [length_bin]
  refine wpF_step rfl rfl (fun x2 hx2 K hK => ?_)
  go_simp
  refine (of_any d _ (by omega) (by omega)).mono ?_
  rintro e w2 ⟨s2, a2, n2, c2, rfl, hl2, hb2, hf2⟩
  refine hK _ _ hb2 ?_
  clear hK K
  refine wpF_step rfl rfl (fun x3 hx3 K hK => ?_)
  go_simp
  refine (powers_any 100 _ _ (by omega) (by omega) N rfl (by omega) Hfp.out).mono ?_
  rintro e w3 ⟨g3, cap3, rfl, hrow3, hb3⟩
  refine hK _ _ hb3 ?_
  clear hK K
  simp only [length_pw]
  have hx2' : Below w1.heap.size w1 x2 := hx2
  have hx3' : Below w2.heap.size w2 x3 := hx3
  obtain ⟨s5, a5, n5, c5, k1, k2, hl5, _⟩ := hrow3.get (j := N) (by rw [length_pw]; omega)
  rw [pw_get _ _ _ (Nat.le_refl _)] at hl5
  have hg3 := hrow3.lt
  have i1 : (0 : Int) ≤ (N : Int) := by omega
  have i2 : (N : Int) < (N : Int) + 1 := by omega
  have Hrow3 := Lib.hid hrow3; have Hl5 := Lib.hid hl5; have Hrow := Lib.hid hrow; have Hl2 := Lib.hid hl2; clear hrow3 hl5 hrow hl2
  iterate 2
    refine wpF_yield (v := ?_) rfl (by rfl) ?_ ?_
    rotate_left
    · intro x hx
      have q0 := (hx.cell (p := ⟨g3, N * 2, none⟩) hg3).trans k1
      have q1 := (hx.cell (p := ⟨g3, N * 2 + 1, none⟩) hg3).trans k2
      go_simp
      with_reducible rfl
    try simp only [Act.put, List.setIfInBounds_toArray, List.set_cons_zero, List.set_cons_succ]
  refine wpF_step rfl rfl (fun x4 hx4 K hK => ?_)
  go_simp
  have hb24 : Below w2.heap.size w2 x4 := hx3'.trans ((hb3.trans (hx4.mono hb3.size)).mono hx3'.size)
  refine (ymul_any s2 s5 d (100 ^ N) a2 a5 n2 n5 c2 c5 _ (Hl2.out.go hb24) (Hl5.out.go hx4) HMf.out).mono ?_
  rintro e w4 ⟨s6, a6, n6, c6, rfl, hl6, hb4, hf6⟩
  refine hK _ _ hb4 ?_
  clear hK K
  iterate 1
    refine wpF_yield (v := ?_) rfl (by rfl) ?_ ?_
    rotate_left
    · intro x hx
      go_simp
      with_reducible rfl
    try simp only [Act.put, List.setIfInBounds_toArray, List.set_cons_zero, List.set_cons_succ]
  refine wpF_nil rfl (fun b w5 hC hb5 hbl => ?_)
  obtain ⟨⟨⟨⟨hC0, hC1⟩, hC2⟩, hC3⟩, hC4⟩ := hC
  have hs1 := hb1.size; have hs2 := hb2.size; have hs3 := hb3.size; have hs4 := hb4.size; have hs5 := hb5.size
  have hs6 := hx2'.size; have hs7 := hx3'.size; have hs8 := hx4.size; have hs9 := hx1.size
  have hlb := lt_of_block hbl
  have hb15 : Below w1.heap.size w1 w5 := hx2'.trans ((hb2.trans ((hx3'.trans ((hb3.trans ((hx4.trans ((hb4.trans (hb5.mono hs4)).mono hs8)).mono hs3)).mono hs7)).mono hs2)).mono hs6)
  have hba5 : Below (w.alloc (.cells #[.int .i64 0, .int .i64 0] 31)).heap.size (w.alloc (.cells #[.int .i64 0, .int .i64 0] 31)) w5 := below_undrew (k := 1) (hx1.trans ((hb1.trans (hb15.mono hs1)).mono hs9))
  have Hrow5 := Lib.hid (Hrow.out.keep hb15)
  have Hl6 := Lib.hid (hl6.go hb5)
  have hne6 : ∀ b' off, a6 = some ⟨b', off, none⟩ → 0 < n6 → b' ≠ b := fun b' off e h0 => by
    have p1 := hf6 b' off e h0
    have p2 := LG.lt_of hl6 e h0
    omega
  have f0 := (obj_cell hbl 0).trans rfl
  have f1 := (obj_cell hbl 1).trans rfl
  have f2 := (obj_cell hbl 2).trans rfl
  have f3 := (obj_cell hbl 3).trans rfl
  have f4 := (obj_cell hbl 4).trans rfl
  have f5 := (obj_cell hbl 5).trans rfl
  have g0 := obj_free hbl 0
  have g1 := obj_free hbl 1
  have g2 := obj_free hbl 2
  have g4 := obj_free hbl 3
  have g5 := obj_free hbl 4
  have g6 := obj_free hbl 5
  have Hbl := Lib.hid hbl
  clear hl6 hb4 hb3 hb2 hb1 hx4 hx3' hx2' hx3 hx2 hx1 hx1' hbl hb24
  refine wpList_plain rfl (fun K hK => ?_)
  go_simp
  refine hK _ _ ?_
  refine gen_only (fun w' => wpList _ _ _ _ _ w') (obj_setCell (obj_setCell (obj_setCell (obj_setCell (obj_setCell (obj_setCell Hbl.out 0 _) 1 _) 2 _) 3 _) 4 _) 5 _) ((((((OnlyB.refl b w5).set 0 _).set 1 _).set 2 _).set 3 _).set 4 _ |>.set 5 _) (fun w6 hobj6 ho6 => ?_)
  have hobj6' : w6.heap[b]? = some (.cells #[.int .i64 (N : Int), .int .i64 (k : Int), .int .i64 (N : Int), .slice (some ⟨g, 0, none⟩) (N + 1) cap, .bool s6, .slice a6 n6 c6] 56 (0, 0)) := hobj6
  have hs10 : w5.heap.size ≤ w6.heap.size := by rw [ho6.size]; exact Nat.le_refl _
  have hba0 : w.heap.size < b := by simp at hC0; omega
  have hlb6 : b < w6.heap.size := by omega
  have Hobj6 := Lib.hid hobj6'
  have Hba6 : Hid (Below (w.alloc (.cells #[.int .i64 0, .int .i64 0] 31)).heap.size (w.alloc (.cells #[.int .i64 0, .int .i64 0] 31)) w6) := Lib.hid (hba5.trans (ho6.below hC0))
  have HC1 := Lib.hid hC1; have Hne6 := Lib.hid hne6
  have Hrow6x : Hid (RowL w1.heap.size x1.heap.size w6 g cap (bin N)) := Lib.hid (Hrow5.out.only ho6 (by omega))
  have hs1z : w1.heap.size ≤ w6.heap.size := by omega
  have Hrow6 := Lib.hid (((Hrow5.out.only ho6 (by omega)).rebase (Nat.zero_le _)).mono (by omega : w1.heap.size ≤ w6.heap.size))
  have Hl66 : Hid (LG w6.heap.size w6 s6 a6 n6 c6 (d * 100 ^ N)) := Lib.hid ((Hl6.out.only ho6 hne6).mono (by omega))
  clear hobj6 hobj6' ho6 hba5 hb15 hb5 hC0 hC1 hC2 hC3 hC4 f0 f1 f2 f3 f4 f5 g0 g1 g2 g4 g5 g6 hK K k1 k2 hg3 hf6 hf2 hne6
  have hdw := down_spec (p := smallB N k N (d * 100 ^ N))
  have huw := up_spec (p := smallB N 0 k (d * 100 ^ N))
  have Hdw := Lib.hid hdw; have Huw := Lib.hid huw; clear hdw huw
  by_cases hk0 : 0 < k
  · have hlow : lowOf N k d = down (smallB N k N (d * 100 ^ N)) 100 := by unfold lowOf; rw [if_pos hk0]
    have Hlow := Lib.hid hlow; clear hlow
    have hca := Hba6.out
    have cn6 := ((below_alloc hca).cell (p := ⟨bn, 0, none⟩) ln).trans cn
    have ck6 := ((below_alloc hca).cell (p := ⟨bk, 0, none⟩) lk).trans ck
    have ln6 : bn < w6.heap.size := Nat.lt_of_lt_of_le ln (below_alloc hca).size
    have lk6 : bk < w6.heap.size := Nat.lt_of_lt_of_le lk (below_alloc hca).size
    obtain ⟨hra, hrf, hrs⟩ := kept_new hca
    have ra6 := (hra 0).trans rfl
    have rb6 := (hra 1).trans rfl
    have rc6 := hrf 0
    have rd6 := hrf 1
    clear hra hrf
    have ec0 := (obj_cell Hobj6.out 0).trans rfl
    have ef0 := obj_free Hobj6.out 0
    have ec1 := (obj_cell Hobj6.out 1).trans rfl
    have ef1 := obj_free Hobj6.out 1
    have ec2 := (obj_cell Hobj6.out 2).trans rfl
    have ef2 := obj_free Hobj6.out 2
    have ec3 := (obj_cell Hobj6.out 3).trans rfl
    have ef3 := obj_free Hobj6.out 3
    have ec4 := (obj_cell Hobj6.out 4).trans rfl
    have ef4 := obj_free Hobj6.out 4
    have ec5 := (obj_cell Hobj6.out 5).trans rfl
    have ef5 := obj_free Hobj6.out 5
    obtain ⟨m, hm1, hm2, hm3, hm4⟩ := Hdw.out (small_low hk0 HM0.out) 100
    have hcast : ((100 : Nat) : Int) = 100 := rfl
    rw [hcast] at hm2
    have hm3' : ∀ i : Nat, i < m → smallB N k N (d * 100 ^ N) (100 + (i : Int) * -1) = false := fun i hi => by have := hm3 i hi; rw [hcast] at this; rw [show (100 : Int) + (i : Int) * -1 = 100 - i by omega]; exact this
    have hm4' : smallB N k N (d * 100 ^ N) (100 + (m : Int) * -1) = true := by rw [hcast] at hm4; rw [show (100 : Int) + (m : Int) * -1 = 100 - m by omega]; exact hm4
    have Hm2 := Lib.hid hm2; have Hm3 := Lib.hid hm3'; have Hm4 := Lib.hid hm4'; clear hm2 hm3 hm4 hm3' hm4' hcast
    have hk0' : (0 : Int) < (k : Int) := by omega
    go_wp2_with fail
    have hbz := (Below.refl w6.heap.size w6).alloc (Nat.le_refl _) (.cells #[.int .i64 0, .int .i64 100] 31)
    refine (first_any N k N (d * 100 ^ N) 100 (-1) m g cap s6 a6 n6 c6 _ hN hk (Nat.le_refl _) (by exact Hrow6.out.go hbz) (by exact Hl66.out.go hbz) (Or.inr rfl) (fun i hi => by omega) Hm3.out Hm4.out).mono ?_
    rintro e w8 ⟨rfl, hb8⟩
    obtain ⟨hoa, hof, hos⟩ := kept_new hb8
    have oa := (hoa 0).trans rfl
    have ob := (hoa 1).trans rfl
    have oc := hof 0
    have od := hof 1
    clear hoa hof
    have hb68 := below_alloc hb8
    have hobj8 : w8.heap[w6.heap.size]? = some (.cells #[.int .i64 0, .int .i64 100] 31 (0, 0)) := (hb8.block w6.heap.size (by simp)).trans (heap_alloc_new _ _)
    have Hb68 := Lib.hid hb68; have Hobj8 := Lib.hid hobj8; clear hb8 hb68 hobj8
    go_wp2_with fail
    refine gen_only (fun w' => Code.wp _ _ _ _ w') (obj_setCell Hobj8.out 0 _) ((OnlyB.refl w6.heap.size w8).set 0 _) (fun w9 hobj9 ho9 => ?_)
    have hobj9' : w9.heap[w6.heap.size]? = some (.cells #[.int .i64 (100 + -(m : Int)), .int .i64 100] 31 (0, 0)) := hobj9
    have Hb69 : Hid (Below w6.heap.size w6 w9) := Lib.hid (Hb68.out.trans (ho9.below (Nat.le_refl _)))
    have Hobj9 := Lib.hid hobj9'
    have hs9 := Hb69.out.size
    have hs9' : w6.heap.size < w9.heap.size := lt_of_block hobj9'
    clear hobj9 hobj9' ho9 oa ob oc od
    clear hca hrs cn6 ck6 ln6 lk6 ra6 rb6 rc6 rd6 ec0 ec1 ec2 ec3 ec4 ec5 ef0 ef1 ef2 ef3 ef4 ef5
    have hca := Hba6.out.trans (Hb69.out.mono Hba6.out.size)
    have cn9 := ((below_alloc hca).cell (p := ⟨bn, 0, none⟩) ln).trans cn
    have ck9 := ((below_alloc hca).cell (p := ⟨bk, 0, none⟩) lk).trans ck
    have ln9 : bn < w9.heap.size := Nat.lt_of_lt_of_le ln (below_alloc hca).size
    have lk9 : bk < w9.heap.size := Nat.lt_of_lt_of_le lk (below_alloc hca).size
    obtain ⟨hra, hrf, hrs⟩ := kept_new hca
    have ra9 := (hra 0).trans rfl
    have rb9 := (hra 1).trans rfl
    have rc9 := hrf 0
    have rd9 := hrf 1
    clear hra hrf
    have Hobjb : Hid (w9.heap[b]? = some (.cells #[.int .i64 (N : Int), .int .i64 (k : Int), .int .i64 (N : Int), .slice (some ⟨g, 0, none⟩) (N + 1) cap, .bool s6, .slice a6 n6 c6] 56 (0, 0))) := Lib.hid ((Hb69.out.block b hlb6).trans Hobj6.out)
    have ec0 := (obj_cell Hobjb.out 0).trans rfl
    have ef0 := obj_free Hobjb.out 0
    have ec1 := (obj_cell Hobjb.out 1).trans rfl
    have ef1 := obj_free Hobjb.out 1
    have ec2 := (obj_cell Hobjb.out 2).trans rfl
    have ef2 := obj_free Hobjb.out 2
    have ec3 := (obj_cell Hobjb.out 3).trans rfl
    have ef3 := obj_free Hobjb.out 3
    have ec4 := (obj_cell Hobjb.out 4).trans rfl
    have ef4 := obj_free Hobjb.out 4
    have ec5 := (obj_cell Hobjb.out 5).trans rfl
    have ef5 := obj_free Hobjb.out 5
    have Hca9 := Lib.hid hca
    clear hca
    go_region
    refine gen_only (b := b) (w := w9.drew) (fun w' => Exit.then _ _ _ _ w') (obj_setCell (obj_setCell (w := w9.drew) (by exact Hobjb.out) 1 _) 2 _) (((OnlyB.refl b w9.drew).set 1 _).set 2 _) (fun w10 hobj10 ho10 => ?_)
    have hobj10' : w10.heap[b]? = some (.cells #[.int .i64 (N : Int), .int .i64 0, .int .i64 (k : Int), .slice (some ⟨g, 0, none⟩) (N + 1) cap, .bool s6, .slice a6 n6 c6] 56 (0, 0)) := hobj10
    have Hb9a : Hid (Below b w9 w10) := Lib.hid (below_undrew (k := 1) (ho10.below (Nat.le_refl _)))
    have Hobj10 := Lib.hid hobj10'
    have Hout10 : Hid (w10.heap[w6.heap.size]? = some (.cells #[.int .i64 (100 + -(m : Int)), .int .i64 100] 31 (0, 0))) := Lib.hid ((ho10.block w6.heap.size (by omega)).trans Hobj9.out)
    have hs12 : w9.heap.size ≤ w10.heap.size := by rw [ho10.size]; exact Nat.le_refl _
    have Hrow10 : Hid (RowL w10.heap.size 0 w10 g cap (bin N)) := Lib.hid (by
      have p0 : RowL w1.heap.size x1.heap.size w9 g cap (bin N) := Hrow6x.out.keep (Hb69.out.mono hs1z)
      have p1 : RowL w1.heap.size x1.heap.size w9.drew g cap (bin N) := p0
      exact ((p1.only ho10 HC1.out).rebase (Nat.zero_le _)).mono (by omega))
    have Hl10 : Hid (LG w10.heap.size w10 s6 a6 n6 c6 (d * 100 ^ N)) := Lib.hid (by
      have p1 : LG w9.heap.size w9.drew s6 a6 n6 c6 (d * 100 ^ N) := Hl66.out.go Hb69.out
      exact (p1.only ho10 Hne6.out).mono (by omega))
    have Hca10 : Hid (Below (w.alloc (.cells #[.int .i64 0, .int .i64 0] 31)).heap.size (w.alloc (.cells #[.int .i64 0, .int .i64 0] 31)) w10) := Lib.hid (Hca9.out.trans (Hb9a.out.mono (by simp; omega)))
    clear hobj10 hobj10' ho10 cn9 ck9 ln9 lk9 ra9 rb9 rc9 rd9 ec0 ec1 ec2 ec3 ec4 ec5 ef0 ef1 ef2 ef3 ef4 ef5 hrs
    have hca := Hca10.out
    have cn10 := ((below_alloc hca).cell (p := ⟨bn, 0, none⟩) ln).trans cn
    have ck10 := ((below_alloc hca).cell (p := ⟨bk, 0, none⟩) lk).trans ck
    obtain ⟨hra, hrf, hrs⟩ := kept_new hca
    have ra10 := (hra 0).trans rfl
    have rb10 := (hra 1).trans rfl
    have rc10 := hrf 0
    have rd10 := hrf 1
    clear hra hrf hca
    have ec0 := (obj_cell Hobj10.out 0).trans rfl
    have ec1 := (obj_cell Hobj10.out 1).trans rfl
    have ec2 := (obj_cell Hobj10.out 2).trans rfl
    have ec3 := (obj_cell Hobj10.out 3).trans rfl
    have ec4 := (obj_cell Hobj10.out 4).trans rfl
    have ec5 := (obj_cell Hobj10.out 5).trans rfl
    have oa := (obj_cell Hout10.out 0).trans rfl
    have ob := (obj_cell Hout10.out 1).trans rfl
    have oc := obj_free Hout10.out 0
    have od := obj_free Hout10.out 1
    have hob : w6.heap.size < w10.heap.size := by omega
    by_cases hkN : k < N
    · have hhigh : highOf N k d = up (smallB N 0 k (d * 100 ^ N)) 100 := by unfold highOf; rw [if_pos hkN]
      obtain ⟨m2, hn1, hn2, hn3, hn4⟩ := Huw.out (small_high hkN HM0.out) 100
      have hcast : ((100 : Nat) : Int) = 100 := rfl
      rw [hcast] at hn2
      have hn3' : ∀ i : Nat, i < m2 → smallB N 0 k (d * 100 ^ N) (0 + (i : Int) * 1) = false := fun i hi => by have := hn3 i hi; rw [hcast] at this; rw [show (0 : Int) + (i : Int) * 1 = 100 - 100 + i by omega]; exact this
      have hn4' : smallB N 0 k (d * 100 ^ N) (0 + (m2 : Int) * 1) = true := by rw [hcast] at hn4; rw [show (0 : Int) + (m2 : Int) * 1 = 100 - 100 + m2 by omega]; exact hn4
      have Hhigh := Lib.hid hhigh; have Hn2 := Lib.hid hn2; have Hn3 := Lib.hid hn3'; have Hn4 := Lib.hid hn4'; clear hhigh hn2 hn3 hn4 hn3' hn4' hcast
      have hkN' : (k : Int) < (N : Int) := by omega
      go_wp2_with fail
      refine (first_any N 0 k (d * 100 ^ N) 0 1 m2 g cap s6 a6 n6 c6 _ hN (Nat.zero_le _) hk (by exact Hrow10.out) (by exact Hl10.out) (Or.inl rfl) (fun i hi => by omega) Hn3.out Hn4.out).mono ?_
      rintro e w11 ⟨rfl, hb11⟩
      have hb11' : Below w10.heap.size w10 w11 := hb11
      have pa := (hb11'.cell (p := ⟨w6.heap.size, 0, none⟩) hob).trans oa
      have pb := (hb11'.cell (p := ⟨w6.heap.size, 1, none⟩) hob).trans ob
      have pc := (hb11'.frozen (p := ⟨w6.heap.size, 0, none⟩) hob).trans oc
      have pd := (hb11'.frozen (p := ⟨w6.heap.size, 1, none⟩) hob).trans od
      have hlr : w.heap.size < w10.heap.size := hrs
      have ra11 := (hb11'.cell (p := ⟨w.heap.size, 0, none⟩) hlr).trans ra10
      have rb11 := (hb11'.cell (p := ⟨w.heap.size, 1, none⟩) hlr).trans rb10
      have rc11 := (hb11'.frozen (p := ⟨w.heap.size, 0, none⟩) hlr).trans rc10
      have rd11 := (hb11'.frozen (p := ⟨w.heap.size, 1, none⟩) hlr).trans rd10
      have hne : w6.heap.size ≠ w.heap.size := by omega
      have hne2 : w.heap.size ≠ w6.heap.size := by omega
      go_wp2
      refine bodyPost_ret (v := .agg #[.int .i64 (100 + -(m : Int)), .int .i64 (m2 : Int)]) ?_ rfl ?_
      · simp [results, Try.results15, go_sem, ra11, rb11]
      · refine ⟨?_, ((((below_alloc Hca10.out).trans (hb11'.mono (by omega))).setCell (by simp; omega) _).setCell (by simp) _).setCell (by simp) _⟩
        rw [Hlow.out, Hhigh.out, Hn2.out, Hm2.out]
        simp [Int.sub_eq_add_neg]
    · have hhigh : highOf N k d = 100 := by unfold highOf; rw [if_neg hkN]
      have Hhigh := Lib.hid hhigh; clear hhigh
      have hkN' : ¬ ((k : Int) < (N : Int)) := by omega
      have hne : w6.heap.size ≠ w.heap.size := by omega
      have hne2 : w.heap.size ≠ w6.heap.size := by omega
      go_wp2
      refine bodyPost_ret (v := .agg #[.int .i64 (100 + -(m : Int)), .int .i64 100]) ?_ rfl ?_
      · simp [results, Try.results15, go_sem, ra10, rb10]
      · refine ⟨?_, ((below_alloc Hca10.out).setCell (by simp) _).setCell (by simp) _⟩
        rw [Hlow.out, Hhigh.out, Hm2.out]
        simp [Int.sub_eq_add_neg]
  · have hlow : lowOf N k d = 0 := by unfold lowOf; rw [if_neg hk0]
    have Hlow := Lib.hid hlow; clear hlow
    have hk0' : ¬ ((0 : Int) < (k : Int)) := by omega
    have hca := Hba6.out
    have cn6 := ((below_alloc hca).cell (p := ⟨bn, 0, none⟩) ln).trans cn
    have ck6 := ((below_alloc hca).cell (p := ⟨bk, 0, none⟩) lk).trans ck
    have ln6 : bn < w6.heap.size := Nat.lt_of_lt_of_le ln (below_alloc hca).size
    have lk6 : bk < w6.heap.size := Nat.lt_of_lt_of_le lk (below_alloc hca).size
    obtain ⟨hra, hrf, hrs⟩ := kept_new hca
    have ra6 := (hra 0).trans rfl
    have rb6 := (hra 1).trans rfl
    have rc6 := hrf 0
    have rd6 := hrf 1
    clear hra hrf
    have ec0 := (obj_cell Hobj6.out 0).trans rfl
    have ef0 := obj_free Hobj6.out 0
    have ec1 := (obj_cell Hobj6.out 1).trans rfl
    have ef1 := obj_free Hobj6.out 1
    have ec2 := (obj_cell Hobj6.out 2).trans rfl
    have ef2 := obj_free Hobj6.out 2
    have ec3 := (obj_cell Hobj6.out 3).trans rfl
    have ef3 := obj_free Hobj6.out 3
    have ec4 := (obj_cell Hobj6.out 4).trans rfl
    have ef4 := obj_free Hobj6.out 4
    have ec5 := (obj_cell Hobj6.out 5).trans rfl
    have ef5 := obj_free Hobj6.out 5
    go_wp2_with fail
    refine gen_only (b := w6.heap.size) (w := w6.alloc (.cells #[.int .i64 0, .int .i64 100] 31)) (cs := #[.int .i64 0, .int .i64 100]) (T := 31) (fun w' => Code.wp _ _ _ _ w') (heap_alloc_new _ _) (OnlyB.refl _ _) (fun w9 hobj9 ho9 => ?_)
    have Hb69 : Hid (Below w6.heap.size w6 w9) := Lib.hid (((Below.refl _ _).alloc (Nat.le_refl _) _).trans (ho9.below (Nat.le_refl _)))
    have Hobj9 := Lib.hid hobj9
    have hs9 := Hb69.out.size
    have hs9' : w6.heap.size < w9.heap.size := lt_of_block hobj9
    clear hobj9 ho9
    clear hca hrs cn6 ck6 ln6 lk6 ra6 rb6 rc6 rd6 ec0 ec1 ec2 ec3 ec4 ec5 ef0 ef1 ef2 ef3 ef4 ef5
    have hca := Hba6.out.trans (Hb69.out.mono Hba6.out.size)
    have cn9 := ((below_alloc hca).cell (p := ⟨bn, 0, none⟩) ln).trans cn
    have ck9 := ((below_alloc hca).cell (p := ⟨bk, 0, none⟩) lk).trans ck
    have ln9 : bn < w9.heap.size := Nat.lt_of_lt_of_le ln (below_alloc hca).size
    have lk9 : bk < w9.heap.size := Nat.lt_of_lt_of_le lk (below_alloc hca).size
    obtain ⟨hra, hrf, hrs⟩ := kept_new hca
    have ra9 := (hra 0).trans rfl
    have rb9 := (hra 1).trans rfl
    have rc9 := hrf 0
    have rd9 := hrf 1
    clear hra hrf
    have Hobjb : Hid (w9.heap[b]? = some (.cells #[.int .i64 (N : Int), .int .i64 (k : Int), .int .i64 (N : Int), .slice (some ⟨g, 0, none⟩) (N + 1) cap, .bool s6, .slice a6 n6 c6] 56 (0, 0))) := Lib.hid ((Hb69.out.block b hlb6).trans Hobj6.out)
    have ec0 := (obj_cell Hobjb.out 0).trans rfl
    have ef0 := obj_free Hobjb.out 0
    have ec1 := (obj_cell Hobjb.out 1).trans rfl
    have ef1 := obj_free Hobjb.out 1
    have ec2 := (obj_cell Hobjb.out 2).trans rfl
    have ef2 := obj_free Hobjb.out 2
    have ec3 := (obj_cell Hobjb.out 3).trans rfl
    have ef3 := obj_free Hobjb.out 3
    have ec4 := (obj_cell Hobjb.out 4).trans rfl
    have ef4 := obj_free Hobjb.out 4
    have ec5 := (obj_cell Hobjb.out 5).trans rfl
    have ef5 := obj_free Hobjb.out 5
    have Hca9 := Lib.hid hca
    clear hca
    go_region
    refine gen_only (b := b) (w := w9.drew) (fun w' => Exit.then _ _ _ _ w') (obj_setCell (obj_setCell (w := w9.drew) (by exact Hobjb.out) 1 _) 2 _) (((OnlyB.refl b w9.drew).set 1 _).set 2 _) (fun w10 hobj10 ho10 => ?_)
    have hobj10' : w10.heap[b]? = some (.cells #[.int .i64 (N : Int), .int .i64 0, .int .i64 (k : Int), .slice (some ⟨g, 0, none⟩) (N + 1) cap, .bool s6, .slice a6 n6 c6] 56 (0, 0)) := hobj10
    have Hb9a : Hid (Below b w9 w10) := Lib.hid (below_undrew (k := 1) (ho10.below (Nat.le_refl _)))
    have Hobj10 := Lib.hid hobj10'
    have Hout10 : Hid (w10.heap[w6.heap.size]? = some (.cells #[.int .i64 0, .int .i64 100] 31 (0, 0))) := Lib.hid ((ho10.block w6.heap.size (by omega)).trans Hobj9.out)
    have hs12 : w9.heap.size ≤ w10.heap.size := by rw [ho10.size]; exact Nat.le_refl _
    have Hrow10 : Hid (RowL w10.heap.size 0 w10 g cap (bin N)) := Lib.hid (by
      have p0 : RowL w1.heap.size x1.heap.size w9 g cap (bin N) := Hrow6x.out.keep (Hb69.out.mono hs1z)
      have p1 : RowL w1.heap.size x1.heap.size w9.drew g cap (bin N) := p0
      exact ((p1.only ho10 HC1.out).rebase (Nat.zero_le _)).mono (by omega))
    have Hl10 : Hid (LG w10.heap.size w10 s6 a6 n6 c6 (d * 100 ^ N)) := Lib.hid (by
      have p1 : LG w9.heap.size w9.drew s6 a6 n6 c6 (d * 100 ^ N) := Hl66.out.go Hb69.out
      exact (p1.only ho10 Hne6.out).mono (by omega))
    have Hca10 : Hid (Below (w.alloc (.cells #[.int .i64 0, .int .i64 0] 31)).heap.size (w.alloc (.cells #[.int .i64 0, .int .i64 0] 31)) w10) := Lib.hid (Hca9.out.trans (Hb9a.out.mono (by simp; omega)))
    clear hobj10 hobj10' ho10 cn9 ck9 ln9 lk9 ra9 rb9 rc9 rd9 ec0 ec1 ec2 ec3 ec4 ec5 ef0 ef1 ef2 ef3 ef4 ef5 hrs
    have hca := Hca10.out
    have cn10 := ((below_alloc hca).cell (p := ⟨bn, 0, none⟩) ln).trans cn
    have ck10 := ((below_alloc hca).cell (p := ⟨bk, 0, none⟩) lk).trans ck
    obtain ⟨hra, hrf, hrs⟩ := kept_new hca
    have ra10 := (hra 0).trans rfl
    have rb10 := (hra 1).trans rfl
    have rc10 := hrf 0
    have rd10 := hrf 1
    clear hra hrf hca
    have ec0 := (obj_cell Hobj10.out 0).trans rfl
    have ec1 := (obj_cell Hobj10.out 1).trans rfl
    have ec2 := (obj_cell Hobj10.out 2).trans rfl
    have ec3 := (obj_cell Hobj10.out 3).trans rfl
    have ec4 := (obj_cell Hobj10.out 4).trans rfl
    have ec5 := (obj_cell Hobj10.out 5).trans rfl
    have oa := (obj_cell Hout10.out 0).trans rfl
    have ob := (obj_cell Hout10.out 1).trans rfl
    have oc := obj_free Hout10.out 0
    have od := obj_free Hout10.out 1
    have hob : w6.heap.size < w10.heap.size := by omega
    by_cases hkN : k < N
    · have hhigh : highOf N k d = up (smallB N 0 k (d * 100 ^ N)) 100 := by unfold highOf; rw [if_pos hkN]
      obtain ⟨m2, hn1, hn2, hn3, hn4⟩ := Huw.out (small_high hkN HM0.out) 100
      have hcast : ((100 : Nat) : Int) = 100 := rfl
      rw [hcast] at hn2
      have hn3' : ∀ i : Nat, i < m2 → smallB N 0 k (d * 100 ^ N) (0 + (i : Int) * 1) = false := fun i hi => by have := hn3 i hi; rw [hcast] at this; rw [show (0 : Int) + (i : Int) * 1 = 100 - 100 + i by omega]; exact this
      have hn4' : smallB N 0 k (d * 100 ^ N) (0 + (m2 : Int) * 1) = true := by rw [hcast] at hn4; rw [show (0 : Int) + (m2 : Int) * 1 = 100 - 100 + m2 by omega]; exact hn4
      have Hhigh := Lib.hid hhigh; have Hn2 := Lib.hid hn2; have Hn3 := Lib.hid hn3'; have Hn4 := Lib.hid hn4'; clear hhigh hn2 hn3 hn4 hn3' hn4' hcast
      have hkN' : (k : Int) < (N : Int) := by omega
      go_wp2_with fail
      refine (first_any N 0 k (d * 100 ^ N) 0 1 m2 g cap s6 a6 n6 c6 _ hN (Nat.zero_le _) hk (by exact Hrow10.out) (by exact Hl10.out) (Or.inl rfl) (fun i hi => by omega) Hn3.out Hn4.out).mono ?_
      rintro e w11 ⟨rfl, hb11⟩
      have hb11' : Below w10.heap.size w10 w11 := hb11
      have pa := (hb11'.cell (p := ⟨w6.heap.size, 0, none⟩) hob).trans oa
      have pb := (hb11'.cell (p := ⟨w6.heap.size, 1, none⟩) hob).trans ob
      have pc := (hb11'.frozen (p := ⟨w6.heap.size, 0, none⟩) hob).trans oc
      have pd := (hb11'.frozen (p := ⟨w6.heap.size, 1, none⟩) hob).trans od
      have hlr : w.heap.size < w10.heap.size := hrs
      have ra11 := (hb11'.cell (p := ⟨w.heap.size, 0, none⟩) hlr).trans ra10
      have rb11 := (hb11'.cell (p := ⟨w.heap.size, 1, none⟩) hlr).trans rb10
      have rc11 := (hb11'.frozen (p := ⟨w.heap.size, 0, none⟩) hlr).trans rc10
      have rd11 := (hb11'.frozen (p := ⟨w.heap.size, 1, none⟩) hlr).trans rd10
      have hne : w6.heap.size ≠ w.heap.size := by omega
      have hne2 : w.heap.size ≠ w6.heap.size := by omega
      go_wp2
      refine bodyPost_ret (v := .agg #[.int .i64 0, .int .i64 (m2 : Int)]) ?_ rfl ?_
      · simp [results, Try.results15, go_sem, ra11, rb11]
      · refine ⟨?_, ((((below_alloc Hca10.out).trans (hb11'.mono (by omega))).setCell (by simp; omega) _).setCell (by simp) _).setCell (by simp) _⟩
        rw [Hlow.out, Hhigh.out, Hn2.out]
        simp [Int.sub_eq_add_neg]
    · exact absurd (by omega : k < N) hkN

end Go.Proofs.Ytkfkdkoohnfgaaa
