/-
  DERIVED. The walks of the reference of surfaces, second part: small (printed by wip/mkRB.py).
-/
import Derived.Test.YthommhfppeonpaaGreatDoorKaa
namespace Go.Proofs.YthommhfppeonpaaGreatDoor
open Go.RowKit

def asphN (s : Surf) : Nat → Int
  | 0 => s.a0
  | 1 => s.a1
  | 2 => s.a2
  | _ => s.a3
def smallA (s : Surf) : Bool := !outB (-1000000000) 1000000000 [s.a0, s.a1, s.a2, s.a3]
def smallC (s : Surf) (n : Nat) : Bool :=
  !outB (-1000000000) 1000000000 [s.curv] && !outB (-1000000000) 1000000000 [s.curvX] && !outB (-100000000) 100000000 [s.conic] && !outB (-100000000) 100000000 [s.conicX] && !outB (-1000000000) 1000000000 [s.p0] && !outB (-1000000000) 1000000000 [s.p1] && !outB (-1000000000) 1000000000 [s.thick] && !outB (-1000000000) 1000000000 [s.dx] && !outB (-1000000000) 1000000000 [s.dy] &&
  !outB (-90000000) 90000000 [s.ax] && !outB (-90000000) 90000000 [s.ay] && !outB (-90000000) 90000000 [s.az] && (decide (0 ≤ s.semi) && decide (s.semi ≤ 1000000000) && decide (0 ≤ s.hole) && decide (s.hole ≤ 1000000000) && (decide (s.semi ≤ 0) || decide (s.hole < s.semi))) && (decide (-3 ≤ s.order) && decide (s.order ≤ 3)) && decide (n ≤ 8) && test6 s
def smallB' (s : Surf) (zs : List Int) (n : Nat) : Bool := smallA s && (List.range n).all (filmB zs) && smallC s n

theorem all_nextF {f : Nat → Bool} {k : Nat} (h : ∀ j, j < k → f j = false) (hk : f k = false) : ∀ j, j < k + 1 → f j = false := fun j hj => by
  by_cases e : j = k
  · subst e; exact hk
  · exact h j (by omega)
theorem small_b {s : Surf} {zs : List Int} {n : Nat} (h1 : smallA s = true) (h2 : (List.range n).all (filmB zs) = true) : smallB' s zs n = smallC s n := by
  unfold smallB'; rw [h1, h2]; rfl
theorem out_cons (low high k : Int) (l : List Int) : outB low high (k :: l) = (outB low high [k] || outB low high l) := by simp [outB]
theorem small_a {s : Surf} {zs : List Int} {n : Nat} (h : outB (-1000000000) 1000000000 [s.a0] = true ∨ outB (-1000000000) 1000000000 [s.a1] = true ∨ outB (-1000000000) 1000000000 [s.a2] = true ∨ outB (-1000000000) 1000000000 [s.a3] = true) : smallB' s zs n = false := by
  unfold smallB' smallA
  rw [out_cons _ _ s.a0, out_cons _ _ s.a1, out_cons _ _ s.a2]
  rcases h with h | h | h | h <;> simp [h]

set_option maxRecDepth 100000 in
set_option maxHeartbeats 3200000 in
theorem small_any' (s : Surf) (zs : List Int) (a : Option Addr) (n c : Nat) (w : World) (hz : IR w.heap.size w 3 a n c zs) (hn : n ≤ 1000000) (hg : s.glass.size ≤ 9223372036854775807) :
    Calls Tryz.prog 134 #[.agg #[.int .i64 s.kind, .int .i64 s.curv, .int .i64 s.conic, .int .i64 s.curvX, .int .i64 s.conicX, .int .i64 s.a0, .int .i64 s.a1, .int .i64 s.a2, .int .i64 s.a3, .int .i64 s.p0, .int .i64 s.p1, .int .i64 s.order, .int .i64 s.thick, .string s.glass, .int .i64 s.semi, .int .i64 s.hole, .int .i64 s.dx, .int .i64 s.dy, .int .i64 s.ax, .int .i64 s.ay, .int .i64 s.az, .slice a n c]] w (RetB w (.bool (smallB' s zs n))) := by
  have h1 := SurfB.new w s a n c
  have hb1 := (Below.refl w.heap.size w).alloc (Nat.le_refl _) (.cells #[.int .i64 s.kind, .int .i64 s.curv, .int .i64 s.conic, .int .i64 s.curvX, .int .i64 s.conicX, .int .i64 s.a0, .int .i64 s.a1, .int .i64 s.a2, .int .i64 s.a3, .int .i64 s.p0, .int .i64 s.p1, .int .i64 s.order, .int .i64 s.thick, .string s.glass, .int .i64 s.semi, .int .i64 s.hole, .int .i64 s.dx, .int .i64 s.dy, .int .i64 s.ax, .int .i64 s.ay, .int .i64 s.az, .slice a n c] 92)
  have H1 := Lib.hid h1; have Hz := Lib.hid hz; have Hb1 := Lib.hid hb1
  clear h1 hz hb1
  go_enter Tryz.func134, Tryz.ntmps134
  go_upto_region 1 with fail
  refine step_world (fun wx => SurfB wx w.heap.size s a n c ∧ Below w.heap.size w wx) ⟨H1.out, Hb1.out⟩ ?_
  clear H1 Hb1
  rintro w1 ⟨h1, hb1⟩
  have S1 := Lib.hid h1; have B1 := Lib.hid hb1; have Z1 := Lib.hid (Hz.out.go hb1)
  have hl := h1.lt
  clear h1 hb1
  go_wp2_with fail
  go_loopw [3] (fun iv wr => ∃ k : Nat, k ≤ 4 ∧ iv = .int .i64 (k : Int) ∧ (∀ j, j < k → outB (-1000000000) 1000000000 [asphN s j] = false) ∧ Below w1.heap.size w1 wr) (fun iv _ => 4 - (intOf iv).toNat)
  case atStart => exact ⟨0, by omega, rfl, fun j hj => by omega, Below.refl _ _⟩
  case round =>
    obtain ⟨k, hk, rfl, ht, hb⟩ := hrel
    have Ht := Lib.hid ht; have Hb := Lib.hid hb
    have Sw := Lib.hid (SurfB.go S1.out hb hl)
    clear ht hb
    obtain ⟨c0, c1, c2, c3, c4, c5, c6, c7, c8, c9, c10, c11, c12, c13, c14, c15, c16, c17, c18, c19, c20, c21⟩ := Sw.out.cells
    have hk8 : k = 0 ∨ k = 1 ∨ k = 2 ∨ k = 3 ∨ k = 4 := by omega
    rcases hk8 with rfl | rfl | rfl | rfl | rfl
    · cases hv : outB (-1000000000) 1000000000 [s.a0] with
      | true =>
        have Hv := Lib.hid (show (!outB (-1000000000) 1000000000 [s.a0]) = false by rw [hv]; rfl)
        have Hw := Lib.hid hv; clear hv
        go_wp2_with ((with_reducible refine (within_any _ _ _ (by omega) (by omega)).mono ?_); rintro e w2 ⟨he, hb2⟩; rw [Hv.out] at he; subst he)
        go_ret
        exact ⟨by rw [small_a (Or.inl Hw.out)]; rfl, below_chain B1.out (below_chain Hb.out hb2)⟩
      | false =>
        have Hv := Lib.hid (show (!outB (-1000000000) 1000000000 [s.a0]) = true by rw [hv]; rfl)
        have Hw := Lib.hid hv; clear hv
        go_wp2_with ((with_reducible refine (within_any _ _ _ (by omega) (by omega)).mono ?_); rintro e w2 ⟨he, hb2⟩; rw [Hv.out] at he; subst he)
        go_roundw
        case rel => exact ⟨1, by omega, rfl, all_nextF (k := 0) (f := fun j => outB (-1000000000) 1000000000 [asphN s j]) Ht.out Hw.out, below_chain Hb.out hb2⟩
        case measure => simp [intOf]
    · cases hv : outB (-1000000000) 1000000000 [s.a1] with
      | true =>
        have Hv := Lib.hid (show (!outB (-1000000000) 1000000000 [s.a1]) = false by rw [hv]; rfl)
        have Hw := Lib.hid hv; clear hv
        go_wp2_with ((with_reducible refine (within_any _ _ _ (by omega) (by omega)).mono ?_); rintro e w2 ⟨he, hb2⟩; rw [Hv.out] at he; subst he)
        go_ret
        exact ⟨by rw [small_a (Or.inr (Or.inl Hw.out))]; rfl, below_chain B1.out (below_chain Hb.out hb2)⟩
      | false =>
        have Hv := Lib.hid (show (!outB (-1000000000) 1000000000 [s.a1]) = true by rw [hv]; rfl)
        have Hw := Lib.hid hv; clear hv
        go_wp2_with ((with_reducible refine (within_any _ _ _ (by omega) (by omega)).mono ?_); rintro e w2 ⟨he, hb2⟩; rw [Hv.out] at he; subst he)
        go_roundw
        case rel => exact ⟨2, by omega, rfl, all_nextF (k := 1) (f := fun j => outB (-1000000000) 1000000000 [asphN s j]) Ht.out Hw.out, below_chain Hb.out hb2⟩
        case measure => simp [intOf]
    · cases hv : outB (-1000000000) 1000000000 [s.a2] with
      | true =>
        have Hv := Lib.hid (show (!outB (-1000000000) 1000000000 [s.a2]) = false by rw [hv]; rfl)
        have Hw := Lib.hid hv; clear hv
        go_wp2_with ((with_reducible refine (within_any _ _ _ (by omega) (by omega)).mono ?_); rintro e w2 ⟨he, hb2⟩; rw [Hv.out] at he; subst he)
        go_ret
        exact ⟨by rw [small_a (Or.inr (Or.inr (Or.inl Hw.out)))]; rfl, below_chain B1.out (below_chain Hb.out hb2)⟩
      | false =>
        have Hv := Lib.hid (show (!outB (-1000000000) 1000000000 [s.a2]) = true by rw [hv]; rfl)
        have Hw := Lib.hid hv; clear hv
        go_wp2_with ((with_reducible refine (within_any _ _ _ (by omega) (by omega)).mono ?_); rintro e w2 ⟨he, hb2⟩; rw [Hv.out] at he; subst he)
        go_roundw
        case rel => exact ⟨3, by omega, rfl, all_nextF (k := 2) (f := fun j => outB (-1000000000) 1000000000 [asphN s j]) Ht.out Hw.out, below_chain Hb.out hb2⟩
        case measure => simp [intOf]
    · cases hv : outB (-1000000000) 1000000000 [s.a3] with
      | true =>
        have Hv := Lib.hid (show (!outB (-1000000000) 1000000000 [s.a3]) = false by rw [hv]; rfl)
        have Hw := Lib.hid hv; clear hv
        go_wp2_with ((with_reducible refine (within_any _ _ _ (by omega) (by omega)).mono ?_); rintro e w2 ⟨he, hb2⟩; rw [Hv.out] at he; subst he)
        go_ret
        exact ⟨by rw [small_a (Or.inr (Or.inr (Or.inr Hw.out)))]; rfl, below_chain B1.out (below_chain Hb.out hb2)⟩
      | false =>
        have Hv := Lib.hid (show (!outB (-1000000000) 1000000000 [s.a3]) = true by rw [hv]; rfl)
        have Hw := Lib.hid hv; clear hv
        go_wp2_with ((with_reducible refine (within_any _ _ _ (by omega) (by omega)).mono ?_); rintro e w2 ⟨he, hb2⟩; rw [Hv.out] at he; subst he)
        go_roundw
        case rel => exact ⟨4, by omega, rfl, all_nextF (k := 3) (f := fun j => outB (-1000000000) 1000000000 [asphN s j]) Ht.out Hw.out, below_chain Hb.out hb2⟩
        case measure => simp [intOf]
    · have ha : smallA s = true := by
        have q0 : outB (-1000000000) 1000000000 [s.a0] = false := Ht.out 0 (by omega)
        have q1 : outB (-1000000000) 1000000000 [s.a1] = false := Ht.out 1 (by omega)
        have q2 : outB (-1000000000) 1000000000 [s.a2] = false := Ht.out 2 (by omega)
        have q3 : outB (-1000000000) 1000000000 [s.a3] = false := Ht.out 3 (by omega)
        unfold smallA
        rw [out_cons _ _ s.a0, out_cons _ _ s.a1, out_cons _ _ s.a2, q0, q1, q2, q3]; rfl
      have Ha := Lib.hid ha
      have Zw := Lib.hid (Z1.out.go Hb.out)
      have Bw := Lib.hid (below_chain B1.out Hb.out)
      have hlw := Sw.out.lt
      clear ha Ht
      rw [show ((4 : Nat) : Int) = (4 : Int) from rfl]
      obtain ⟨wo, rfl⟩ : ∃ wo, wo = wr := ⟨wr, rfl⟩
      go_wp2_with fail
      clear c0 c1 c2 c3 c4 c5 c6 c7 c8 c9 c10 c11 c12 c13 c14 c15 c16 c17 c18 c19 c20 c21
      go_loopw [4] (fun iv wr => ∃ k : Nat, k ≤ n ∧ iv = .int .i64 (k : Int) ∧ (∀ j, j < k → filmB zs j = true) ∧ Below wo.heap.size wo wr) (fun iv _ => n - (intOf iv).toNat)
      case atStart => exact ⟨0, by omega, rfl, fun j hj => by omega, Below.refl _ _⟩
      case round =>
        obtain ⟨k, hk, rfl, ht, hb⟩ := hrel
        have Ht := Lib.hid ht; have Hb2 := Lib.hid hb
        have Sv := Lib.hid (SurfB.go Sw.out hb hlw)
        clear ht hb
        obtain ⟨c0, c1, c2, c3, c4, c5, c6, c7, c8, c9, c10, c11, c12, c13, c14, c15, c16, c17, c18, c19, c20, c21⟩ := Sv.out.cells
        by_cases hkn : k < n
        · obtain ⟨b1, o1, rfl, l1, x0, x1, x2⟩ := (Zw.out.go Hb2.out).at3 hkn
          have hfe : filmB zs k = okFilm (zs.getD (k * 3) 0) (zs.getD (k * 3 + 1) 0) (zs.getD (k * 3 + 2) 0) := rfl
          generalize zs.getD (k * 3) 0 = p0 at *
          generalize zs.getD (k * 3 + 1) 0 = p1 at *
          generalize zs.getD (k * 3 + 2) 0 = p2 at *
          have Hfe := Lib.hid hfe; clear hfe
          cases hf : okFilm p0 p1 p2 with
          | true =>
            have Hf := Lib.hid hf; clear hf
            go_wp2_with ((with_reducible refine (refFilm_any _ _ _ _).mono ?_); rintro e w2 ⟨he, hb2⟩; rw [Hf.out] at he; subst he)
            go_roundw
            case rel => exact ⟨k + 1, by omega, by go_num, all_next Ht.out (Hfe.out.trans Hf.out), below_chain Hb2.out hb2⟩
            case measure => simp [intOf]; omega
          | false =>
            have Hf := Lib.hid hf; clear hf
            go_wp2_with ((with_reducible refine (refFilm_any _ _ _ _).mono ?_); rintro e w2 ⟨he, hb2⟩; rw [Hf.out] at he; subst he)
            go_ret
            refine ⟨?_, below_chain Bw.out (below_chain Hb2.out hb2)⟩
            have : (List.range n).all (filmB zs) = false := by
              rw [Bool.eq_false_iff]
              intro hall
              have := List.all_eq_true.1 hall k (List.mem_range.2 hkn)
              rw [Hfe.out, Hf.out] at this; cases this
            unfold smallB'
            rw [this, Bool.and_false, Bool.false_and]; rfl
        · obtain rfl : k = n := by omega
          have hfl : (List.range k).all (filmB zs) = true := List.all_eq_true.2 fun j hj => Ht.out j (List.mem_range.1 hj)
          have Hfl := Lib.hid hfl; have Bv := Lib.hid (below_chain Bw.out Hb2.out)
          have hlv := Sv.out.lt
          clear hfl Ht
          go_wp2_with (first
            | ((with_reducible refine (within_any _ _ _ (by omega) (by omega)).mono ?_); rintro e w2 ⟨rfl, hb⟩; obtain ⟨hc, hf⟩ := bcells hb; (have hz : w.heap.size < w2.heap.size := by (have := hb.size; (try simp at this); omega)))
            | ((with_reducible refine (refName_any _ _ hg).mono ?_); rintro e w2 ⟨rfl, hb⟩; obtain ⟨hc, hf⟩ := bcells hb; (have hz : w.heap.size < w2.heap.size := by (have := hb.size; (try simp at this); omega))))
          all_goals
            go_ret
            refine ⟨congrArg (fun b => Ending.returned (Value.bool b)) ?_, below_chain Bv.out (by (repeat (first | exact Below.refl _ _ | apply below_al | apply below_dr | exact below_chain1 (by assumption) | (refine below_chain ?_ (by assumption)) | (refine below_st ?_ ?_))))⟩
            rw [small_b Ha.out Hfl.out]
            rw [Bool.eq_iff_iff]
            simp [smallC, test6, *] <;> omega

end Go.Proofs.YthommhfppeonpaaGreatDoor
