/-
  DERIVED. The walks of package yield, second part: powers.
-/
import Derived.Test.YtkfkdkoohnfgaaaRowL
namespace Go.Proofs.Ytkfkdkoohnfgaaa
open Go.RowKit

/-- a call that gives back a row of long integers -/
def RetR (w : World) (zs : List Int) (e : Ending) (w' : World) : Prop :=
  ∃ g cap, e = .returned (.slice (some ⟨g, 0, none⟩) zs.length cap) ∧ RowL w'.heap.size w.heap.size w' g cap zs ∧ Below w.heap.size w w'

/-- the powers of a number -/
def pw (a : Int) (k : Nat) : List Int := (List.range (k + 1)).map fun i => a ^ i

theorem length_pw (a : Int) (k : Nat) : (pw a k).length = k + 1 := by simp [pw]
theorem pw_get (a : Int) (k j : Nat) (h : j ≤ k) : (pw a k).getD j 0 = a ^ j := by
  simp [pw, List.getD_eq_getElem?_getD, List.getElem?_range (show j < k + 1 by omega)]
theorem pw_succ (a : Int) (k : Nat) : pw a (k + 1) = pw a k ++ [a ^ k * a] := by
  unfold pw
  rw [List.range_succ, List.map_append]
  simp [Int.pow_succ]

theorem pw_fit {x : Int} {k M : Nat} (h : k ≤ M) (hf : (digs (x ^ M).natAbs).length ≤ 600) : (digs (x ^ k).natAbs).length ≤ 600 := by
  rw [Int.natAbs_pow] at hf ⊢
  rcases Nat.eq_zero_or_pos x.natAbs with h0 | h0
  · rw [h0]
    have e : (0 : Nat) ^ k < 1000000000 ^ 1 := by
      rcases Nat.eq_zero_or_pos k with hk | hk
      · subst hk; simp
      · rw [Nat.zero_pow hk]; simp
    exact Nat.le_trans (length_digs_le e) (by omega)
  · exact Nat.le_trans (length_digs_mono (Nat.pow_le_pow_right h0 h)) hf

set_option maxRecDepth 100000 in
set_option maxHeartbeats 800000 in
theorem powers_any (x m : Int) (w : World) (hx : 0 ≤ x) (hx2 : x ≤ 9223372036854775807) (M : Nat) (hm : m = (M : Int)) (hM : M ≤ 1000000) (hfit : (digs (x ^ M).natAbs).length ≤ 600) :
    Calls Try.prog 20 #[.int .i64 x, .int .i64 m] w (RetR w (pw x M)) := by
  subst hm
  have Hfit := Lib.hid hfit; clear hfit
  go_enter Try.func20, Try.ntmps20
  go_wp2_with fail
  refine (of_any 1 w (by omega) (by omega)).mono ?_
  rintro e w1 ⟨s, a, n, c, rfl, hlg, hb1, hf1⟩
  go_wp2_with fail
  go_loopw [5, 10] (fun lv kv wr => ∃ (k g cap : Nat), k ≤ M ∧ kv = .int .i64 k ∧ lv = .slice (some ⟨g, 0, none⟩) (k + 1) cap ∧ RowL wr.heap.size w.heap.size wr g cap (pw x k) ∧ Below w.heap.size w wr) (fun _ kv _ => M - (intOf kv).toNat)
  case atStart =>
    refine ⟨0, _, _, Nat.zero_le _, rfl, rfl, ?_, hb1.alloc hb1.size _⟩
    have := RowL.one hlg (base := w.heap.size) hb1.size hf1
    simpa [pw] using this
  case round =>
    obtain ⟨k, g, cap, hk, rfl, rfl, hrow, hbw⟩ := hrel
    by_cases hkm : k < M
    · obtain ⟨s1, a1, n1, c1, k1, k2, hl1, _⟩ := hrow.get (j := k) (by rw [length_pw]; omega)
      rw [pw_get _ _ _ (Nat.le_refl _)] at hl1
      have Hl1 := Lib.hid hl1; have Hrow := Lib.hid hrow
      have i1 : (0 : Int) ≤ (k : Int) := by omega
      have i2 : (k : Int) < (k : Int) + 1 := by omega
      have hfk : (digs (x ^ k * x).natAbs).length ≤ 600 := by rw [← Int.pow_succ]; exact pw_fit (by omega) Hfit.out
      have Hfk := Lib.hid hfk
      clear hl1 hlg hfk
      go_wp2_with fail
      have hglt := Hrow.out.lt
      refine wp_region_eager 9 [(0, true), (1, true), (2, true), (3, true), (4, true), (5, true), (6, false), (7, false), (8, false)] (by kernel_rfl) (by kernel_rfl) ?_
      iterate 6
        refine wpOrd_yield (v := ?_) rfl (fun _ _ _ h => h) (by rfl) ?_ ?_
        rotate_left
        · intro x hx
          have q1 := (hx.cell (p := ⟨g, k * 2, none⟩) hglt).trans k1
          have q2 := (hx.cell (p := ⟨g, k * 2 + 1, none⟩) hglt).trans k2
          go_simp
          with_reducible rfl
        simp only [Act.put, List.setIfInBounds_toArray, List.set_cons_zero, List.set_cons_succ]
      refine wpOrd_step rfl rfl (fun K hK => ?_)
      go_simp
      refine (of_any x _ (by omega) hx2).mono ?_
      rintro e w2 ⟨s2, a2, n2, c2, rfl, hl2, hb2, hf2⟩
      refine hK _ _ hb2 ?_
      clear hK K
      have hb2u : Below wr.heap.size wr w2 := below_undrew (k := 1) hb2
      try simp only [Act.put, List.setIfInBounds_toArray, List.set_cons_zero, List.set_cons_succ]
      refine wpOrd_step rfl rfl (fun K hK => ?_)
      go_simp
      refine (ymul_any s1 s2 (x ^ k) x a1 a2 n1 n2 c1 c2 _ (Hl1.out.go hb2u) hl2 Hfk.out).mono ?_
      rintro e w3 ⟨s3, a3, n3, c3, rfl, hl3, hb3, hf3⟩
      refine hK _ _ hb3 ?_
      clear hK K
      have hbz : Below wr.heap.size wr w3 := hb2u.trans (hb3.mono hb2u.size)
      try simp only [Act.put, List.setIfInBounds_toArray, List.set_cons_zero, List.set_cons_succ]
      refine wpOrd_step rfl rfl (fun K hK => ?_)
      go_simp
      refine hK _ _ ((Below.refl _ _).alloc (Nat.le_refl _) _) ?_
      clear hK K
      try simp only [Act.put, List.setIfInBounds_toArray, List.set_cons_zero, List.set_cons_succ]
      refine wpOrd_nil rfl ?_
      refine wpList_append_one rfl (.tmp 13) (.tmp 21) rfl rfl (by rw [length_pw]) (Hrow.out.go hbz) hl3 (fun b off e h0 => by have := hf3 b off e h0; have := hb2u.size; omega) (hf3.mono (by have := hb2u.size; have := hbw.size; omega)) rfl (by rw [length_pw]; omega) ?_
      intro g' cap' w4 hrow4 hbel4
      rw [← pw_succ] at hrow4
      go_wp2
      go_roundw
      case rel => exact ⟨k + 1, g', cap', by omega, by go_num, rfl, hrow4, hbel4 _ _ (Nat.le_refl _) (hbw.trans (hbz.mono hbw.size))⟩
      case measure => simp [intOf]; omega
    · obtain rfl : k = M := by omega
      go_wp2
      go_ret
      refine ⟨g, cap, ?_, hrow, hbw⟩
      rw [length_pw]
      rfl

end Go.Proofs.Ytkfkdkoohnfgaaa
