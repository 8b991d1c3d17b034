/-
  DERIVED. The walks of YieldSharp: the literal small.
-/
import Derived.Test.YtkfkdkoohnfgaaaSharpE
namespace Go.Proofs.Ytkfkdkoohnfgaaa
open Go.RowKit

theorem RowQ.drop {w : World} {g : Nat} {x : Int} {N : Nat} (h : RowQ w g 0 ((List.range (N + 1)).map (prob x N))) (k : Nat) (hk : k ≤ N + 1) : RowQ w g (k * 4) ((List.range (N + 1 - k)).map fun i => prob x N (k + i)) := by
  refine ⟨h.1, fun i hi => ?_⟩
  have hi' : i < N + 1 - k := by simpa using hi
  have := h.2 (k + i) (by simp; omega)
  rw [show (List.map (prob x N) (List.range (N + 1))).getD (k + i) 0 = prob x N (k + i) by simp [List.getD_eq_getElem?_getD, show k + i < N + 1 by omega]] at this
  rw [show ((List.range (N + 1 - k)).map fun i => prob x N (k + i)).getD i 0 = prob x N (k + i) by simp [List.getD_eq_getElem?_getD, hi'], show k * 4 + 4 * i = 0 + 4 * (k + i) by omega]
  exact this
theorem RowQ.take {w : World} {g : Nat} {x : Int} {N : Nat} (h : RowQ w g 0 ((List.range (N + 1)).map (prob x N))) (k : Nat) (hk : k ≤ N + 1) : RowQ w g 0 ((List.range k).map fun i => prob x N (0 + i)) := by
  refine ⟨h.1, fun i hi => ?_⟩
  have hi' : i < k := by simpa using hi
  have := h.2 i (by simp; omega)
  rw [show (List.map (prob x N) (List.range (N + 1))).getD i 0 = prob x N i by simp [List.getD_eq_getElem?_getD, show i < N + 1 by omega]] at this
  rw [show ((List.range k).map fun i => prob x N (0 + i)).getD i 0 = prob x N i by simp [List.getD_eq_getElem?_getD, hi']]
  exact this

set_option maxRecDepth 100000 in
set_option maxHeartbeats 1600000 in
theorem lit_up (x d : Int) (N k bm bf bp : Nat) (w : World) (hN : N ≤ 7) (hk : k ≤ N) (h0 : 0 ≤ x) (h1 : x ≤ 100) (hd1 : 1 ≤ d) (hd2 : d ≤ 999999)
    (hm : w.cell? ⟨bm, 0, none⟩ = some (.int .i64 (N : Int))) (hf : w.cell? ⟨bf, 0, none⟩ = some (.int .i64 (k : Int))) (hp : w.cell? ⟨bp, 0, none⟩ = some (.int .i64 d)) (lm : bm < w.heap.size) (lf : bf < w.heap.size) (lp : bp < w.heap.size) :
    Calls Try.prog 9 #[.int .i64 x, .bool true, .pointer (some ⟨bm, 0, none⟩), .pointer (some ⟨bf, 0, none⟩), .pointer (some ⟨bp, 0, none⟩)] w (RetB w (.tuple #[.bool (smallB N k N (d * 100 ^ N) x), .bool true])) := by
  have Hf := Lib.hid hf; have Hp := Lib.hid hp; have Hm := Lib.hid hm
  clear hf hp
  go_enter Try.func9, Try.ntmps9
  go_wp2_with fail
  refine (tails_any x N _ hN h0 h1).mono ?_
  rintro e w1 ⟨g, cap, rfl, hcap, hrow, hb1⟩
  have cm := (hb1.cell (p := ⟨bm, 0, none⟩) lm).trans Hm.out
  have cf := (hb1.cell (p := ⟨bf, 0, none⟩) lf).trans Hf.out
  have cp := (hb1.cell (p := ⟨bp, 0, none⟩) lp).trans Hp.out
  have hlf : bf < w1.heap.size := Nat.lt_of_lt_of_le lf hb1.size
  have hlp : bp < w1.heap.size := Nat.lt_of_lt_of_le lp hb1.size
  have Hrow := Lib.hid hrow; have Hb1 := Lib.hid hb1
  clear hm hrow hb1
  have hkN : (k : Int) < (N : Int) + 1 := by omega
  have hlen : ((N : Int) + 1 == (N : Int) + 1) = true := by simp
  go_wp2_with fail
  refine wp_region_eager 7 [(0, true), (1, true), (2, true), (3, true), (4, false), (5, true), (6, true)] (by kernel_rfl) (by kernel_rfl) ?_
  iterate 4
    refine wpOrd_yield (v := ?_) rfl (fun _ _ _ h => h) (by rfl) ?_ ?_
    rotate_left
    · intro y hy
      have y1 := (hy.cell (p := ⟨bf, 0, none⟩) hlf).trans cf
      have y2 := (hy.cell (p := ⟨bp, 0, none⟩) hlp).trans cp
      go_simp
      first
        | rw [if_pos (show (k : Int) ≤ (N : Int) + 1 by omega), if_neg (show ¬ cap = k by omega)]
        | with_reducible rfl
    try simp only [Act.put, List.setIfInBounds_toArray, List.set_cons_zero, List.set_cons_succ]
  refine wpOrd_step rfl rfl (fun K hK => ?_)
  go_simp
  refine (atMost_any x N k (N + 1 - k) g (k * 4) (cap - k) d _ hN (by omega) h0 h1 hd1 hd2 (RowQ.drop (RowQ.go Hrow.out (below_undrew (k := 1) (Below.refl _ _))) k (by omega))).mono ?_
  rintro e w2 ⟨rfl, hb2⟩
  refine hK _ _ hb2 ?_
  clear hK K
  have Hb2 : Hid (Below w1.heap.size w1 w2) := Lib.hid (below_undrew (k := 1) hb2)
  clear hb2
  try simp only [Act.put, List.setIfInBounds_toArray, List.set_cons_zero, List.set_cons_succ]
  iterate 2
    refine wpOrd_yield (v := ?_) rfl (fun _ _ _ h => h) (by rfl) ?_ ?_
    rotate_left
    · intro y hy
      go_simp
      with_reducible rfl
    try simp only [Act.put, List.setIfInBounds_toArray, List.set_cons_zero, List.set_cons_succ]
  refine wpOrd_nil rfl ?_
  go_wp2
  go_ret2
  exact ⟨rfl, Hb1.out.trans (Hb2.out.mono Hb1.out.size)⟩
set_option maxRecDepth 100000 in
set_option maxHeartbeats 1600000 in
theorem lit_low (x d : Int) (N k bm bf bp : Nat) (w : World) (hN : N ≤ 7) (hk : k ≤ N) (h0 : 0 ≤ x) (h1 : x ≤ 100) (hd1 : 1 ≤ d) (hd2 : d ≤ 999999)
    (hm : w.cell? ⟨bm, 0, none⟩ = some (.int .i64 (N : Int))) (hf : w.cell? ⟨bf, 0, none⟩ = some (.int .i64 (k : Int))) (hp : w.cell? ⟨bp, 0, none⟩ = some (.int .i64 d)) (lm : bm < w.heap.size) (lf : bf < w.heap.size) (lp : bp < w.heap.size) :
    Calls Try.prog 9 #[.int .i64 x, .bool false, .pointer (some ⟨bm, 0, none⟩), .pointer (some ⟨bf, 0, none⟩), .pointer (some ⟨bp, 0, none⟩)] w (RetB w (.tuple #[.bool (smallB N 0 k (d * 100 ^ N) x), .bool true])) := by
  have Hf := Lib.hid hf; have Hp := Lib.hid hp; have Hm := Lib.hid hm
  clear hf hp
  go_enter Try.func9, Try.ntmps9
  go_wp2_with fail
  refine (tails_any x N _ hN h0 h1).mono ?_
  rintro e w1 ⟨g, cap, rfl, hcap, hrow, hb1⟩
  have cm := (hb1.cell (p := ⟨bm, 0, none⟩) lm).trans Hm.out
  have cf := (hb1.cell (p := ⟨bf, 0, none⟩) lf).trans Hf.out
  have cp := (hb1.cell (p := ⟨bp, 0, none⟩) lp).trans Hp.out
  have hlf : bf < w1.heap.size := Nat.lt_of_lt_of_le lf hb1.size
  have hlp : bp < w1.heap.size := Nat.lt_of_lt_of_le lp hb1.size
  have Hrow := Lib.hid hrow; have Hb1 := Lib.hid hb1
  clear hm hrow hb1
  have hkN : (k : Int) < (N : Int) + 1 := by omega
  have s1 : IntKind.i64.wrap ((k : Int) + 1) = (k : Int) + 1 := IntWalk.i64_in _ (by omega)
  have s2 : (0 : Int) ≤ (k : Int) + 1 := by omega
  have s3 : ((k : Int) + 1).toNat = k + 1 := by omega
  have s4 : (k : Int) + 1 ≤ (cap : Int) := by omega
  have hlen : ((N : Int) + 1 == (N : Int) + 1) = true := by simp
  go_wp2_with fail
  refine wp_region_eager 8 [(0, true), (1, true), (2, true), (3, true), (4, true), (5, false), (6, true), (7, true)] (by kernel_rfl) (by kernel_rfl) ?_
  iterate 5
    refine wpOrd_yield (v := ?_) rfl (fun _ _ _ h => h) (by rfl) ?_ ?_
    rotate_left
    · intro y hy
      have y1 := (hy.cell (p := ⟨bf, 0, none⟩) hlf).trans cf
      have y2 := (hy.cell (p := ⟨bp, 0, none⟩) hlp).trans cp
      go_simp
      first
        | rw [if_pos s4]
        | with_reducible rfl
    try simp only [Act.put, List.setIfInBounds_toArray, List.set_cons_zero, List.set_cons_succ]
  refine wpOrd_step rfl rfl (fun K hK => ?_)
  go_simp
  refine (atMost_any x N 0 (k + 1) g 0 cap d _ hN (by omega) h0 h1 hd1 hd2 (RowQ.take (RowQ.go Hrow.out (below_undrew (k := 1) (Below.refl _ _))) (k + 1) (by omega))).mono ?_
  rintro e w2 ⟨rfl, hb2⟩
  refine hK _ _ hb2 ?_
  clear hK K
  have Hb2 : Hid (Below w1.heap.size w1 w2) := Lib.hid (below_undrew (k := 1) hb2)
  clear hb2
  try simp only [Act.put, List.setIfInBounds_toArray, List.set_cons_zero, List.set_cons_succ]
  iterate 2
    refine wpOrd_yield (v := ?_) rfl (fun _ _ _ h => h) (by rfl) ?_ ?_
    rotate_left
    · intro y hy
      go_simp
      with_reducible rfl
    try simp only [Act.put, List.setIfInBounds_toArray, List.set_cons_zero, List.set_cons_succ]
  refine wpOrd_nil rfl ?_
  go_wp2
  go_ret2
  exact ⟨rfl, Hb1.out.trans (Hb2.out.mono Hb1.out.size)⟩

end Go.Proofs.Ytkfkdkoohnfgaaa
