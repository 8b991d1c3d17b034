/-
  DERIVED. Several texts in one: StA, StB.
-/
import Derived.Test.YtpicmhbjiaegpaaGreatDoorJaa
import Derived.Test.YtpicmhbjiaegpaaGreatDoorGah
namespace Go.Proofs.YtpicmhbjiaegpaaGreatDoor
open Go.RowKit

def bad8 : List (List UInt8) := [[69, 70, 70, 76], [69, 70, 70, 76, 32, 120, 32, 61, 32, 49, 32, 49], [70, 79, 79, 32, 48, 32, 61, 32, 49, 32, 49], [83, 80, 79, 84, 32, 48, 32, 48, 32, 49, 54, 32, 61, 32, 48, 32, 49], [69, 70, 70, 76, 32, 48, 32, 61, 61, 32, 49, 32, 49], [69, 70, 70, 76, 32, 48, 32, 61, 32, 49, 48, 48, 48, 48, 48, 49, 32, 49], [77, 84, 70, 88, 32, 48, 32, 48, 32, 51, 32, 50, 48, 48, 49, 32, 62, 32, 48, 46, 53], [79, 80, 68, 70, 32, 48, 32, 48, 32, 50, 46, 48, 48, 48, 48, 48, 49, 32, 48, 32, 61, 32, 48, 32, 49]]
def bad8V : Value := .agg #[.string { data := #[69, 70, 70, 76] }, .string { data := #[69, 70, 70, 76, 32, 120, 32, 61, 32, 49, 32, 49] }, .string { data := #[70, 79, 79, 32, 48, 32, 61, 32, 49, 32, 49] }, .string { data := #[83, 80, 79, 84, 32, 48, 32, 48, 32, 49, 54, 32, 61, 32, 48, 32, 49] }, .string { data := #[69, 70, 70, 76, 32, 48, 32, 61, 61, 32, 49, 32, 49] }, .string { data := #[69, 70, 70, 76, 32, 48, 32, 61, 32, 49, 48, 48, 48, 48, 48, 49, 32, 49] }, .string { data := #[77, 84, 70, 88, 32, 48, 32, 48, 32, 51, 32, 50, 48, 48, 49, 32, 62, 32, 48, 46, 53] }, .string { data := #[79, 80, 68, 70, 32, 48, 32, 48, 32, 50, 46, 48, 48, 48, 48, 48, 49, 32, 48, 32, 61, 32, 48, 32, 49] }]
def oneT : List UInt8 := [84, 82, 65, 67, 32, 60, 32, 53, 10]
def fullT : List UInt8 := Lib.repeatL oneT 12
theorem fullT_len : fullT.length = 108 := by kernel_rfl
theorem lt8 {i : Nat} (h : i < 8) : i = 0 ∨ i = 1 ∨ i = 2 ∨ i = 3 ∨ i = 4 ∨ i = 5 ∨ i = 6 ∨ i = 7 := by omega
theorem bad8_line (i : Nat) (h : i < 8) : (∀ b ∈ bad8.getD i [], b ≠ 10) ∧ (bad8.getD i []).length ≤ 100 := by
  rcases lt8 h with rfl | rfl | rfl | rfl | rfl | rfl | rfl | rfl <;> exact of_decide_eq_true (by kernel_rfl)
theorem bad8_no (i : Nat) (h : i < 8) : skipL (wordsOf [] (bad8.getD i [])) = false ∧ readOf (wordsOf [] (bad8.getD i [])) = none := by
  rcases lt8 h with rfl | rfl | rfl | rfl | rfl | rfl | rfl | rfl <;> exact ⟨by kernel_rfl, by kernel_rfl⟩
theorem bad8_full (i : Nat) (h : i < 8) : readT (fullT ++ bad8.getD i []) = .no 12 5 ∧ readT (fullT ++ [35, 32] ++ bad8.getD i [] ++ [10] ++ oneT ++ bad8.getD i []) = .no 13 3 ∧ Lib.replaceAll (bad8.getD i []) [10] [] = bad8.getD i [] := by
  rcases lt8 h with rfl | rfl | rfl | rfl | rfl | rfl | rfl | rfl <;> exact ⟨by kernel_rfl, by kernel_rfl, by kernel_rfl⟩
theorem index_bad8 (i : Nat) (h : i < 8) (w : World) : (Instr.index 65 bad8V (.int .u8 (i : Int))).run Tryz.prog w = .ok (.string (bs (bad8.getD i []))) w := by
  rcases lt8 h with rfl | rfl | rfl | rfl | rfl | rfl | rfl | rfl <;> kernel_rfl
theorem joinPre_any (L : List (List UInt8)) (k b c : Nat) (w : World) (hc : w.heap[b]? = some (.cells (strCs L).toArray 9)) (hk : k ≤ L.length) (hn : L.length ≤ c) (hL : L.length ≤ 1000000) (hl : (L.take k).flatten.length ≤ 1000000) :
    Calls Tryz.prog 30 #[.slice (some ⟨b, 0, none⟩) k c, .string { data := #[] }] w (RetB w (.string (bs (L.take k).flatten))) := by
  have hkl : (L.take k).length = k := by rw [List.length_take]; omega
  have hcells : ∀ (j : Nat) x, ((L.take k).map bs)[j]? = some x → w.cell? ⟨b, 0 + j, none⟩ = some (.string x) := by
    intro j x hx
    rw [List.getElem?_map] at hx
    obtain ⟨y, hy, rfl⟩ := Option.map_eq_some_iff.1 hx
    have hj : j < k := by have := (List.getElem?_eq_some_iff.1 hy).1; omega
    rw [List.getElem?_take, if_pos hj] at hy
    rw [Nat.zero_add, obj_cell hc j, List.getElem?_toArray]
    unfold strCs
    rw [List.getElem?_map, hy]; rfl
  have hmm : ((L.take k).map bs).map (·.data.toList) = L.take k := by rw [List.map_map]; exact List.map_id'' (fun x => rfl) _
  have key := Tryz.strings_Join b 0 c ((L.take k).map bs) { data := #[] } w hcells (lt_of_block hc) (by rw [List.length_map]; omega) (by rw [List.length_map]; omega) (by rw [hmm]; show (Lib.join (L.take k) []).length ≤ _; rw [join_flat]; omega)
  rw [List.length_map, hkl, hmm] at key
  refine key.mono ?_
  rintro e w' ⟨rfl, hb⟩
  refine ⟨?_, hb⟩
  show Ending.returned (.string (bs (Lib.join (L.take k) []))) = _
  rw [join_flat]
theorem replaceNo_any (l : List UInt8) (w : World) (hg : GW w) (hl : l.length ≤ 1000) (hr : Lib.replaceAll l [10] [] = l) : Calls Tryz.prog 29 #[.string (bs l), .string { data := #[10] }, .string { data := #[] }] w (RetB w (.string (bs l))) := by
  obtain ⟨m, hm⟩ := hg.m
  have hcl := count_le1 10 l.length l (Nat.le_refl _)
  refine (Tryz.strings_ReplaceAll (bs l) (bs [10]) (bs []) m w (by rw [size_of_bs]; omega) hm (by decide) (by rw [size_of_bs, size_of_bs, show Lib.countB (bs l) (bs [10]) = Lib.count l [10] from rfl]; simp; omega)).mono ?_
  rintro e w' ⟨rfl, hb⟩
  refine ⟨?_, hb⟩
  show Ending.returned (.string (bs (Lib.replaceAll l [10] []))) = _
  rw [hr]
theorem told_stop {l : List Drf} (h : ∀ d ∈ l, DrfOk d) (q i : Nat) (hq : q < (afterOf [] (toldT l)).length) (hi : i < 8) (t : List UInt8) (ht : t.length ≤ 300) :
    readT (((afterOf [] (toldT l)).take q).flatten ++ bad8.getD i [] ++ [10] ++ t) = .no q 5 ∧ ((afterOf [] (toldT l)).take q).flatten.length ≤ 960 := by
  obtain ⟨h1, h2⟩ := opsOf_ok h
  obtain ⟨h3, h4⟩ := opdsOk_all h1
  have ha : afterOf [] (toldT l) = (opsOf l).map (fun x => lineT x ++ [10]) ++ [[]] := after_text _ h4
  have hql : q ≤ (opsOf l).length := by rw [ha] at hq; simp at hq; omega
  have ht1 : ((afterOf [] (toldT l)).take q).flatten = opdsT ((opsOf l).take q) := take_text h4 hql
  have h5 := opdsT_len80 ((opsOf l).take q) (fun x hx => h4 x (List.mem_of_mem_take hx))
  have h6 : ((opsOf l).take q).length ≤ 12 := by rw [List.length_take]; omega
  obtain ⟨b1, b2⟩ := bad8_line i hi
  obtain ⟨b3, b4⟩ := bad8_no i hi
  rw [ht1]
  refine ⟨?_, by omega⟩
  have := stop_at h1 h2 q (bad8.getD i []) t b1 b3 b4 hql (by rw [List.length_append, List.length_append, List.length_cons]; omega)
  rw [← this]; simp

end Go.Proofs.YtpicmhbjiaegpaaGreatDoor

namespace Go.Proofs.YtpicmhbjiaegpaaGreatDoor
open Go.RowKit

theorem one_str : ({ data := #[84, 82, 65, 67, 32, 60, 32, 53, 10] } : ByteArray) = bs oneT := rfl
set_option maxRecDepth 100000 in
set_option maxHeartbeats 3200000 in
theorem stops_walk (l : List Drf) (z1 z2 : Nat) (t : List UInt8) (a : Option Addr) (n c : Nat) (w : World) (h : RR DrfR 9 (fun b => b < w.heap.size) w a n c l) (hn : n ≤ 9223372036854775807) (hz1 : z1 < 256) (hz2 : z2 < 256) (ht : t.length ≤ 9223372036854775807) (hld : ∀ d ∈ l, DrfOk d) (hg : GW w) :
    Calls Tryz.prog 8 #[.slice a n c, .int .u8 (z1 : Int), .int .u8 (z2 : Int), .string (bs t)] w (RetB w (.bool true)) := by
  obtain ⟨ht1, ht2, ht3⟩ := told_reads hld
  have hok := opsOf_ok hld
  have hn3' := opsOf_len l
  have htx : textB (opsOf l) = toldT l := by unfold textB; rw [hok.1]; rfl
  have he0 : checkE (opsOf l) = 0 := by unfold checkE; rw [hok.1]; rfl
  have H := Lib.hid h; have Hg := Lib.hid hg; have Htx := Lib.hid htx; have He0 := Lib.hid he0; have Hld := Lib.hid hld
  clear h hg ht1 ht3 htx he0 hok hld
  go_enter Tryz.func8, Tryz.ntmps8
  go_wp2_with fail
  refine (works_any w Hg.out).mono ?_
  rintro e w1 ⟨rfl, hb1⟩
  have H1 := Lib.hid (H.out.go drfOk hb1); have Hb1 := Lib.hid hb1; have Hg1 := Lib.hid (Hg.out.below hb1)
  clear hb1 H Hg
  go_wp2_with fail
  refine (operands_any l a n c w1 H1.out hn).mono ?_
  rintro e w2 ⟨a3, n3, c3, rfl, hr3, hb2⟩
  have hn3 := rr_len hr3
  have Hb2 := Lib.hid (Hb1.out.trans (hb2.mono Hb1.out.size)); have Hg2 := Lib.hid (Hg1.out.below hb2); have Hr2 := Lib.hid hr3
  clear hr3 hb2 H1 Hg1 Hb1
  go_wp2_with fail
  refine (oText_any (opsOf l) a3 n3 c3 w2 Hr2.out (by omega) Hg2.out).mono ?_
  rintro e w3 ⟨rfl, hb3⟩
  rw [Htx.out, He0.out]
  have Hb3 := Lib.hid (Hb2.out.trans (hb3.mono Hb2.out.size)); have Hg3 := Lib.hid (Hg2.out.below hb3)
  clear hb3 Hb2 Hg2 Hr2
  go_wp2_with fail
  refine (splitAfter_any (toldT l) w3 Hg3.out (by omega)).mono ?_
  rintro e w4 ⟨rfl, rfl⟩
  have hb4 := (Below.refl w3.heap.size w3).alloc (Nat.le_refl _) (.cells (strCs (afterOf [] (toldT l))).toArray 9)
  have hB4 := heap_alloc_new w3 (.cells (strCs (afterOf [] (toldT l))).toArray 9)
  have hs4 : w3.heap.size < (w3.alloc (.cells (strCs (afterOf [] (toldT l))).toArray 9)).heap.size := by simp
  have Hb4 := Lib.hid (Hb3.out.trans (hb4.mono Hb3.out.size)); have Hg4 := Lib.hid (Hg3.out.below hb4); have HB4 := Lib.hid hB4
  clear hb4 hB4
  have hL0 : (afterOf [] (toldT l)).length ≤ 1000 := by
    have e1 := count_after _ (toldT l) (Nat.le_refl _)
    have e2 := count_le1 10 _ (toldT l) (Nat.le_refl _)
    omega
  have hst := fun q i hq hi t ht => told_stop Hld.out q i hq hi t ht
  have hLp : 0 < (afterOf [] (toldT l)).length := by
    have e1 := count_after _ (toldT l) (Nat.le_refl _)
    omega
  have Hst := Lib.hid hst
  clear hst Hb3 Hg3
  generalize (w3.alloc (.cells (strCs (afterOf [] (toldT l))).toArray 9)) = w4 at *
  generalize afterOf [] (toldT l) = L0 at *
  obtain ⟨N, hN⟩ : ∃ N, L0.length = N := ⟨_, rfl⟩
  rw [hN] at hL0 hLp ⊢
  have e5 : (z2 : Int) % (N : Int) = ((z2 % N : Nat) : Int) := rfl
  have hq : z2 % N < N := Nat.mod_lt _ hLp
  have hi8 : z1 % 8 < 8 := Nat.mod_lt _ (by omega)
  have hix : ∀ w, (Instr.index 65 (.agg #[.string { data := #[69, 70, 70, 76] }, .string { data := #[69, 70, 70, 76, 32, 120, 32, 61, 32, 49, 32, 49] }, .string { data := #[70, 79, 79, 32, 48, 32, 61, 32, 49, 32, 49] }, .string { data := #[83, 80, 79, 84, 32, 48, 32, 48, 32, 49, 54, 32, 61, 32, 48, 32, 49] }, .string { data := #[69, 70, 70, 76, 32, 48, 32, 61, 61, 32, 49, 32, 49] }, .string { data := #[69, 70, 70, 76, 32, 48, 32, 61, 32, 49, 48, 48, 48, 48, 48, 49, 32, 49] }, .string { data := #[77, 84, 70, 88, 32, 48, 32, 48, 32, 51, 32, 50, 48, 48, 49, 32, 62, 32, 48, 46, 53] }, .string { data := #[79, 80, 68, 70, 32, 48, 32, 48, 32, 50, 46, 48, 48, 48, 48, 48, 49, 32, 48, 32, 61, 32, 48, 32, 49] }]) (.int .u8 ((z1 : Int) % 8))).run Tryz.prog w = .ok (.string (bs (bad8.getD (z1 % 8) []))) w := fun w => index_bad8 (z1 % 8) hi8 w
  have hbl := (bad8_line (z1 % 8) hi8).2
  have hst2' := fun q hq t ht => Hst.out q (z1 % 8) hq hi8 t ht
  have hff := bad8_full (z1 % 8) hi8
  have Hst2 := Lib.hid hst2'; have Hff := Lib.hid hff
  clear hst2' Hst hff
  generalize bad8.getD (z1 % 8) [] = bd at *
  go_wp2_with fail
  rw [e5]
  clear e5 hix
  generalize z2 % N = q at *
  obtain ⟨hst1, hst2⟩ := Hst2.out q (by omega) (t.take 300) (by rw [List.length_take]; omega)
  obtain ⟨hf1, hf2, hf3⟩ := Hff.out
  have Hst1 := Lib.hid hst1; have Hf1 := Lib.hid hf1; have Hf2 := Lib.hid hf2; have Hf3 := Lib.hid hf3
  clear hst1 hf1 hf2 hf3 Hff Hst2
  go_wp2_with fail
  have emo : min (t.length : Int) 300 = ((min t.length 300 : Nat) : Int) := by omega
  have hmo : min t.length 300 ≤ t.length ∧ min t.length 300 ≤ 300 := ⟨Nat.min_le_left _ _, Nat.min_le_right _ _⟩
  have ebe : (bs t).extract 0 (min t.length 300) = bs (t.take 300) := by
    rw [bs_extract, Nat.sub_zero, List.drop_zero]
    congr 1
    rw [Nat.min_comm, List.take_eq_take_iff]; simp
  have htk : (t.take 300).length = min t.length 300 := by rw [List.length_take, Nat.min_comm]
  obtain ⟨X1, hX1⟩ : ∃ X, (L0.take q).flatten ++ bd = X := ⟨_, rfl⟩
  obtain ⟨X2, hX2⟩ : ∃ X, X1 ++ [10] = X := ⟨_, rfl⟩
  obtain ⟨X3, hX3⟩ : ∃ X, X2 ++ t.take 300 = X := ⟨_, rfl⟩
  have r0 : bs (L0.take q).flatten ++ bs bd = bs X1 := by rw [bs_append, hX1]
  have r1 : bs X1 ++ ({ data := #[10] } : ByteArray) = bs X2 := (bs_append X1 [10]).trans (by rw [hX2])
  have r2 : bs X2 ++ bs (t.take 300) = bs X3 := by rw [bs_append, hX3]
  have rl : X1.length = (L0.take q).flatten.length + bd.length := by rw [← hX1, List.length_append]
  have rl1 : X2.length = X1.length + 1 := by rw [← hX2, List.length_append]; rfl
  have hS1 : X3.length ≤ 4000 := by rw [← hX3, List.length_append]; omega
  have Hst1' : Hid (readT X3 = .no q 5) := by rw [← hX3, ← hX2, ← hX1]; exact Hst1
  have hr1 := Lib.hid rl; have hr2 := Lib.hid rl1
  clear hX1 hX2 hX3 Hst1 rl rl1
  refine wp_region_floats 13 [] [] [(0, true), (1, true), (2, true), (4, true), (7, true), (8, true), (9, true), (10, true), (11, true), (3, false), (5, true), (6, true), (12, true)] (by kernel_rfl) (by kernel_rfl) ⟨by simp, by simp, fun _ h => by cases h⟩ (fun _ _ _ _ _ h => h) (fun _ _ o _ _ h => by cases o <;> exact h) ?_
  iterate 9
    refine wpG_yield (v := ?_) rfl rfl (by rfl) ?_ ?_
    rotate_left
    · intro y hy
      go_simp
      try rw [emo]
      try rw [if_pos (show q ≤ N by omega)]
      try rw [ebe]
      all_goals with_reducible rfl
    try simp only [Act.put, List.setIfInBounds_toArray, List.set_cons_zero, List.set_cons_succ]
  refine wpG_step rfl rfl (fun x1 hx1 K hK => ?_)
  go_simp
  have hx1' : Below w4.heap.size w4 x1 := below_undrew (k := 1) hx1
  refine (joinPre_any L0 q w3.heap.size N x1 ((hx1'.block _ hs4).trans HB4.out) (by omega) (by omega) (by omega) (by omega)).mono ?_
  rintro e w5 ⟨rfl, hb5⟩
  refine hK _ _ hb5 ?_
  clear hK K
  have hb5' := hx1'.trans (hb5.mono hx1'.size)
  have Hb5 := Lib.hid (Hb4.out.trans (hb5'.mono Hb4.out.size)); have Hg5 := Lib.hid (Hg4.out.below hb5')
  clear hx1 hx1' hb5 hb5' Hb4 Hg4 HB4 emo ebe
  generalize (L0.take q).flatten = J at *
  try simp only [Act.put, List.setIfInBounds_toArray, List.set_cons_zero, List.set_cons_succ]
  iterate 3
    refine wpG_yield (v := ?_) rfl rfl (by rfl) ?_ ?_
    rotate_left
    · intro y hy
      go_simp
      try rw [if_neg (by have := hr1.out; have := hr2.out; omega)]
      first | rw [r0] | rw [r1] | rw [r2] | skip
      all_goals with_reducible rfl
    try simp only [Act.put, List.setIfInBounds_toArray, List.set_cons_zero, List.set_cons_succ]
  refine wpG_nil0 (l := [_]) rfl (fun w6 hb6 => ?_)
  have Hb6 := Lib.hid (Hb5.out.trans (hb6.mono Hb5.out.size)); have Hg6 := Lib.hid (Hg5.out.below hb6)
  clear hb6 Hb5 Hg5 r0 r1 r2 hr1 hr2 htk hmo
  go_wp2_with fail
  refine (repeat_any oneT 12 w6 (by omega) (by decide)).mono ?_
  rintro e w7 ⟨rfl, hb7⟩
  rw [show Lib.repeatL oneT 12 = fullT from rfl]
  have Hb7 := Lib.hid (Hb6.out.trans (hb7.mono Hb6.out.size)); have Hg7 := Lib.hid (Hg6.out.below hb7)
  clear hb7 Hb6 Hg6
  have hfl := fullT_len
  have k2 : bs fullT ++ ({ data := #[35, 32] } : ByteArray) ++ bs bd ++ ({ data := #[10] } : ByteArray) ++ ({ data := #[84, 82, 65, 67, 32, 60, 32, 53, 10] } : ByteArray) ++ bs bd = bs (fullT ++ [35, 32] ++ bd ++ [10] ++ oneT ++ bd) := by
    rw [one_str, show ({ data := #[35, 32] } : ByteArray) = bs [35, 32] from rfl, show ({ data := #[10] } : ByteArray) = bs [10] from rfl]
    simp only [bs_append]
  have k3 : bs fullT ++ bs bd = bs (fullT ++ bd) := bs_append _ _
  have hl2 : (fullT ++ [35, 32] ++ bd ++ [10] ++ oneT ++ bd).length ≤ 1000 := by
    simp only [List.length_append, hfl]
    have : oneT.length = 9 := rfl
    simp [this]; omega
  have hl3 : (fullT ++ bd).length ≤ 1000 := by rw [List.length_append, hfl]; omega
  have K2 := Lib.hid k2; have K3 := Lib.hid k3
  clear k2 k3
  generalize fullT = FT at *
  go_wp2_with fail
  refine (refuses_any X3 (q : Int) 5 w7 (by omega) Hg7.out).mono ?_
  rintro e w8 ⟨rfl, hb8⟩
  rw [Hst1'.out, show refuseB (.no q 5) (q : Int) 5 = true by simp [refuseB, psL, psK, psE]]
  have Hb8 := Lib.hid (Hb7.out.trans (hb8.mono Hb7.out.size)); have Hg8 := Lib.hid (Hg7.out.below hb8)
  clear hb8 Hb7 Hg7
  go_wp2_with fail
  refine (replaceNo_any bd w8 Hg8.out (by omega) Hf3.out).mono ?_
  rintro e w9 ⟨rfl, hb9⟩
  have Hb9 := Lib.hid (Hb8.out.trans (hb9.mono Hb8.out.size)); have Hg9 := Lib.hid (Hg8.out.below hb9)
  clear hb9 Hb8 Hg8
  go_wp2_with fail
  rw [K2.out]
  refine (refuses_any _ 13 3 w9 (by omega) Hg9.out).mono ?_
  rintro e w10 ⟨rfl, hb10⟩
  rw [Hf2.out, show refuseB (.no 13 3) 13 3 = true by simp [refuseB, psL, psK, psE]]
  have Hb10 := Lib.hid (Hb9.out.trans (hb10.mono Hb9.out.size)); have Hg10 := Lib.hid (Hg9.out.below hb10)
  clear hb10 Hb9 Hg9
  go_wp2_with fail
  rw [K3.out]
  refine (refuses_any _ 12 5 w10 (by omega) Hg10.out).mono ?_
  rintro e w11 ⟨rfl, hb11⟩
  rw [Hf1.out, show refuseB (.no 12 5) 12 5 = true by simp [refuseB, psL, psK, psE]]
  have Hb11 := Lib.hid (Hb10.out.trans (hb11.mono Hb10.out.size))
  clear hb11 Hb10 Hg10
  go_wp2_with fail
  go_ret
  exact ⟨rfl, Hb11.out⟩
end Go.Proofs.YtpicmhbjiaegpaaGreatDoor
