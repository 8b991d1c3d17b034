/-
  DERIVED. Drafted operands as data; the walk of monocleref33's Names, Draft.Operand.
-/
import Derived.Test.YtpicmhbjiaegpaaGreatDoorGag
import Derived.Test.YtpicmhbjiaegpaaGreatDoorGae
namespace Go.Proofs.YtpicmhbjiaegpaaGreatDoor
open Go.RowKit

structure Drf where
  kd : Nat
  rl : Nat
  A : List Nat
  tg : Int
  wt : Nat
structure DrfOk (d : Drf) : Prop where
  kd : d.kd < 256
  rl : d.rl < 256
  len : d.A.length = 5
  all : ∀ a ∈ d.A, a < 65536
  tg : -2147483648 ≤ d.tg ∧ d.tg < 2147483648
  wt : d.wt < 65536
def argOf : Nat → Nat → Int
  | 1, a => (a : Int) % 2
  | 2, a => (a : Int) % 2
  | 3, a => (a : Int) % 4
  | 4, a => 1 + (a : Int) % 17
  | 5, a => 1 + (a : Int) % 4
  | 6, a => (a : Int) % 200
  | 7, a => (a : Int) % 4000 * 1000
  | _, a => ((a : Int) % 401 - 200) * 5000
def argsD : List Nat → List Nat → List Int
  | k :: ks, a :: A => argOf k a :: argsD ks A
  | _, _ => []
def entryOf (d : Drf) : List UInt8 × List Nat := kindTab.getD (d.kd % 24) ([], [])
def opdOf (d : Drf) : Opd := ⟨(entryOf d).1, pad5 (argsD (entryOf d).2 d.A), 1 + ((d.rl % 3 : Nat) : Int), d.tg * 10, if d.rl % 3 = 0 then 1 + ((d.wt % 1000 : Nat) : Int) else 0⟩
theorem entry_kinds : ∀ e ∈ kindTab, kindsOf e.1 = some e.2 ∧ e.2.length ≤ 5 ∧ ∀ k ∈ e.2, 1 ≤ k ∧ k ≤ 8 := by decide
theorem entry_mem (d : Drf) : entryOf d ∈ kindTab := by
  unfold entryOf
  have h : d.kd % 24 < kindTab.length := Nat.mod_lt _ (by decide)
  rw [List.getD_eq_getElem?_getD, List.getElem?_eq_getElem h]
  exact List.getElem_mem h

theorem names33_any (w : World) : Calls Tryz.prog 24 #[] w fun e w' => e = .returned (.slice (some ⟨w.heap.size, 0, none⟩) 24 24) ∧ w' = w.alloc (.cells (strCs (kindTab.map (·.1))).toArray 9) := by
  go_enter Tryz.func24, Tryz.ntmps24
  go_wp2_with fail
  go_ret
  exact ⟨rfl, rfl⟩

theorem argsD_le : ∀ (ks A : List Nat), (argsD ks A).length ≤ ks.length
  | [], A => by cases A <;> simp [argsD]
  | k :: ks, [] => by simp [argsD]
  | k :: ks, a :: A => by
    have := argsD_le ks A
    rw [argsD, List.length_cons, List.length_cons]; omega
theorem argsD_len : ∀ (ks A : List Nat), ks.length ≤ 5 → (argsD ks A).length ≤ 5
  | [], A, h => by cases A <;> simp [argsD]
  | k :: ks, [], h => by simp [argsD]
  | k :: ks, a :: A, h => by
    have := argsD_le ks A
    rw [argsD, List.length_cons]
    simp at h; omega
theorem argsD_at : ∀ (ks A : List Nat) (i : Nat), i < ks.length → ks.length ≤ A.length → (argsD ks A)[i]? = some (argOf (ks.getD i 0) (A.getD i 0))
  | [], A, i, h, _ => by simp at h
  | k :: ks, [], i, _, h => by simp at h
  | k :: ks, a :: A, 0, _, _ => rfl
  | k :: ks, a :: A, i + 1, h, h2 => by
    rw [argsD, List.getElem?_cons_succ, List.getD_cons_succ, List.getD_cons_succ]
    exact argsD_at ks A i (by simpa using h) (by simpa using h2)
/-- a draft's cells, its value -/
def dCells (d : Drf) : List Value := [.int .u8 (d.kd : Int), .int .u8 (d.rl : Int)] ++ d.A.map (fun (a : Nat) => Value.int .u16 (a : Int)) ++ [.int .i32 d.tg, .int .u16 (d.wt : Int)]
set_option maxRecDepth 100000 in
set_option maxHeartbeats 3200000 in
theorem dOperand_any (d : Drf) (hd : DrfOk d) (w : World) : Calls Tryz.prog 25 #[.agg (dCells d).toArray] w (RetB w (opV (opdOf d))) := by
  obtain ⟨kd, rl, A, tg, wt⟩ := d
  obtain ⟨h1, h2, h3, h4, h5, h6⟩ := hd
  simp only at h1 h2 h3 h4 h5 h6
  obtain ⟨b0, b1, b2, b3, b4, rfl⟩ := five h3
  have hdc : (dCells ⟨kd, rl, [b0, b1, b2, b3, b4], tg, wt⟩).toArray = #[.int .u8 (kd : Int), .int .u8 (rl : Int), .int .u16 (b0 : Int), .int .u16 (b1 : Int), .int .u16 (b2 : Int), .int .u16 (b3 : Int), .int .u16 (b4 : Int), .int .i32 tg, .int .u16 (wt : Int)] := rfl
  rw [hdc]
  clear hdc
  have hD := (Below.heap_alloc (w.alloc (.cells #[.int .u8 (kd : Int), .int .u8 (rl : Int), .int .u16 (b0 : Int), .int .u16 (b1 : Int), .int .u16 (b2 : Int), .int .u16 (b3 : Int), .int .u16 (b4 : Int), .int .i32 tg, .int .u16 (wt : Int)] 56)) (.cells #[.string { data := #[] }, .int .i64 0, .int .i64 0, .int .i64 0, .int .i64 0, .int .i64 0, .int .i64 0, .int .i64 0, .int .i64 0] 50) w.heap.size (by simp)).trans (heap_alloc_new w (.cells #[.int .u8 (kd : Int), .int .u8 (rl : Int), .int .u16 (b0 : Int), .int .u16 (b1 : Int), .int .u16 (b2 : Int), .int .u16 (b3 : Int), .int .u16 (b4 : Int), .int .i32 tg, .int .u16 (wt : Int)] 56))
  have hT := heap_alloc_new (w.alloc (.cells #[.int .u8 (kd : Int), .int .u8 (rl : Int), .int .u16 (b0 : Int), .int .u16 (b1 : Int), .int .u16 (b2 : Int), .int .u16 (b3 : Int), .int .u16 (b4 : Int), .int .i32 tg, .int .u16 (wt : Int)] 56)) (.cells #[.string { data := #[] }, .int .i64 0, .int .i64 0, .int .i64 0, .int .i64 0, .int .i64 0, .int .i64 0, .int .i64 0, .int .i64 0] 50)
  rw [size_alloc] at hT
  have hbw := ((Below.refl w.heap.size w).alloc (Nat.le_refl _) (.cells #[.int .u8 (kd : Int), .int .u8 (rl : Int), .int .u16 (b0 : Int), .int .u16 (b1 : Int), .int .u16 (b2 : Int), .int .u16 (b3 : Int), .int .u16 (b4 : Int), .int .i32 tg, .int .u16 (wt : Int)] 56)).alloc (by simp) (.cells #[.string { data := #[] }, .int .i64 0, .int .i64 0, .int .i64 0, .int .i64 0, .int .i64 0, .int .i64 0, .int .i64 0, .int .i64 0] 50)
  have HD := Lib.hid hD; have HT := Lib.hid hT; have Hbw := Lib.hid hbw
  clear hD hT hbw
  go_enter Tryz.func25, Tryz.ntmps25
  go_wp2_with fail
  generalize ((w.alloc (.cells #[.int .u8 (kd : Int), .int .u8 (rl : Int), .int .u16 (b0 : Int), .int .u16 (b1 : Int), .int .u16 (b2 : Int), .int .u16 (b3 : Int), .int .u16 (b4 : Int), .int .i32 tg, .int .u16 (wt : Int)] 56)).alloc (.cells #[.string { data := #[] }, .int .i64 0, .int .i64 0, .int .i64 0, .int .i64 0, .int .i64 0, .int .i64 0, .int .i64 0, .int .i64 0] 50)) = w2 at *
  have hDl := lt_of_block HD.out
  have hTl := lt_of_block HT.out
  have c0 : w2.cell? ⟨w.heap.size, 0, none⟩ = some (.int .u8 (kd : Int)) := obj_cell HD.out 0
  have c1 : w2.cell? ⟨w.heap.size, 1, none⟩ = some (.int .u8 (rl : Int)) := obj_cell HD.out 1
  have c7 : w2.cell? ⟨w.heap.size, 7, none⟩ = some (.int .i32 tg) := obj_cell HD.out 7
  refine wp_region_floats 18 [] [(17, 3, .cells #[.string { data := #[] }, .int .i64 0, .int .i64 0, .int .i64 0, .int .i64 0, .int .i64 0, .int .i64 0, .int .i64 0, .int .i64 0] 50)] [(1, true), (2, true), (3, true), (4, true), (7, true), (8, true), (9, true), (10, true), (11, true), (12, true), (13, true), (14, true), (15, true), (0, false), (5, true), (6, true), (16, true)] (by kernel_rfl) (by kernel_rfl) ⟨by simp, by simp, by (simp only [List.forall_mem_cons]; exact ⟨⟨by omega, _, rfl, rfl, rfl, fun _ _ => rfl⟩, fun _ h => by cases h⟩)⟩ (fun _ _ _ _ _ h => h) (fun _ _ o _ _ h => by cases o <;> exact h) ?_
  iterate 13
    refine wpG_yield (v := ?_) rfl rfl (by rfl) ?_ ?_
    rotate_left
    · intro y hy
      have z0 := (hy.cell (p := ⟨w.heap.size, 0, none⟩) hDl).trans c0
      have z1 := (hy.cell (p := ⟨w.heap.size, 1, none⟩) hDl).trans c1
      have z7 := (hy.cell (p := ⟨w.heap.size, 7, none⟩) hDl).trans c7
      go_simp
      with_reducible rfl
    try simp only [Act.put, List.setIfInBounds_toArray, List.set_cons_zero, List.set_cons_succ]
  have q1 : (IntKind.i64.wrap (kd : Int)).tmod 24 = ((kd % 24 : Nat) : Int) := by
    rw [show IntKind.i64.wrap (kd : Int) = (kd : Int) from IntWalk.i64_in _ (by omega)]; rfl
  have q2 : IntKind.i64.wrap (1 + IntKind.i64.wrap (Int.tmod (rl : Int) 3)) = 1 + ((rl % 3 : Nat) : Int) := by
    rw [show Int.tmod (rl : Int) 3 = ((rl % 3 : Nat) : Int) from rfl, show IntKind.i64.wrap ((rl % 3 : Nat) : Int) = ((rl % 3 : Nat) : Int) from IntWalk.i64_in _ (by omega)]
    exact IntWalk.i64_in _ (by omega)
  have q3 : IntKind.i64.wrap (IntKind.i64.wrap tg * 10) = tg * 10 := by
    rw [show IntKind.i64.wrap tg = tg from IntWalk.i64_in _ (by omega)]
    exact IntWalk.i64_in _ (by omega)
  rw [q1, q2, q3]
  clear q1 q2 q3 c0 c1 c7
  have hop : opdOf ⟨kd, rl, [b0, b1, b2, b3, b4], tg, wt⟩ = ⟨(kindTab.getD (kd % 24) ([], [])).1, pad5 (argsD (kindTab.getD (kd % 24) ([], [])).2 [b0, b1, b2, b3, b4]), 1 + ((rl % 3 : Nat) : Int), tg * 10, if rl % 3 = 0 then 1 + ((wt % 1000 : Nat) : Int) else 0⟩ := rfl
  have hent : kindTab.getD (kd % 24) ([], []) ∈ kindTab := entry_mem ⟨kd, rl, [b0, b1, b2, b3, b4], tg, wt⟩
  have hnm : (strCs (kindTab.map (·.1)))[kd % 24]? = some (.string (bs (kindTab.getD (kd % 24) ([], [])).1)) := by
    have h : kd % 24 < kindTab.length := Nat.mod_lt _ (by decide)
    simp [strCs, List.getD_eq_getElem?_getD, List.getElem?_eq_getElem h]
  have hm24 : kd % 24 < 24 := Nat.mod_lt _ (by omega)
  have Hop := Lib.hid hop
  have Hnm := Lib.hid hnm
  clear hop hnm
  generalize kindTab.getD (kd % 24) ([], []) = ent at *
  generalize kd % 24 = m at *
  obtain ⟨nm, ks⟩ := ent
  obtain ⟨hk1, hk2, hk3⟩ := entry_kinds _ hent
  simp only at hk1 hk2 hk3 Hnm Hop
  refine wpG_step rfl rfl (fun x1 hx1 K hK => ?_)
  go_simp
  have hx1' : Below w2.heap.size w2 x1 := below_undrew (k := 1) hx1
  refine (names33_any _).mono ?_
  rintro e w3 ⟨rfl, rfl⟩
  have hb2 := (Below.refl x1.heap.size x1).alloc (Nat.le_refl _) (.cells (strCs (kindTab.map (·.1))).toArray 9)
  have hnb := heap_alloc_new x1 (.cells (strCs (kindTab.map (·.1))).toArray 9)
  have hnl : x1.heap.size < (x1.alloc (.cells (strCs (kindTab.map (·.1))).toArray 9)).heap.size := by simp
  refine hK _ _ hb2 ?_
  clear hK K
  have Hx2 := Lib.hid (hx1'.trans (hb2.mono hx1'.size)); have Hnb := Lib.hid hnb
  clear hx1 hx1' hb2 hnb
  generalize (x1.alloc (.cells (strCs (kindTab.map (·.1))).toArray 9)) = w3 at *
  generalize x1.heap.size = nb at *
  have cn : w3.cell? ⟨nb, m, none⟩ = some (.string (bs nm)) := by
    rw [obj_cell Hnb.out m]
    simpa using Hnm.out
  try simp only [Act.put, List.setIfInBounds_toArray, List.set_cons_zero, List.set_cons_succ]
  iterate 3
    refine wpG_yield (v := ?_) rfl rfl (by rfl) ?_ ?_
    rotate_left
    · intro y hy
      have z0 := (hy.cell (p := ⟨nb, m, none⟩) hnl).trans cn
      go_simp
      try rw [if_pos (show (m : Int) < 24 by omega)]
      all_goals with_reducible rfl
    try simp only [Act.put, List.setIfInBounds_toArray, List.set_cons_zero, List.set_cons_succ]
  refine wpG_nil1 rfl (fun X w4 hX1 hX3 hcell => ?_)
  try simp only [Act.put, List.setIfInBounds_toArray, List.set_cons_zero, List.set_cons_succ]
  obtain ⟨R, hR⟩ : ∃ R : Int, R = 1 + (rl : Int) % 3 := ⟨_, rfl⟩
  rw [← hR]
  have hx3 : Below w2.heap.size w2 w4 := Hx2.out.trans (hX3.mono Hx2.out.size)
  have hXg : w2.heap.size ≤ X := by
    have h1 := hX1.1
    have h2 := Hx2.out.size
    omega
  have hD4 := (hx3.block w.heap.size hDl).trans HD.out
  have hT4 := (hx3.block (w.heap.size + 1) hTl).trans HT.out
  have hb4 := Hbw.out.trans (hx3.mono Hbw.out.size)
  have hlX := lt_of_block hcell
  have hne1 : X ≠ w.heap.size := by omega
  have hne2 : X ≠ w.heap.size + 1 := by omega
  have S1 := Lib.hid (opd_stored (nm := nm) (a0 := 0) (a1 := 0) (a2 := 0) (a3 := 0) (a4 := 0) (rel := R) (tg := tg * 10) (wt := 0) hcell)
  have S2 := Lib.hid (other_stored (nm := nm) (a0 := 0) (a1 := 0) (a2 := 0) (a3 := 0) (a4 := 0) (rel := R) (tg := tg * 10) (wt := 0) hD4 hne1)
  have S3 := Lib.hid (other_stored (nm := nm) (a0 := 0) (a1 := 0) (a2 := 0) (a3 := 0) (a4 := 0) (rel := R) (tg := tg * 10) (wt := 0) hT4 hne2)
  have s4 : Below w.heap.size w (W9 w4 X nm 0 0 0 0 0 R (tg * 10) 0) := below_stored (nm := nm) (a0 := 0) (a1 := 0) (a2 := 0) (a3 := 0) (a4 := 0) (rel := R) (tg := tg * 10) (wt := 0) hb4 (by omega)
  have S4 := Lib.hid s4
  have HC := Lib.hid hcell
  clear s4 hD4 hT4 hb4 hx3 hX3 hcell HD HT Hbw Hx2 Hnb Hnm cn hX1
  refine wpL_store_op (nm := nm) (a0 := 0) (a1 := 0) (a2 := 0) (a3 := 0) (a4 := 0) (rel := R) (tg := tg * 10) (wt := 0) HC.out rfl rfl (.tmp 3) (.tmp 24) rfl rfl rfl ?_
  refine step_list (fun wx => XB wx X nm [] R (tg * 10) 0 ∧ wx.heap[w.heap.size]? = some (.cells #[.int .u8 (kd : Int), .int .u8 (rl : Int), .int .u16 (b0 : Int), .int .u16 (b1 : Int), .int .u16 (b2 : Int), .int .u16 (b3 : Int), .int .u16 (b4 : Int), .int .i32 tg, .int .u16 (wt : Int)] 56 (0, 0)) ∧ wx.heap[w.heap.size + 1]? = some (.cells #[.string { data := #[] }, .int .i64 0, .int .i64 0, .int .i64 0, .int .i64 0, .int .i64 0, .int .i64 0, .int .i64 0, .int .i64 0] 50 (0, 0)) ∧ Below w.heap.size w wx) ⟨S1.out, S2.out, S3.out, S4.out⟩ ?_
  rintro w5 ⟨s1, s2, s3, s4⟩
  clear S1 S2 S3 S4 HC
  have hlX5 := lt_of_block s1
  have hlD5 := lt_of_block s2
  have hlT5 := lt_of_block s3
  have HX := Lib.hid s1; have HD := Lib.hid s2; have HT := Lib.hid s3; have HB := Lib.hid s4
  have cnm : w5.cell? ⟨X, 0, none⟩ = some (.string (bs nm)) := obj_cell s1 0
  clear s1 s2 s3 s4
  go_wp2_with fail
  refine (kinds33_any nm _).mono ?_
  rintro e w6 ⟨rfl, rfl⟩
  have hkl : kLet nm = ks.map letOf := by unfold kLet; rw [hk1]; rfl
  rw [hkl, hk1]
  clear hkl cnm
  go_wp2_with fail
  have hR3 : R = 1 ∨ R = 2 ∨ R = 3 := by omega
  have hal := argsD_len ks [b0, b1, b2, b3, b4] hk2
  have HR := Lib.hid hR
  clear hR
  have hA : ∀ i, i < ks.length → (argsD ks [b0, b1, b2, b3, b4])[i]? = some (argOf (ks.getD i 0) ([b0, b1, b2, b3, b4].getD i 0)) := fun i hi => argsD_at ks _ i hi (by simp; omega)
  have hAb : ∀ i, [b0, b1, b2, b3, b4].getD i 0 < 65536 := by
    intro i
    rw [List.getD_eq_getElem?_getD]
    cases hg : [b0, b1, b2, b3, b4][i]? with
    | none => simp
    | some a => exact h4 a (List.mem_of_getElem? hg)
  have hAc : ∀ (wx : World), wx.heap[w.heap.size]? = some (.cells #[.int .u8 (kd : Int), .int .u8 (rl : Int), .int .u16 (b0 : Int), .int .u16 (b1 : Int), .int .u16 (b2 : Int), .int .u16 (b3 : Int), .int .u16 (b4 : Int), .int .i32 tg, .int .u16 (wt : Int)] 56 (0, 0)) → ∀ i, i < 5 → wx.cell? ⟨w.heap.size, 2 + i, none⟩ = some (.int .u16 (([b0, b1, b2, b3, b4].getD i 0 : Nat) : Int)) := by
    intro wx hwx i hi
    rw [obj_cell hwx (2 + i)]
    have hw : i = 0 ∨ i = 1 ∨ i = 2 ∨ i = 3 ∨ i = 4 := by omega
    rcases hw with rfl | rfl | rfl | rfl | rfl <;> rfl
  have HA := Lib.hid hA; have HAb := Lib.hid hAb; have HAc := Lib.hid hAc; have Hk3 := Lib.hid hk3; have H4 := Lib.hid h4
  clear hA hAb hAc hk3 h4
  generalize hAD : argsD ks [b0, b1, b2, b3, b4] = AD at *
  go_loopw [6] (fun iv wr => ∃ i : Nat, i ≤ ks.length ∧ iv = .int .i64 (i : Int) ∧ XB wr X nm (AD.take i) R (tg * 10) 0 ∧ wr.heap[w.heap.size]? = some (.cells #[.int .u8 (kd : Int), .int .u8 (rl : Int), .int .u16 (b0 : Int), .int .u16 (b1 : Int), .int .u16 (b2 : Int), .int .u16 (b3 : Int), .int .u16 (b4 : Int), .int .i32 tg, .int .u16 (wt : Int)] 56 (0, 0)) ∧ wr.heap[w.heap.size + 1]? = some (.cells #[.string { data := #[] }, .int .i64 0, .int .i64 0, .int .i64 0, .int .i64 0, .int .i64 0, .int .i64 0, .int .i64 0, .int .i64 0] 50 (0, 0)) ∧ Below w.heap.size w wr) (fun iv _ => ks.length - (intOf iv).toNat)
  case atStart => exact ⟨0, Nat.zero_le _, rfl, HX.out, HD.out, HT.out, HB.out⟩
  case round =>
    obtain ⟨i, hi, rfl, hx, hDr, hTr, hb⟩ := hrel
    have hlX6 := lt_of_block hx
    have HXr := Lib.hid hx; have HDr := Lib.hid hDr; have HTr := Lib.hid hTr; have Hbr := Lib.hid hb
    clear hx hDr hTr hb HX HD HT HB
    by_cases hil : i < ks.length
    · have hi5 : i < 5 := by omega
      have hci := HAc.out _ HDr.out i hi5
      have hab := HAb.out i
      have hai := HA.out i hil
      have hwrp : IntKind.i64.wrap (([b0, b1, b2, b3, b4].getD i 0 : Nat) : Int) = (([b0, b1, b2, b3, b4].getD i 0 : Nat) : Int) := IntWalk.i64_in _ (by omega)
      have hkk : 1 ≤ ks.getD i 0 ∧ ks.getD i 0 ≤ 8 := by
        rw [List.getD_eq_getElem?_getD, List.getElem?_eq_getElem hil]
        exact Hk3.out _ (List.getElem_mem hil)
      have hget : ∀ h, (bs (ks.map letOf))[i]'h = letOf (ks.getD i 0) := by
        intro h
        show (ks.map letOf).toArray[i] = _
        simp [List.getD_eq_getElem?_getD, List.getElem?_eq_getElem hil]
      have hbsz : i < (bs (ks.map letOf)).size := by show i < (ks.map letOf).length; simpa using hil
      have hcx := HXr.out.cell (by rw [List.length_take]; omega) i hi5
      have hfx := obj_free HXr.out (1 + i)
      have Hai := Lib.hid hai; have Hkk := Lib.hid hkk; have Hget := Lib.hid hget
      clear hai hkk hget
      generalize [b0, b1, b2, b3, b4].getD i 0 = a at *
      go_upto_region 8 with fail
      simp only [Hget.out]
      have hkk := Hkk.out
      have hALi := (List.getElem?_eq_some_iff.1 Hai.out).1
      have hlen : (AD.take i).length = i := by rw [List.length_take]; omega
      have Hlen := Lib.hid hlen
      clear Hget Hkk hlen hci hbsz
      generalize ks.getD i 0 = k at *
      have hks : k = 1 ∨ k = 2 ∨ k = 3 ∨ k = 4 ∨ k = 5 ∨ k = 6 ∨ k = 7 ∨ k = 8 := by omega
      clear hkk
      rcases hks with rfl | rfl | rfl | rfl | rfl | rfl | rfl | rfl
      · have hs := HXr.out.store (by rw [Hlen.out]; exact hi5) (argOf 1 a)
        rw [Hlen.out] at hs
        have Hs := Lib.hid hs; clear hs
        rw [show letOf 1 = 119 from rfl]
        go_wp2_with fail
        go_roundw
        case rel => exact ⟨i + 1, by omega, by go_num, by rw [take_next Hai.out]; exact Hs.out, obj_other HDr.out ⟨X, 1 + i, none⟩ hne1 _, obj_other HTr.out ⟨X, 1 + i, none⟩ hne2 _, Hbr.out.setCell (p := ⟨X, 1 + i, none⟩) (by show w.heap.size ≤ X; omega) _⟩
        case measure => simp [intOf]; omega
      · have hs := HXr.out.store (by rw [Hlen.out]; exact hi5) (argOf 2 a)
        rw [Hlen.out] at hs
        have Hs := Lib.hid hs; clear hs
        rw [show letOf 2 = 102 from rfl]
        go_wp2_with fail
        go_roundw
        case rel => exact ⟨i + 1, by omega, by go_num, by rw [take_next Hai.out]; exact Hs.out, obj_other HDr.out ⟨X, 1 + i, none⟩ hne1 _, obj_other HTr.out ⟨X, 1 + i, none⟩ hne2 _, Hbr.out.setCell (p := ⟨X, 1 + i, none⟩) (by show w.heap.size ≤ X; omega) _⟩
        case measure => simp [intOf]; omega
      · have hs := HXr.out.store (by rw [Hlen.out]; exact hi5) (argOf 3 a)
        rw [Hlen.out] at hs
        have Hs := Lib.hid hs; clear hs
        rw [show letOf 3 = 115 from rfl]
        go_wp2_with fail
        go_roundw
        case rel => exact ⟨i + 1, by omega, by go_num, by rw [take_next Hai.out]; exact Hs.out, obj_other HDr.out ⟨X, 1 + i, none⟩ hne1 _, obj_other HTr.out ⟨X, 1 + i, none⟩ hne2 _, Hbr.out.setCell (p := ⟨X, 1 + i, none⟩) (by show w.heap.size ≤ X; omega) _⟩
        case measure => simp [intOf]; omega
      · have hs := HXr.out.store (by rw [Hlen.out]; exact hi5) (argOf 4 a)
        rw [Hlen.out] at hs
        have Hs := Lib.hid hs; clear hs
        rw [show letOf 4 = 112 from rfl]
        go_wp2_with fail
        go_roundw
        case rel => exact ⟨i + 1, by omega, by go_num, by rw [take_next Hai.out]; exact Hs.out, obj_other HDr.out ⟨X, 1 + i, none⟩ hne1 _, obj_other HTr.out ⟨X, 1 + i, none⟩ hne2 _, Hbr.out.setCell (p := ⟨X, 1 + i, none⟩) (by show w.heap.size ≤ X; omega) _⟩
        case measure => simp [intOf]; omega
      · have hs := HXr.out.store (by rw [Hlen.out]; exact hi5) (argOf 5 a)
        rw [Hlen.out] at hs
        have Hs := Lib.hid hs; clear hs
        rw [show letOf 5 = 103 from rfl]
        go_wp2_with fail
        go_roundw
        case rel => exact ⟨i + 1, by omega, by go_num, by rw [take_next Hai.out]; exact Hs.out, obj_other HDr.out ⟨X, 1 + i, none⟩ hne1 _, obj_other HTr.out ⟨X, 1 + i, none⟩ hne2 _, Hbr.out.setCell (p := ⟨X, 1 + i, none⟩) (by show w.heap.size ≤ X; omega) _⟩
        case measure => simp [intOf]; omega
      · have hs := HXr.out.store (by rw [Hlen.out]; exact hi5) (argOf 6 a)
        rw [Hlen.out] at hs
        have Hs := Lib.hid hs; clear hs
        rw [show letOf 6 = 113 from rfl]
        go_wp2_with fail
        go_roundw
        case rel => exact ⟨i + 1, by omega, by go_num, by rw [take_next Hai.out]; exact Hs.out, obj_other HDr.out ⟨X, 1 + i, none⟩ hne1 _, obj_other HTr.out ⟨X, 1 + i, none⟩ hne2 _, Hbr.out.setCell (p := ⟨X, 1 + i, none⟩) (by show w.heap.size ≤ X; omega) _⟩
        case measure => simp [intOf]; omega
      · have hs := HXr.out.store (by rw [Hlen.out]; exact hi5) (argOf 7 a)
        rw [Hlen.out] at hs
        have Hs := Lib.hid hs; clear hs
        rw [show letOf 7 = 104 from rfl]
        go_wp2_with fail
        go_roundw
        case rel => exact ⟨i + 1, by omega, by go_num, by rw [take_next Hai.out]; exact Hs.out, obj_other HDr.out ⟨X, 1 + i, none⟩ hne1 _, obj_other HTr.out ⟨X, 1 + i, none⟩ hne2 _, Hbr.out.setCell (p := ⟨X, 1 + i, none⟩) (by show w.heap.size ≤ X; omega) _⟩
        case measure => simp [intOf]; omega
      · have hs := HXr.out.store (by rw [Hlen.out]; exact hi5) (argOf 8 a)
        rw [Hlen.out] at hs
        have Hs := Lib.hid hs; clear hs
        rw [show letOf 8 = 117 from rfl]
        go_wp2_with fail
        go_roundw
        case rel => exact ⟨i + 1, by omega, by go_num, by rw [take_next Hai.out]; exact Hs.out, obj_other HDr.out ⟨X, 1 + i, none⟩ hne1 _, obj_other HTr.out ⟨X, 1 + i, none⟩ hne2 _, Hbr.out.setCell (p := ⟨X, 1 + i, none⟩) (by show w.heap.size ≤ X; omega) _⟩
        case measure => simp [intOf]; omega
    · obtain rfl : i = ks.length := by omega
      have hfull : AD.take ks.length = AD := List.take_of_length_le (by rw [← hAD]; exact argsD_le _ _)
      have hxf := HXr.out
      rw [hfull] at hxf
      obtain ⟨a0, a1, a2, a3, a4, h5'⟩ := five (pad5_len hal)
      have hx6 : wr.heap[X]? = some (.cells #[.string (bs nm), .int .i64 a0, .int .i64 a1, .int .i64 a2, .int .i64 a3, .int .i64 a4, .int .i64 R, .int .i64 (tg * 10), .int .i64 0] 50 (0, 0)) := by
        have := hxf
        unfold XB xCells at this
        rw [h5'] at this
        exact this
      have Hx6 := Lib.hid hx6; have H5 := Lib.hid h5'
      have c6 : wr.cell? ⟨X, 6, none⟩ = some (.int .i64 R) := obj_cell hx6 6
      clear hxf hx6 h5' HXr hfull
      rcases hR3 with rfl | rfl | rfl
      · have c8 : wr.cell? ⟨X, 8, none⟩ = some (.int .i64 0) := obj_cell Hx6.out 8
        have f8 := obj_free Hx6.out 8
        have d8 : wr.cell? ⟨w.heap.size, 8, none⟩ = some (.int .u16 (wt : Int)) := obj_cell HDr.out 8
        go_upto_region 25 with fail
        have hx7 := obj_setCell Hx6.out 8 (.int .i64 (1 + (wt : Int) % 1000))
        have hT7 := obj_other HTr.out ⟨X, 8, none⟩ hne2 (.int .i64 (1 + (wt : Int) % 1000))
        have hb7 := Hbr.out.setCell (p := ⟨X, 8, none⟩) (by show w.heap.size ≤ X; omega) (.int .i64 (1 + (wt : Int) % 1000))
        clear c6 c8 f8 d8
        generalize (wr.setCell ⟨X, 8, none⟩ (.int .i64 (1 + (wt : Int) % 1000))) = w7 at *
        have s0 := obj_cell hx7 0; have s1 := obj_cell hx7 1; have s2 := obj_cell hx7 2; have s3 := obj_cell hx7 3; have s4 := obj_cell hx7 4; have s5 := obj_cell hx7 5; have s6 := obj_cell hx7 6; have s7 := obj_cell hx7 7; have s8 := obj_cell hx7 8
        have S1 := Lib.hid (opd_stored (nm := nm) (a0 := a0) (a1 := a1) (a2 := a2) (a3 := a3) (a4 := a4) (rel := 1) (tg := tg * 10) (wt := 1 + (wt : Int) % 1000) hT7)
        have st : Below w.heap.size w (W9 w7 (w.heap.size + 1) nm a0 a1 a2 a3 a4 1 (tg * 10) (1 + (wt : Int) % 1000)) := below_stored (nm := nm) (a0 := a0) (a1 := a1) (a2 := a2) (a3 := a3) (a4 := a4) (rel := 1) (tg := tg * 10) (wt := 1 + (wt : Int) % 1000) hb7 (by omega)
        have S2 := Lib.hid st
        have HT7 := Lib.hid hT7
        clear st hx7 hT7 hb7 Hx6 HTr HDr Hbr
        have hq : rl % 3 = 0 := by have := HR.out; omega
        have hval : opV (opdOf ⟨kd, rl, [b0, b1, b2, b3, b4], tg, wt⟩) = .agg #[.string (bs nm), .int .i64 a0, .int .i64 a1, .int .i64 a2, .int .i64 a3, .int .i64 a4, .int .i64 1, .int .i64 (tg * 10), .int .i64 (1 + (wt : Int) % 1000)] := by
          rw [Hop.out, if_pos hq, show (1 : Int) + ((rl % 3 : Nat) : Int) = 1 by have := HR.out; omega]
          exact opV_pad H5.out
        have Hval := Lib.hid hval; clear hval hq
        go_wp2_with (refine wpL_store_op (nm := nm) (a0 := a0) (a1 := a1) (a2 := a2) (a3 := a3) (a4 := a4) (rel := 1) (tg := tg * 10) (wt := 1 + (wt : Int) % 1000) HT7.out rfl rfl (.tmp 2) (.tmp 109) rfl rfl rfl ?_; refine step_list (fun wx => OpdB wx (w.heap.size + 1) nm a0 a1 a2 a3 a4 1 (tg * 10) (1 + (wt : Int) % 1000) ∧ Below w.heap.size w wx) ⟨S1.out, S2.out⟩ ?_; rintro wx ⟨t1, t2⟩; have T1 := Lib.hid t1; have T2 := Lib.hid t2; clear t1 t2)
        exact bodyPost_ret (ret_opd rfl rfl T1.out) rfl ⟨by rw [Hval.out], T2.out⟩
      · go_upto_region 25 with fail
        have hx7 := Hx6.out
        have hT7 := HTr.out
        have hb7 := Hbr.out
        have s0 := obj_cell hx7 0; have s1 := obj_cell hx7 1; have s2 := obj_cell hx7 2; have s3 := obj_cell hx7 3; have s4 := obj_cell hx7 4; have s5 := obj_cell hx7 5; have s6 := obj_cell hx7 6; have s7 := obj_cell hx7 7; have s8 := obj_cell hx7 8
        have S1 := Lib.hid (opd_stored (nm := nm) (a0 := a0) (a1 := a1) (a2 := a2) (a3 := a3) (a4 := a4) (rel := 2) (tg := tg * 10) (wt := 0) hT7)
        have st : Below w.heap.size w (W9 wr (w.heap.size + 1) nm a0 a1 a2 a3 a4 2 (tg * 10) (0)) := below_stored (nm := nm) (a0 := a0) (a1 := a1) (a2 := a2) (a3 := a3) (a4 := a4) (rel := 2) (tg := tg * 10) (wt := 0) hb7 (by omega)
        have S2 := Lib.hid st
        have HT7 := Lib.hid hT7
        clear st hx7 hT7 hb7 Hx6 HTr HDr Hbr
        have hq : rl % 3 ≠ 0 := by have := HR.out; omega
        have hval : opV (opdOf ⟨kd, rl, [b0, b1, b2, b3, b4], tg, wt⟩) = .agg #[.string (bs nm), .int .i64 a0, .int .i64 a1, .int .i64 a2, .int .i64 a3, .int .i64 a4, .int .i64 2, .int .i64 (tg * 10), .int .i64 (0)] := by
          rw [Hop.out, if_neg hq, show (1 : Int) + ((rl % 3 : Nat) : Int) = 2 by have := HR.out; omega]
          exact opV_pad H5.out
        have Hval := Lib.hid hval; clear hval hq
        go_wp2_with (refine wpL_store_op (nm := nm) (a0 := a0) (a1 := a1) (a2 := a2) (a3 := a3) (a4 := a4) (rel := 2) (tg := tg * 10) (wt := 0) HT7.out rfl rfl (.tmp 2) (.tmp 109) rfl rfl rfl ?_; refine step_list (fun wx => OpdB wx (w.heap.size + 1) nm a0 a1 a2 a3 a4 2 (tg * 10) (0) ∧ Below w.heap.size w wx) ⟨S1.out, S2.out⟩ ?_; rintro wx ⟨t1, t2⟩; have T1 := Lib.hid t1; have T2 := Lib.hid t2; clear t1 t2)
        exact bodyPost_ret (ret_opd rfl rfl T1.out) rfl ⟨by rw [Hval.out], T2.out⟩
      · go_upto_region 25 with fail
        have hx7 := Hx6.out
        have hT7 := HTr.out
        have hb7 := Hbr.out
        have s0 := obj_cell hx7 0; have s1 := obj_cell hx7 1; have s2 := obj_cell hx7 2; have s3 := obj_cell hx7 3; have s4 := obj_cell hx7 4; have s5 := obj_cell hx7 5; have s6 := obj_cell hx7 6; have s7 := obj_cell hx7 7; have s8 := obj_cell hx7 8
        have S1 := Lib.hid (opd_stored (nm := nm) (a0 := a0) (a1 := a1) (a2 := a2) (a3 := a3) (a4 := a4) (rel := 3) (tg := tg * 10) (wt := 0) hT7)
        have st : Below w.heap.size w (W9 wr (w.heap.size + 1) nm a0 a1 a2 a3 a4 3 (tg * 10) (0)) := below_stored (nm := nm) (a0 := a0) (a1 := a1) (a2 := a2) (a3 := a3) (a4 := a4) (rel := 3) (tg := tg * 10) (wt := 0) hb7 (by omega)
        have S2 := Lib.hid st
        have HT7 := Lib.hid hT7
        clear st hx7 hT7 hb7 Hx6 HTr HDr Hbr
        have hq : rl % 3 ≠ 0 := by have := HR.out; omega
        have hval : opV (opdOf ⟨kd, rl, [b0, b1, b2, b3, b4], tg, wt⟩) = .agg #[.string (bs nm), .int .i64 a0, .int .i64 a1, .int .i64 a2, .int .i64 a3, .int .i64 a4, .int .i64 3, .int .i64 (tg * 10), .int .i64 (0)] := by
          rw [Hop.out, if_neg hq, show (1 : Int) + ((rl % 3 : Nat) : Int) = 3 by have := HR.out; omega]
          exact opV_pad H5.out
        have Hval := Lib.hid hval; clear hval hq
        go_wp2_with (refine wpL_store_op (nm := nm) (a0 := a0) (a1 := a1) (a2 := a2) (a3 := a3) (a4 := a4) (rel := 3) (tg := tg * 10) (wt := 0) HT7.out rfl rfl (.tmp 2) (.tmp 109) rfl rfl rfl ?_; refine step_list (fun wx => OpdB wx (w.heap.size + 1) nm a0 a1 a2 a3 a4 3 (tg * 10) (0) ∧ Below w.heap.size w wx) ⟨S1.out, S2.out⟩ ?_; rintro wx ⟨t1, t2⟩; have T1 := Lib.hid t1; have T2 := Lib.hid t2; clear t1 t2)
        exact bodyPost_ret (ret_opd rfl rfl T1.out) rfl ⟨by rw [Hval.out], T2.out⟩
end Go.Proofs.YtpicmhbjiaegpaaGreatDoor
