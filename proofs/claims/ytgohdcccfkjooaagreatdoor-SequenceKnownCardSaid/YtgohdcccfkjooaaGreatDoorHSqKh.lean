/-
  DERIVED. The walk of SequenceKnown.
-/
import Derived.Test.YtgohdcccfkjooaaGreatDoorGak
namespace Go.Proofs.YtgohdcccfkjooaaGreatDoor
open Go.RowKit

theorem bench_put {W : World} {g : Nat} {T : TypeId} {x x' : LensD} {f v s k f' v' s' k' : Ptr} {j : Nat} {u : Value} (h : BenchB W g T x f v s k) (hc : (cells9 x f v s k).set j u = cells9 x' f' v' s' k') : BenchB (W.setCell ⟨g, j, none⟩ u) g T x' f' v' s' k' := by
  have := obj_setCell h j u
  rw [List.setIfInBounds_toArray, hc] at this
  exact this
theorem put_two {w : World} {g j b : Nat} {u : Value} {o1 o2 o : Obj} (hne : b ≠ g) (h : w.heap[b]? = some o) : (((w.setCell ⟨g, j, none⟩ u).alloc o1).alloc o2).heap[b]? = some o := by
  have hl := lt_of_block h
  exact (alloc_old (by simp; omega)).trans ((alloc_old (by simpa using hl)).trans ((cell_other hne).trans h))
theorem full_len : (textL fullL).length ≤ 100000 := Nat.le_of_ble_eq_true (by kernel_rfl)
theorem stext_full (f v s k : Ptr) (w : World) (hx : LensAt (fun b => b < w.heap.size) w fullD f v s k) (hw : KW w) : Calls Tryz.prog 11 #[lensV fullD f v s k] w (RetB w (.tuple #[.string (bs (textL fullL)), .int .i64 0])) := by
  have h := stext_any fullD f v s k w hx hw.g hw.P hw.T (fun _ => by rw [full_text]; exact Nat.le_trans full_len (by omega))
  have e : textV fullD = .tuple #[.string (bs (textL fullL)), .int .i64 0] := by
    unfold textV
    rw [full_valid, if_pos rfl, if_pos rfl, full_text]
  rwa [e] at h
set_option maxRecDepth 100000 in
set_option maxHeartbeats 8000000 in
theorem known_any (w : World) (hw : KW w) : Calls Tryz.prog 6 #[] w (RetB w (.bool true)) := by
  have Hw := Lib.hid hw; clear hw
  go_enter Tryz.func6, Tryz.ntmps6
  go_wp2_with fail
  refine (works_any w Hw.out).mono ?_
  rintro e w1 ⟨rfl, hb1⟩
  have Hb1 := Lib.hid hb1; clear hb1
  go_wp2_with fail
  refine (flat_any w1).mono ?_
  rintro e w2 ⟨rfl, hf⟩
  have Hf := Lib.hid hf; clear hf
  go_upto_region 4 with (refine wpL_store_lens flatD ⟨some ⟨w1.heap.size + 1, 0, none⟩, 2, 2⟩ ⟨some ⟨w1.heap.size + 2, 0, none⟩, 1, 1⟩ ⟨some ⟨w1.heap.size + 3, 0, none⟩, 2, 2⟩ ptr0 (heap_alloc_new w2 _) rfl rfl (.tmp 1) (.tmp 17) rfl rfl rfl ?_; intro w4 h4 hw4; have hb4 : Below w2.heap.size w2 w4 := (by rw [hw4]; exact below_setCells (Nat.le_refl _) _ _ ((Below.refl _ _).alloc (Nat.le_refl _) _)); have H4 := Lib.hid h4; have Hb4 := Lib.hid hb4; clear h4 hb4 hw4)
  have hsz := Hf.out.sz
  have c1 := obj_cell H4.out 1
  have c4 := obj_cell H4.out 4
  have f1 := obj_free H4.out 1
  have f4 := obj_free H4.out 4
  have Hsz := Lib.hid hsz; clear hsz
  go_upto_region 5 with fail
  refine step_world (fun wx => BenchB wx w2.heap.size 37 { flatD with dist := 1500000, prim := 1 } ⟨some ⟨w1.heap.size + 1, 0, none⟩, 2, 2⟩ ⟨some ⟨w1.heap.size + 2, 0, none⟩, 1, 1⟩ ⟨some ⟨w1.heap.size + 3, 0, none⟩, 2, 2⟩ ptr0 ∧ Below w2.heap.size w2 wx) ⟨bench_put (x := { flatD with dist := 1500000 }) (bench_put (x' := { flatD with dist := 1500000 }) (f' := ⟨some ⟨w1.heap.size + 1, 0, none⟩, 2, 2⟩) (v' := ⟨some ⟨w1.heap.size + 2, 0, none⟩, 1, 1⟩) (s' := ⟨some ⟨w1.heap.size + 3, 0, none⟩, 2, 2⟩) (k' := ptr0) H4.out rfl) rfl, below_cell (below_cell Hb4.out (Nat.le_refl _)) (Nat.le_refl _)⟩ ?_
  clear H4 Hb4 c1 c4 f1 f4
  rintro w5 ⟨h5, hb5⟩
  have c6 := obj_cell h5 6
  have f6 := obj_free h5 6
  have hl5 := h5.lt
  have hnw := heap_alloc_new w5 (.cells #[.int .i64 486133, .int .i64 1, .int .i64 587562, .int .i64 100] 63)
  have hbw : BenchB (w5.alloc (.cells #[.int .i64 486133, .int .i64 1, .int .i64 587562, .int .i64 100] 63)) w2.heap.size 37 { flatD with dist := 1500000, prim := 1 } ⟨some ⟨w1.heap.size + 1, 0, none⟩, 2, 2⟩ ⟨some ⟨w1.heap.size + 2, 0, none⟩, 1, 1⟩ ⟨some ⟨w1.heap.size + 3, 0, none⟩, 2, 2⟩ ptr0 := (alloc_old hl5).trans h5
  have k6 := obj_cell hbw 6
  have g6 := obj_free hbw 6
  have H5 := Lib.hid h5; have Hb5 := Lib.hid hb5
  clear h5 hb5 hbw hnw
  go_upto_region 6 with fail
  refine step_world (fun wx => BenchB wx w2.heap.size 37 fullD ⟨some ⟨w1.heap.size + 1, 0, none⟩, 2, 2⟩ ⟨some ⟨w5.heap.size, 0, none⟩, 2, 2⟩ ⟨some ⟨w1.heap.size + 3, 0, none⟩, 2, 2⟩ ptr0 ∧ wx.heap[w5.heap.size]? = some (.cells #[.int .i64 486133, .int .i64 1, .int .i64 587562, .int .i64 100] 63 (0, 0)) ∧ Below w2.heap.size w2 wx) ⟨(alloc_old (by simpa using hl5)).trans (bench_put H5.out rfl), alloc_at (by simp), (below_cell Hb5.out (Nat.le_refl _)).alloc (by have := Hb5.out.size; simp; omega) _⟩ ?_
  have hne56 : w5.heap.size ≠ w2.heap.size := by omega
  have Hne56 := Lib.hid hne56
  clear H5 Hb5 c6 f6 k6 g6 hl5 hne56
  rintro w6 ⟨h6, hv6, hb6⟩
  have hl6 := h6.lt
  have H6 := Lib.hid h6; have Hv6 := Lib.hid hv6; have Hb6 := Lib.hid hb6; have Hb6s := Lib.hid (show w2.heap.size < w6.heap.size from hl6)
  clear h6 hv6 hb6
  have c7 := obj_cell H6.out 7
  have f7 := obj_free H6.out 7
  have k7 : ∀ o, (w6.alloc o).cell? ⟨w2.heap.size, 7, none⟩ = some (.slice (some ⟨w1.heap.size + 3, 0, none⟩) 2 2) := fun o => ((Below.refl w6.heap.size w6).alloc (Nat.le_refl _) o).cell (p := ⟨w2.heap.size, 7, none⟩) hl6 |>.trans c7
  go_upto_region 7 with fail
  refine step_world (fun wx => BenchB wx w2.heap.size 37 fullD ⟨some ⟨w1.heap.size + 1, 0, none⟩, 2, 2⟩ ⟨some ⟨w5.heap.size, 0, none⟩, 2, 2⟩ ⟨some ⟨w6.heap.size + 1, 0, none⟩, 5, 5⟩ ptr0 ∧ wx.heap[w5.heap.size]? = some (.cells #[.int .i64 486133, .int .i64 1, .int .i64 587562, .int .i64 100] 63 (0, 0)) ∧ wx.heap[w6.heap.size]? = some (.cells #[.int .i64 13800000, .int .i64 1, .int .i64 2, .int .i64 40000000, .int .i64 0, .int .i64 1] 67 (0, 0)) ∧
    wx.heap[w6.heap.size + 1]? = some (.cells (fullCss w6.heap.size).flatten.toArray 70 (0, 0)) ∧ Below w2.heap.size w2 wx)
    ⟨(alloc_old (by simp; omega)).trans ((alloc_old (by simpa using hl6)).trans (bench_put H6.out rfl)), (alloc_old (by have := lt_of_block Hv6.out; simp; omega)).trans ((alloc_old (by have := lt_of_block Hv6.out; simp; omega)).trans ((cell_other (by have := Hb6.out; have := lt_of_block Hv6.out; exact Hne56.out)).trans Hv6.out)), (alloc_old (by simp)).trans (alloc_at (by simp)), alloc_at (by simp), ((below_cell Hb6.out (Nat.le_refl _)).alloc (by have := Hb6.out.size; simp; omega) _).alloc (by have := Hb6.out.size; simp; omega) _⟩ ?_
  clear H6 Hv6 Hb6 c7 f7 k7 hl6
  rintro w7 ⟨h7, hv7, hm7, hs7, hb7⟩
  have hl7 := h7.lt
  have H7 := Lib.hid h7; have Hv7 := Lib.hid hv7; have Hm7 := Lib.hid hm7; have Hs7 := Lib.hid hs7; have Hb7 := Lib.hid hb7
  clear h7 hv7 hm7 hs7 hb7
  have c8 := obj_cell H7.out 8
  have f8 := obj_free H7.out 8
  have k8 : ∀ o, (w7.alloc o).cell? ⟨w2.heap.size, 8, none⟩ = some (.slice none 0 0) := fun o => ((Below.refl w7.heap.size w7).alloc (Nat.le_refl _) o).cell (p := ⟨w2.heap.size, 8, none⟩) hl7 |>.trans c8
  go_upto_region 8 with fail
  refine step_world (fun wx => BenchB wx w2.heap.size 37 fullD ⟨some ⟨w1.heap.size + 1, 0, none⟩, 2, 2⟩ ⟨some ⟨w5.heap.size, 0, none⟩, 2, 2⟩ ⟨some ⟨w6.heap.size + 1, 0, none⟩, 5, 5⟩ ⟨some ⟨w7.heap.size + 1, 0, none⟩, 2, 2⟩ ∧ LensAt (fun b => b < wx.heap.size) wx fullD ⟨some ⟨w1.heap.size + 1, 0, none⟩, 2, 2⟩ ⟨some ⟨w5.heap.size, 0, none⟩, 2, 2⟩ ⟨some ⟨w6.heap.size + 1, 0, none⟩, 5, 5⟩ ⟨some ⟨w7.heap.size + 1, 0, none⟩, 2, 2⟩ ∧ Below w2.heap.size w2 wx)
    ⟨(alloc_old (by simp; omega)).trans ((alloc_old (by simpa using hl7)).trans (bench_put H7.out rfl)),
      full_lens (M := w6.heap.size) (C := w7.heap.size) (put_two (by have := Hsz.out; omega) ((Hb7.out.block _ (by have := Hsz.out; omega)).trans Hf.out.f)) (put_two Hne56.out Hv7.out) (put_two (by have := Hb6s.out; omega) Hm7.out) (put_two (by have := Hb6s.out; omega) Hs7.out) ((alloc_old (by simp)).trans (alloc_at (by simp))) (alloc_at (by simp)),
      ((below_cell Hb7.out (Nat.le_refl _)).alloc (by have := Hb7.out.size; simp; omega) _).alloc (by have := Hb7.out.size; simp; omega) _⟩ ?_
  clear H7 Hv7 Hm7 Hs7 Hb7 c8 f8 k8 hl7
  rintro w8 ⟨h8, hl8, hb8⟩
  have H8 := Lib.hid h8; have HL8 := Lib.hid hl8; have Hb8 := Lib.hid (below_chain (below_chain Hb1.out Hf.out.be) hb8)
  have HK8 := Lib.hid (Hw.out.go (below_chain (below_chain Hb1.out Hf.out.be) hb8))
  clear h8 hl8 hb8
  generalize (⟨some ⟨w1.heap.size + 1, 0, none⟩, 2, 2⟩ : Ptr) = fP at *
  generalize (⟨some ⟨w5.heap.size, 0, none⟩, 2, 2⟩ : Ptr) = vP at *
  generalize (⟨some ⟨w6.heap.size + 1, 0, none⟩, 5, 5⟩ : Ptr) = sP at *
  generalize (⟨some ⟨w7.heap.size + 1, 0, none⟩, 2, 2⟩ : Ptr) = kP at *
  clear Hf Hsz Hne56 Hb6s Hb1 Hw
  go_upto_region 9 with fail
  have hal9 : Below w8.heap.size w8 (w8.alloc (.cells (strCs fullL).toArray 9)) := (Below.refl _ _).alloc (Nat.le_refl _) _
  refine step_world (fun wx => BenchB wx w2.heap.size 37 fullD fP vP sP kP ∧ LensAt (fun b => b < wx.heap.size) wx fullD fP vP sP kP ∧ Below w.heap.size w wx ∧ KW wx ∧ wx.heap[w8.heap.size]? = some (.cells (strCs fullL).toArray 9 (0, 0))) ⟨H8.out.go hal9, HL8.out.go hal9, below_chain Hb8.out hal9, HK8.out.go hal9, heap_alloc_new w8 _⟩ ?_
  clear H8 HL8 Hb8 HK8 hal9
  rintro w9 ⟨h9, hl9, hb9, hk9, hs9⟩
  obtain ⟨T1, hT1⟩ : ∃ T, textL fullL = T := ⟨_, rfl⟩
  have ht := stext_full fP vP sP kP w9 hl9 hk9
  have htx := textN_any fullL w8.heap.size 0 43
  have hr1 : readS T1 = ⟨fullD, 0, 0⟩ := by rw [← hT1]; exact full_read
  have hl1 : T1.length ≤ 100000 := by rw [← hT1]; exact full_len
  have hx9 := fun (W : World) (hb : Below w9.heap.size w9 W) => htx W (fun j x hx => by rw [Nat.zero_add]; exact strCs_at ((hb.block _ (lt_of_block hs9)).trans hs9) j x hx) (Nat.lt_of_lt_of_le (lt_of_block hs9) hb.size) (by decide) (by decide) (by rw [hT1]; exact Nat.le_trans hl1 (by omega)) (by decide)
  rw [hT1] at ht hx9
  unfold lensV at ht
  generalize fullD = D9 at *
  have H9 := Lib.hid h9; have HL9 := Lib.hid hl9; have Hb9 := Lib.hid hb9; have HK9 := Lib.hid hk9; have Ht := Lib.hid ht; have Hx9 := Lib.hid hx9; have Hr1 := Lib.hid hr1; have Hl1 := Lib.hid hl1
  clear h9 hl9 hb9 hk9 hs9 ht htx hx9 hr1 hl1 hT1
  go_wp2_with (refine wpL_load_lens H9.out rfl (.tmp 1) rfl rfl ?_)
  refine Ht.out.mono ?_
  rintro e w10 ⟨rfl, hb10⟩
  have Hb10 := Lib.hid hb10
  clear hb10
  go_upto_region 10 with fail
  go_upto_region 11 with (first
    | (refine (Hx9.out _ Hb10.out).mono ?_; rintro e w11 ⟨rfl, hb11⟩; have Hb11 := Lib.hid (below_chain Hb10.out hb11); clear hb11)
    | (refine wpL_load_lensG (H9.out.go Hb11.out) rfl (.tmp 1) rfl rfl ?_)
    | (refine (reads_any T1 D9 Hr1.out fP vP sP kP _ (HL9.out.go Hb11.out) (HK9.out.go Hb11.out) Hl1.out).mono ?_; rintro e w12 ⟨rfl, hb12⟩; have Hb12 := Lib.hid (below_chain Hb11.out hb12); clear hb12))
  -- the rest (printed by mkSqKh2.py)
  clear H9 HL9 Ht Hx9 Hb10 Hb11 Hr1 Hl1
  go_upto_region 12 with fail
  have hal : Below w12.heap.size w12 (w12.alloc (.cells badCs.flatten.toArray 78)) := (Below.refl _ _).alloc (Nat.le_refl _) _
  refine step_world (fun wx => Below w.heap.size w wx ∧ KW wx ∧ wx.heap[w12.heap.size]? = some (.cells badCs.flatten.toArray 78 (0, 0))) ⟨below_chain (below_chain Hb9.out Hb12.out) hal, HK9.out.go (below_chain Hb12.out hal), heap_alloc_new w12 _⟩ ?_
  clear hal Hb9 HK9 Hb12
  rintro w13 ⟨hb13, hk13, hs13⟩
  have hl13 := lt_of_block hs13
  have Hb13 := Lib.hid hb13; have Hk13 := Lib.hid hk13; have Hs13 := Lib.hid hs13
  clear hb13 hk13 hs13
  generalize w12.heap.size = gB at *
  go_wp2_with fail
  go_loopw [89] (fun iv wr => ∃ k : Nat, k ≤ 24 ∧ iv = .int .i64 (k : Int) ∧ Below w13.heap.size w13 wr) (fun iv _ => 24 - (intOf iv).toNat)
  case atStart => exact ⟨0, by omega, rfl, Below.refl _ _⟩
  case round =>
    obtain ⟨k, hk, rfl, hbw⟩ := hrel
    have Hbw := Lib.hid hbw
    clear hbw
    by_cases hk24 : k < 24
    · obtain ⟨i, s, hbk, hi, hs, hf⟩ := badS_any k hk24
      obtain ⟨c0, c1⟩ := bad_cell ((Hbw.out.block gB hl13).trans Hs13.out) hbk
      have HKr := Lib.hid (Hk13.out.go Hbw.out)
      obtain ⟨P, hP⟩ : ∃ P, putT i [s] = P := ⟨_, rfl⟩
      rw [hP, ← wrap1 hi] at hf
      have hlP : P.length ≤ 100000 := by rw [← hP]; exact Nat.le_trans (put_len1 hi hs) (by omega)
      have Hf := Lib.hid hf; have HP := Lib.hid hP; have HlP := Lib.hid hlP
      clear hf hP hlP hbk hs
      go_upto_region 15 with fail
      refine step_world (fun wx => wx.heap[wr.heap.size]? = some (.cells #[.int .i64 (i : Int), .string (bs s)] 78 (0, 0)) ∧ Below wr.heap.size wr wx) ⟨heap_alloc_new wr _, (Below.refl _ _).alloc (Nat.le_refl _) _⟩ ?_
      clear c0 c1
      rintro wa ⟨ha, hba⟩
      have hla := lt_of_block ha
      have z0 := obj_cell ha 0
      have z1 := obj_cell ha 1
      have Hba := Lib.hid hba
      clear ha hba
      refine wp_region_eager 10 [(0, true), (1, true), (2, true), (3, true), (6, true), (7, true), (8, true), (4, false), (5, false), (9, false)] (by kernel_rfl) (by kernel_rfl) ?_
      iterate 7
        refine wpOrd_yield (v := ?_) rfl (fun _ _ _ h => h) (by rfl) ?_ ?_
        rotate_left
        · intro y hy
          have y0 := (hy.cell (p := ⟨wr.heap.size, 0, none⟩) hla).trans z0
          have y1 := (hy.cell (p := ⟨wr.heap.size, 1, none⟩) hla).trans z1
          go_simp
          with_reducible rfl
        try simp only [Act.put, List.setIfInBounds_toArray, List.set_cons_zero, List.set_cons_succ]
      clear z0 z1
      refine wpOrd_step rfl rfl (fun KK hKK => ?_)
      go_simp
      refine hKK _ _ ((Below.refl _ _).alloc (Nat.le_refl _) _) ?_
      clear hKK KK
      try simp only [Act.put, List.setIfInBounds_toArray, List.set_cons_zero, List.set_cons_succ]
      refine wpOrd_step rfl rfl (fun KK hKK => ?_)
      go_simp
      refine (put_fails i hi [s] wa.drew (by simp) (by simp) P HP.out HlP.out).mono ?_
      rintro e wb ⟨rfl, hbb⟩
      have hb0 : Below wr.heap.size wr wb := Hba.out.trans ((below_undrew (k := 1) (al_chain hbb)).mono Hba.out.size)
      refine hKK _ _ hbb ?_
      clear hKK KK hbb
      try simp only [Act.put, List.setIfInBounds_toArray, List.set_cons_zero, List.set_cons_succ]
      refine wpOrd_step rfl rfl (fun KK hKK => ?_)
      go_simp
      refine (fails_any P (IntKind.i64.wrap ((i : Int) + 1)) 5 Hf.out wb (HKr.out.go hb0) HlP.out).mono ?_
      rintro e wc ⟨rfl, hbc⟩
      refine hKK _ _ hbc ?_
      have hb1 := below_chain hb0 hbc
      have Hb1 := Lib.hid hb1
      clear hKK KK hbc hb0 hb1
      try simp only [Act.put, List.setIfInBounds_toArray, List.set_cons_zero, List.set_cons_succ]
      refine wpOrd_nil rfl ?_
      go_wp2_with fail
      go_roundw
      case rel => exact ⟨k + 1, by omega, by go_num, below_chain Hbw.out Hb1.out⟩
      case measure => simp [intOf]; omega
    · have HK := Lib.hid (Hk13.out.go Hbw.out)
      have HB := Lib.hid (below_chain Hb13.out Hbw.out)
      clear Hk13 Hb13 Hs13 Hbw
      go_wp2_with fail
      obtain ⟨P1, hP1⟩ : ∃ T, putT 5 [[115, 117, 114, 102, 97, 99, 101, 32, 115, 116, 97, 110, 100, 97, 114, 100]] = T := ⟨_, rfl⟩
      have hf1 : failS P1 7 5 := by rw [← hP1]; exact ex_e1
      have hl1 : P1.length ≤ 100000 := by rw [← hP1]; exact Nat.le_of_ble_eq_true (by kernel_rfl)
      refine (put_fails 5 (by omega) [[115, 117, 114, 102, 97, 99, 101, 32, 115, 116, 97, 110, 100, 97, 114, 100]] wr (by decide) (by decide) P1 hP1 hl1).mono ?_
      rintro e ya1 ⟨rfl, hba1⟩
      have hbb1 := al_chain hba1
      have Hf1 := Lib.hid hf1; have Hl1 := Lib.hid hl1; have HKa1 := Lib.hid (HK.out.go hbb1); have HBa1 := Lib.hid (below_chain HB.out hbb1)
      clear hf1 hl1 hP1 hbb1 hba1 HK HB
      have HK := HKa1; have HB := HBa1
      clear HKa1 HBa1
      go_wp2_with fail
      refine (fails_any P1 7 5 Hf1.out ya1 HK.out Hl1.out).mono ?_
      rintro e yb1 ⟨rfl, hbc1⟩
      have HKb1 := Lib.hid (HK.out.go hbc1); have HBb1 := Lib.hid (below_chain HB.out hbc1)
      clear hbc1 HK HB
      have HK := HKb1; have HB := HBb1
      clear HKb1 HBb1
      go_wp2_with fail
      obtain ⟨P2, hP2⟩ : ∃ T, putT 10 [[99, 111, 110, 102, 105, 103]] = T := ⟨_, rfl⟩
      have hf2 : failS P2 11 5 := by rw [← hP2]; exact ex_e2
      have hl2 : P2.length ≤ 100000 := by rw [← hP2]; exact Nat.le_of_ble_eq_true (by kernel_rfl)
      refine (put_fails 10 (by omega) [[99, 111, 110, 102, 105, 103]] yb1 (by decide) (by decide) P2 hP2 hl2).mono ?_
      rintro e ya2 ⟨rfl, hba2⟩
      have hbb2 := al_chain hba2
      have Hf2 := Lib.hid hf2; have Hl2 := Lib.hid hl2; have HKa2 := Lib.hid (HK.out.go hbb2); have HBa2 := Lib.hid (below_chain HB.out hbb2)
      clear hf2 hl2 hP2 hbb2 hba2 HK HB
      have HK := HKa2; have HB := HBa2
      clear HKa2 HBa2
      go_wp2_with fail
      refine (fails_any P2 11 5 Hf2.out ya2 HK.out Hl2.out).mono ?_
      rintro e yb2 ⟨rfl, hbc2⟩
      have HKb2 := Lib.hid (HK.out.go hbc2); have HBb2 := Lib.hid (below_chain HB.out hbc2)
      clear hbc2 HK HB
      have HK := HKb2; have HB := HBb2
      clear HKb2 HBb2
      go_wp2_with fail
      obtain ⟨P3, hP3⟩ : ∃ T, putT 11 [[101, 110, 100], [101, 110, 100]] = T := ⟨_, rfl⟩
      have hf3 : failS P3 13 5 := by rw [← hP3]; exact ex_h1
      have hl3 : P3.length ≤ 100000 := by rw [← hP3]; exact Nat.le_of_ble_eq_true (by kernel_rfl)
      refine (put_fails 11 (by omega) [[101, 110, 100], [101, 110, 100]] yb2 (by decide) (by decide) P3 hP3 hl3).mono ?_
      rintro e ya3 ⟨rfl, hba3⟩
      have hbb3 := al_chain hba3
      have Hf3 := Lib.hid hf3; have Hl3 := Lib.hid hl3; have HKa3 := Lib.hid (HK.out.go hbb3); have HBa3 := Lib.hid (below_chain HB.out hbb3)
      clear hf3 hl3 hP3 hbb3 hba3 HK HB
      have HK := HKa3; have HB := HBa3
      clear HKa3 HBa3
      go_wp2_with fail
      refine (fails_any P3 13 5 Hf3.out ya3 HK.out Hl3.out).mono ?_
      rintro e yb3 ⟨rfl, hbc3⟩
      have HKb3 := Lib.hid (HK.out.go hbc3); have HBb3 := Lib.hid (below_chain HB.out hbc3)
      clear hbc3 HK HB
      have HK := HKb3; have HB := HBb3
      clear HKb3 HBb3
      go_wp2_with fail
      obtain ⟨P4, hP4⟩ : ∃ T, putT 11 [[101, 110, 100], [32], [35, 32, 101, 110, 100], []] = T := ⟨_, rfl⟩
      have hf4 : readS P4 = ⟨flatD, 0, 0⟩ := by rw [← hP4]; exact ex_h2
      have hl4 : P4.length ≤ 100000 := by rw [← hP4]; exact Nat.le_of_ble_eq_true (by kernel_rfl)
      refine (put_fails 11 (by omega) [[101, 110, 100], [32], [35, 32, 101, 110, 100], []] yb3 (by decide) (by decide) P4 hP4 hl4).mono ?_
      rintro e ya4 ⟨rfl, hba4⟩
      have hbb4 := al_chain hba4
      have Hf4 := Lib.hid hf4; have Hl4 := Lib.hid hl4; have HKa4 := Lib.hid (HK.out.go hbb4); have HBa4 := Lib.hid (below_chain HB.out hbb4)
      clear hf4 hl4 hP4 hbb4 hba4 HK HB
      have HK := HKa4; have HB := HBa4
      clear HKa4 HBa4
      go_wp2_with fail
      refine (flat_any ya4).mono ?_
      rintro e yf4 ⟨rfl, hfl4⟩
      have HKf4 := Lib.hid (HK.out.go hfl4.be); have HBf4 := Lib.hid (below_chain HB.out hfl4.be); have Hfl4 := Lib.hid hfl4
      clear hfl4 HK HB
      have HK := HKf4; have HB := HBf4
      clear HKf4 HBf4
      go_wp2_with fail
      refine (reads_any P4 flatD Hf4.out _ _ _ _ yf4 (Hfl4.out.lens.kept (KeptOn.refl _ _) (fun b hb => hb.2)) HK.out Hl4.out).mono ?_
      rintro e yb4 ⟨rfl, hbc4⟩
      have HKb4 := Lib.hid (HK.out.go hbc4); have HBb4 := Lib.hid (below_chain HB.out hbc4)
      clear hbc4 HK HB
      have HK := HKb4; have HB := HBb4
      clear HKb4 HBb4
      go_wp2_with fail
      obtain ⟨P5, hP5⟩ : ∃ T, putT 10 [[115, 117, 114, 102, 97, 99, 101, 32, 115, 116, 97, 110, 100, 97, 114, 100], [99, 111, 110, 102, 105, 103, 32, 97], [99, 117, 114, 118, 32, 49]] = T := ⟨_, rfl⟩
      have hf5 : failS P5 13 5 := by rw [← hP5]; exact ex_h3
      have hl5 : P5.length ≤ 100000 := by rw [← hP5]; exact Nat.le_of_ble_eq_true (by kernel_rfl)
      refine (put_fails 10 (by omega) [[115, 117, 114, 102, 97, 99, 101, 32, 115, 116, 97, 110, 100, 97, 114, 100], [99, 111, 110, 102, 105, 103, 32, 97], [99, 117, 114, 118, 32, 49]] yb4 (by decide) (by decide) P5 hP5 hl5).mono ?_
      rintro e ya5 ⟨rfl, hba5⟩
      have hbb5 := al_chain hba5
      have Hf5 := Lib.hid hf5; have Hl5 := Lib.hid hl5; have HKa5 := Lib.hid (HK.out.go hbb5); have HBa5 := Lib.hid (below_chain HB.out hbb5)
      clear hf5 hl5 hP5 hbb5 hba5 HK HB
      have HK := HKa5; have HB := HBa5
      clear HKa5 HBa5
      go_wp2_with fail
      refine (fails_any P5 13 5 Hf5.out ya5 HK.out Hl5.out).mono ?_
      rintro e yb5 ⟨rfl, hbc5⟩
      have HKb5 := Lib.hid (HK.out.go hbc5); have HBb5 := Lib.hid (below_chain HB.out hbc5)
      clear hbc5 HK HB
      have HK := HKb5; have HB := HBb5
      clear HKb5 HBb5
      go_wp2_with fail
      obtain ⟨P6, hP6⟩ : ∃ T, putT 9 [[99, 117, 114, 118, 32, 48], [116, 104, 105, 99, 107, 32, 49, 48], [104, 111, 108, 101, 32, 48], [111, 114, 100, 101, 114, 32, 48]] = T := ⟨_, rfl⟩
      have hf6 : readS P6 = ⟨flatD, 0, 0⟩ := by rw [← hP6]; exact ex_zero
      have hl6 : P6.length ≤ 100000 := by rw [← hP6]; exact Nat.le_of_ble_eq_true (by kernel_rfl)
      refine (put_fails 9 (by omega) [[99, 117, 114, 118, 32, 48], [116, 104, 105, 99, 107, 32, 49, 48], [104, 111, 108, 101, 32, 48], [111, 114, 100, 101, 114, 32, 48]] yb5 (by decide) (by decide) P6 hP6 hl6).mono ?_
      rintro e ya6 ⟨rfl, hba6⟩
      have hbb6 := al_chain hba6
      have Hf6 := Lib.hid hf6; have Hl6 := Lib.hid hl6; have HKa6 := Lib.hid (HK.out.go hbb6); have HBa6 := Lib.hid (below_chain HB.out hbb6)
      clear hf6 hl6 hP6 hbb6 hba6 HK HB
      have HK := HKa6; have HB := HBa6
      clear HKa6 HBa6
      go_wp2_with fail
      refine (flat_any ya6).mono ?_
      rintro e yf6 ⟨rfl, hfl6⟩
      have HKf6 := Lib.hid (HK.out.go hfl6.be); have HBf6 := Lib.hid (below_chain HB.out hfl6.be); have Hfl6 := Lib.hid hfl6
      clear hfl6 HK HB
      have HK := HKf6; have HB := HBf6
      clear HKf6 HBf6
      go_wp2_with fail
      refine (reads_any P6 flatD Hf6.out _ _ _ _ yf6 (Hfl6.out.lens.kept (KeptOn.refl _ _) (fun b hb => hb.2)) HK.out Hl6.out).mono ?_
      rintro e yb6 ⟨rfl, hbc6⟩
      have HKb6 := Lib.hid (HK.out.go hbc6); have HBb6 := Lib.hid (below_chain HB.out hbc6)
      clear hbc6 HK HB
      have HK := HKb6; have HB := HBb6
      clear HKb6 HBb6
      go_wp2_with fail
      refine (stext_none yb6 HK.out).mono ?_
      rintro e yz ⟨rfl, hbz⟩
      have HKz := Lib.hid (HK.out.go hbz); have HBz := Lib.hid (below_chain HB.out hbz)
      clear hbz HK HB
      obtain ⟨L1, hL1⟩ : ∃ L, List.replicate 20001 (35 : UInt8) = L := ⟨_, rfl⟩
      obtain ⟨L2, hL2⟩ : ∃ L, List.replicate 20000 (35 : UInt8) = L := ⟨_, rfl⟩
      have hr1 := fun W => repeat_hash 20001 W (by omega)
      have hr2 := fun W => repeat_hash 20000 W (by omega)
      have hn1 : failS L1 0 3 := by rw [← hL1]; exact hash_long
      have hn2 : failS L2 1 5 := by rw [← hL2]; exact hash_read 20000 (by omega) (by omega)
      have hm1 : L1.length ≤ 100000 := by rw [← hL1, List.length_replicate]; omega
      have hm2 : L2.length ≤ 100000 := by rw [← hL2, List.length_replicate]; omega
      rw [hL1] at hr1
      rw [hL2] at hr2
      have Hr1 := Lib.hid hr1; have Hr2 := Lib.hid hr2; have Hn1 := Lib.hid hn1; have Hn2 := Lib.hid hn2; have Hm1 := Lib.hid hm1; have Hm2 := Lib.hid hm2
      clear hr1 hr2 hn1 hn2 hm1 hm2 hL1 hL2
      go_wp2_with fail
      refine (Hr1.out yz).mono ?_
      rintro e yq ⟨rfl, hbq⟩
      have HKq := Lib.hid (HKz.out.go hbq); have HBq := Lib.hid (below_chain HBz.out hbq)
      clear hbq HKz HBz
      go_wp2_with fail
      refine (fails_any L1 0 3 Hn1.out yq HKq.out Hm1.out).mono ?_
      rintro e yr ⟨rfl, hbr⟩
      have HKr := Lib.hid (HKq.out.go hbr); have HBr := Lib.hid (below_chain HBq.out hbr)
      clear hbr HKq HBq
      go_wp2_with fail
      refine (Hr2.out yr).mono ?_
      rintro e ys ⟨rfl, hbs⟩
      have HKs := Lib.hid (HKr.out.go hbs); have HBs := Lib.hid (below_chain HBr.out hbs)
      clear hbs HKr HBr
      go_wp2_with fail
      refine (fails_any L2 1 5 Hn2.out ys HKs.out Hm2.out).mono ?_
      rintro e yt ⟨rfl, hbt⟩
      have HBt := Lib.hid (below_chain HBs.out hbt)
      clear hbt HKs HBs
      go_wp2_with fail
      go_ret
      exact ⟨rfl, HBt.out⟩
end Go.Proofs.YtgohdcccfkjooaaGreatDoor
