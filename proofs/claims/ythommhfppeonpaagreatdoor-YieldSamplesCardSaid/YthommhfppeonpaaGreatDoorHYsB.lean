/-
  DERIVED. The law YieldSamples: its walk.
-/
import Derived.Test.YthommhfppeonpaaGreatDoorHYsA
namespace Go.Proofs.YthommhfppeonpaaGreatDoor
open Go.RowKit

theorem K_conv {K : Act → World → Prop} {a : Act} {d : Option Tmp} {v v' : Value} {w : World} (h : v' = v) (hk : K (a.put d v) w) : K (a.put d v') w := h ▸ hk

set_option maxRecDepth 100000 in
set_option maxHeartbeats 12800000 in
theorem samples_walk (x : Dr39) (p : P39) (bw ba bn st nn : Int) (w : World) (hx : Dr39At (fun b => b < w.heap.size) w x p) (hbw : u8In bw) (hba : u8In ba) (hst : 0 ≤ st) (hP : Places w.heap.size w) :
    Calls Tryz.prog 3 #[dr39V x p, .agg #[.int .u8 bw, .int .u8 ba, .int .i64 bn], .int .u64 st, .int .i64 nn] w (RetB w (.bool true)) := by
  have Hx := Lib.hid hx; have Hbw := Lib.hid hbw; have Hba := Lib.hid hba; have HP := Lib.hid hP
  clear hx hbw hba hP
  obtain ⟨e1, e2⟩ := heap_two w (.cells (cells39 x p).toArray 34) (.cells #[.int .u8 bw, .int .u8 ba, .int .i64 bn] 36)
  have hb := below_two (w := w) (.cells (cells39 x p).toArray 34) (.cells #[.int .u8 bw, .int .u8 ba, .int .i64 bn] 36)
  have E1 := Lib.hid e1; have E2 := Lib.hid e2; have Hb := Lib.hid hb
  clear e1 e2 hb
  go_enter Tryz.func3, Tryz.ntmps3
  go_upto_region 1 with fail
  refine step_world (fun wx => B39 wx w.heap.size x p ∧ wx.heap[w.heap.size + 1]? = some (.cells #[.int .u8 bw, .int .u8 ba, .int .i64 bn] 36 (0, 0)) ∧ Below w.heap.size w wx) ⟨E1.out, E2.out, Hb.out⟩ ?_
  clear E1 E2 Hb
  rintro w1 ⟨h1, h2, hb⟩
  have H1 := Lib.hid h1; have H2 := Lib.hid h2; have Hb := Lib.hid hb
  have hl2 := lt_of_block h2
  clear h1 h2 hb
  go_upto_region 3 with ((with_reducible refine (works_true _).mono ?_); rintro e w2 ⟨rfl, hb2⟩; have Hb2 := Lib.hid hb2; clear hb2)
  refine step_world (fun wx => B39 wx w.heap.size x p ∧ wx.heap[w.heap.size + 1]? = some (.cells #[.int .u8 bw, .int .u8 ba, .int .i64 bn] 36 (0, 0)) ∧ Below w.heap.size w wx) ⟨H1.out.go Hb2.out, (Hb2.out.block _ hl2).trans H2.out, below_chain Hb.out Hb2.out⟩ ?_
  clear H1 H2 Hb Hb2 hl2
  rintro w3 ⟨h1, h2, hb⟩
  have H1 := Lib.hid h1; have H2 := Lib.hid h2; have Hb := Lib.hid hb
  clear h1 h2 hb
  go_wp2_with fail
  go_loopw [39] (fun jv wr => ∃ j : Nat, j ≤ 3 ∧ jv = .int .i64 (j : Int) ∧ B39 wr w.heap.size x p ∧ wr.heap[w.heap.size + 1]? = some (.cells #[.int .u8 bw, .int .u8 ba, .int .i64 bn] 36 (0, 0)) ∧ Below w.heap.size w wr) (fun jv _ => 3 - (intOf jv).toNat)
  case atStart => exact ⟨0, by omega, rfl, H1.out, H2.out, Hb.out⟩
  case round =>
    clear H1 H2 Hb
    obtain ⟨j, hj, rfl, h1, h2, hb⟩ := hrel
    have hl2 := lt_of_block h2
    have H1 := Lib.hid h1; have H2 := Lib.hid h2; have Hb := Lib.hid hb
    clear h1 h2 hb
    have hj3 : j = 0 ∨ j = 1 ∨ j = 2 ∨ j = 3 := by omega
    rcases hj3 with rfl | rfl | rfl | rfl
    · go_wp2_with fail
      refine K_conv (v := .int .i64 (nn)) rfl ?_
      simp only [Act.put, List.setIfInBounds_toArray, List.set_cons_zero, List.set_cons_succ]
      go_wp2_with (first
        | ((with_reducible refine (draw_fn _ _ _).mono ?_); rintro e w4 ⟨rfl, hb4⟩; have Hb4 := Lib.hid hb4; clear hb4)
        | ((with_reducible refine (rdraw_fn _ _ _).mono ?_); rintro e w5 ⟨rfl, hb5⟩; have Hb5 := Lib.hid hb5; clear hb5))
      go_roundw
      case rel => exact ⟨1, by omega, by go_num, (H1.out.go Hb4.out).go Hb5.out, (Hb5.out.block _ (Nat.lt_of_lt_of_le hl2 Hb4.out.size)).trans ((Hb4.out.block _ hl2).trans H2.out), below_chain (below_chain Hb.out Hb4.out) Hb5.out⟩
      case measure => simp [intOf]
    · go_wp2_with fail
      refine K_conv (v := .int .i64 (1 + st % 1000)) rfl ?_
      simp only [Act.put, List.setIfInBounds_toArray, List.set_cons_zero, List.set_cons_succ]
      go_wp2_with (first
        | ((with_reducible refine (draw_fn _ _ _).mono ?_); rintro e w4 ⟨rfl, hb4⟩; have Hb4 := Lib.hid hb4; clear hb4)
        | ((with_reducible refine (rdraw_fn _ _ _).mono ?_); rintro e w5 ⟨rfl, hb5⟩; have Hb5 := Lib.hid hb5; clear hb5))
      go_roundw
      case rel => exact ⟨2, by omega, by go_num, (H1.out.go Hb4.out).go Hb5.out, (Hb5.out.block _ (Nat.lt_of_lt_of_le hl2 Hb4.out.size)).trans ((Hb4.out.block _ hl2).trans H2.out), below_chain (below_chain Hb.out Hb4.out) Hb5.out⟩
      case measure => simp [intOf]
    · go_wp2_with fail
      refine K_conv (v := .int .i64 (2147483648)) rfl ?_
      simp only [Act.put, List.setIfInBounds_toArray, List.set_cons_zero, List.set_cons_succ]
      go_wp2_with (first
        | ((with_reducible refine (draw_fn _ _ _).mono ?_); rintro e w4 ⟨rfl, hb4⟩; have Hb4 := Lib.hid hb4; clear hb4)
        | ((with_reducible refine (rdraw_fn _ _ _).mono ?_); rintro e w5 ⟨rfl, hb5⟩; have Hb5 := Lib.hid hb5; clear hb5))
      go_roundw
      case rel => exact ⟨3, by omega, by go_num, (H1.out.go Hb4.out).go Hb5.out, (Hb5.out.block _ (Nat.lt_of_lt_of_le hl2 Hb4.out.size)).trans ((Hb4.out.block _ hl2).trans H2.out), below_chain (below_chain Hb.out Hb4.out) Hb5.out⟩
      case measure => simp [intOf]
    · go_upto_region 11 with fail
      refine wp_region_floats 5 [] [(4, 17, .cells #[.string emptyS, .int .i64 0, .int .i64 0, .int .i64 0, .int .i64 0, .slice none 0 0, .slice none 0 0, .slice none 0 0, .slice none 0 0] 48)] [(0, true), (2, true), (1, false), (3, false)] (by kernel_rfl) (by kernel_rfl) ⟨by simp, by simp, by (simp only [List.forall_mem_cons]; exact ⟨⟨by omega, _, rfl, rfl, rfl, fun _ _ => rfl⟩, fun _ h => by cases h⟩)⟩ (fun _ _ _ _ _ h => h) (fun _ _ o _ _ h => by cases o <;> exact h) ?_
      refine wpG_load_39 rfl rfl (by rfl) (fun y hy => H1.out.go (below_undrew (k := 1) hy)) _ rfl rfl ?_
      try simp only [Act.put, List.setIfInBounds_toArray, List.set_cons_zero, List.set_cons_succ]
      refine wpG_load_39 rfl rfl (by rfl) (fun y hy => H1.out.go (below_undrew (k := 1) hy)) _ rfl rfl ?_
      try simp only [Act.put, List.setIfInBounds_toArray, List.set_cons_zero, List.set_cons_succ]
      refine wpG_step rfl rfl (fun xa hxa K hK => ?_)
      go_simp
      have hxa' : Below wr.heap.size wr xa := below_undrew (k := 1) hxa
      refine (lens39_any x p _ (Hx.out.go (below_chain Hb.out hxa'))).mono ?_
      rintro e wb ⟨y, f, v, s, k, rfl, hla, hval, hbb⟩
      refine hK _ _ hbb ?_
      clear hK K
      try simp only [Act.put, List.setIfInBounds_toArray, List.set_cons_zero, List.set_cons_succ]
      refine wpG_step rfl rfl (fun xc hxc K hK => ?_)
      go_simp
      have hrc : Below wr.heap.size wr xc := below_chain hxa' (below_chain hbb hxc)
      refine (spreads_any x p _ (Hx.out.go (below_chain Hb.out hrc))).mono ?_
      rintro e wd ⟨la, ln, lc, y2, os, rfl, hir, hlc, hln, hsf, hbd⟩
      refine hK _ _ hbd ?_
      clear hK K
      try simp only [Act.put, List.setIfInBounds_toArray, List.set_cons_zero, List.set_cons_succ]
      refine wpG_nil1 (l := [_, _]) rfl (fun b1 w6 hC hb6 hbl => ?_)
      try simp only [Act.put, List.setIfInBounds_toArray, List.set_cons_zero, List.set_cons_succ]
      have h6 : Below wr.heap.size wr w6 := below_chain hrc (below_chain hbd hb6)
      have hb1 : wr.heap.size ≤ b1 := hC.1.1
      have hwd : Below wb.heap.size wb w6 := below_chain hxc (below_chain hbd hb6)
      have hla6 := hla.kept (T := fun b => b ≠ b1 ∧ b < w6.heap.size) ((keptOn_below hwd).mono (fun b h => h.2)) (fun b h => ⟨fun e => by
        subst e
        rcases hC.1.2 with h' | h' <;> have := h.1 <;> have := h.2 <;> omega, Nat.lt_of_lt_of_le h.2 hwd.size⟩)
      have hir6 := hir.kept (T := fun b => b ≠ b1 ∧ b < w6.heap.size) ((keptOn_below hb6).mono (fun b h => h.2)) (fun b h => ⟨fun e => by
        subst e
        rcases hC.2 with h' | h' <;> have := h.1 <;> have := h.2 <;> omega, Nat.lt_of_lt_of_le h.2 hb6.size⟩)
      have hbd6 := (h6.block _ hl2).trans H2.out
      have hbw6 := below_chain Hb.out h6
      have Hla6 := Lib.hid hla6; have Hir6 := Lib.hid hir6; have Hbd6 := Lib.hid hbd6; have Hbw6 := Lib.hid hbw6; have Hbl := Lib.hid hbl; have Hlc := Lib.hid hlc; have Hln := Lib.hid hln
      have hszb := Hb.out.size
      clear hxa hxa' hbb hxc hrc hbd hb6 h6 hwd hla hla6 hval hir hir6 hsf hbd6 hbw6 hbl hlc hln H1 H2 hC Hb
      go_upto_region 12 with (refine wpL_store_lens y f v s k Hbl.out rfl rfl (.tmp 17) (.tmp 71) rfl rfl rfl ?_; intro w7 h7 e7; have H7 := Lib.hid h7; have E7 := Lib.hid e7; clear h7 e7)
      have hk7 : KeptOn (fun b => b ≠ b1) w6 w7 := by rw [E7.out]; exact keptOn_setCells _ _ _ _
      have hs7 : w7.heap.size = w6.heap.size := by rw [E7.out, size_setCells]
      refine step_world (fun wx => YS w bw ba bn y f v s k la ln lc (flat4 os) wx ∧ BenchB wx b1 48 y f v s k) ⟨⟨(hk7 _ (by omega)).trans Hbd6.out, Hla6.out.kept (hk7.mono (fun b h => h.1)) (fun b h => by rw [hs7]; exact h.2), (Hir6.out.kept (T := fun b => b < w7.heap.size) (hk7.mono (fun b h => h.1)) (fun b h => by rw [hs7]; exact h.2)).ir (fun _ h => h), by rw [E7.out]; exact below_setCells (by omega) _ _ Hbw6.out⟩, H7.out⟩ ?_
      clear hk7 hs7 Hla6 Hir6 Hbd6 Hbw6 Hbl H7 E7 hl2
      rintro w8 ⟨hy, h17⟩
      have hl17 := h17.lt
      have Hy := Lib.hid hy; have H17 := Lib.hid h17; clear hy h17
      go_upto_region 13 with (first
        | (refine wpL_load_lens H17.out rfl (.tmp 17) rfl rfl ?_)
        | (refine wpL_store_lens y f v s k (heap_alloc_new w8 _) rfl rfl (.tmp 19) (.tmp 74) rfl rfl rfl ?_; intro w9 h9 e9; have H9 := Lib.hid h9; have E9 := Lib.hid e9; clear h9 e9))
      have hb9 : Below w8.heap.size w8 w9 := by rw [E9.out]; exact below_setCells (Nat.le_refl _) _ _ (below_al (Below.refl _ _))
      have hs9 : w9.heap.size = w8.heap.size + 1 := by rw [E9.out, size_setCells]; simp
      have k2 := H9.out.cells.2.2.1
      have f2 := H9.out.free 2
      have Hb9 := Lib.hid hb9; clear hb9
      go_upto_region 14 with fail
      have hb10 := Hb9.out.setCell (p := ⟨w8.heap.size, 2, none⟩) (Nat.le_refl _) (.int .i64 0)
      obtain ⟨b2, eb2⟩ : ∃ b2, b2 = w8.heap.size := ⟨_, rfl⟩
      simp only [← eb2] at hb10 ⊢
      refine step_world (fun wx => YS w bw ba bn y f v s k la ln lc (flat4 os) wx ∧ BenchB wx b1 48 y f v s k ∧ BenchB wx b2 48 { y with pupil := 0 } f v s k) ⟨Hy.out.go (by rw [← eb2]; exact hb10), H17.out.go (by rw [← eb2]; exact hb10), (by rw [eb2]; exact H9.out.pupil0)⟩ ?_
      clear Hy H17 H9 E9 hb10 Hb9 k2 f2 hs9 hl17 eb2
      rintro w11 ⟨hy, h17, h19⟩
      have hl17 := h17.lt
      have Hy := Lib.hid hy; have H17 := Lib.hid h17; have H19 := Lib.hid h19; clear hy h17 h19
      go_upto_region 15 with (first
        | (refine wpL_load_lens H17.out rfl (.tmp 17) rfl rfl ?_)
        | (refine wpL_store_lens y f v s k (heap_alloc_new w11 _) rfl rfl (.tmp 20) (.tmp 76) rfl rfl rfl ?_; intro w9 h9 e9; have H9 := Lib.hid h9; have E9 := Lib.hid e9; clear h9 e9))
      have hb9 : Below w11.heap.size w11 w9 := by rw [E9.out]; exact below_setCells (Nat.le_refl _) _ _ (below_al (Below.refl _ _))
      have hs9 : w9.heap.size = w11.heap.size + 1 := by rw [E9.out, size_setCells]; simp
      have k8 := H9.out.cells.2.2.2.2.2.2.2.2
      have f8 := H9.out.free 8
      have Hb9 := Lib.hid hb9; clear hb9
      go_upto_region 16 with fail
      have hb10 := Hb9.out.setCell (p := ⟨w11.heap.size, 8, none⟩) (Nat.le_refl _) (.slice none 0 0)
      obtain ⟨b3, eb3⟩ : ∃ b3, b3 = w11.heap.size := ⟨_, rfl⟩
      simp only [← eb3] at hb10 ⊢
      refine step_world (fun wx => YS w bw ba bn y f v s k la ln lc (flat4 os) wx ∧ BenchB wx b1 48 y f v s k ∧ BenchB wx b2 48 { y with pupil := 0 } f v s k ∧ BenchB wx b3 48 { y with cf := [] } f v s ⟨none, 0, 0⟩) ⟨Hy.out.go (by rw [← eb3]; exact hb10), H17.out.go (by rw [← eb3]; exact hb10), H19.out.go (by rw [← eb3]; exact hb10), (by rw [eb3]; exact H9.out.conf0)⟩ ?_
      clear Hy H17 H19 H9 E9 hb10 Hb9 k8 f8 hs9 hl17 eb3
      rintro w12 ⟨hy, h17, h19, h20⟩
      have Hy := Lib.hid hy; have H17 := Lib.hid h17; have H19 := Lib.hid h19; have H20 := Lib.hid h20; clear hy h17 h19 h20
      go_wp2_with (first
        | (refine wpL_load_lens H17.out rfl (.tmp 17) rfl rfl ?_)
        | (refine wpL_load_lens H20.out rfl (.tmp 20) rfl rfl ?_)
        | (refine wpL_load_lens H19.out rfl (.tmp 19) rfl rfl ?_))
      go_loopw [82] (fun jv wr => ∃ j : Nat, j ≤ 3 ∧ jv = .int .i64 (j : Int) ∧ YS w bw ba bn y f v s k la ln lc (flat4 os) wr) (fun jv _ => 3 - (intOf jv).toNat)
      case atStart => exact ⟨0, by omega, rfl, Hy.out⟩
      case round =>
        clear Hy H17 H19 H20
        obtain ⟨j, hj, rfl, hy⟩ := hrel
        have Hy := Lib.hid hy; clear hy
        by_cases hj3 : j < 3
        · go_upto_region 18 with fail
          go_cut [22] (fun v22 wx => ∃ b z f' v' s' k', v22 = .pointer (some ⟨b, 0, none⟩) ∧ BenchB wx b 48 z f' v' s' k' ∧ LensAt (fun b => b < wx.heap.size) wx z f' v' s' k' ∧ YS w bw ba bn y f v s k la ln lc (flat4 os) wx)
          case first =>
            have hj012 : j = 0 ∨ j = 1 ∨ j = 2 := by omega
            rcases hj012 with rfl | rfl | rfl
            · go_wp2_with fail
              rw [index_len0]
              refine upon_value2 ?_
              simp only [Act.put, List.setIfInBounds_toArray, List.set_cons_zero, List.set_cons_succ]
              go_wp2_with (refine wpL_store_lens y f v s k (heap_alloc_new wr _) rfl rfl (.tmp 22) (.tmp 84) rfl rfl rfl ?_; intro w9 h9 e9; have H9 := Lib.hid h9; have E9 := Lib.hid e9; clear h9 e9)
              have hb9 : Below wr.heap.size wr w9 := by rw [E9.out]; exact below_setCells (Nat.le_refl _) _ _ (below_al (Below.refl _ _))
              go_meet
              exact ⟨_, y, f, v, s, k, rfl, H9.out, (Hy.out.go hb9).lens, Hy.out.go hb9⟩
            · go_wp2_with fail
              rw [index_len1]
              refine upon_value2 ?_
              simp only [Act.put, List.setIfInBounds_toArray, List.set_cons_zero, List.set_cons_succ]
              go_wp2_with (refine wpL_store_lens { y with cf := [] } f v s ⟨none, 0, 0⟩ (heap_alloc_new wr _) rfl rfl (.tmp 22) (.tmp 84) rfl rfl rfl ?_; intro w9 h9 e9; have H9 := Lib.hid h9; have E9 := Lib.hid e9; clear h9 e9)
              have hb9 : Below wr.heap.size wr w9 := by rw [E9.out]; exact below_setCells (Nat.le_refl _) _ _ (below_al (Below.refl _ _))
              go_meet
              exact ⟨_, { y with cf := [] }, f, v, s, ⟨none, 0, 0⟩, rfl, H9.out, (Hy.out.go hb9).lens.conf, Hy.out.go hb9⟩
            · go_wp2_with fail
              rw [index_len2]
              refine upon_value2 ?_
              simp only [Act.put, List.setIfInBounds_toArray, List.set_cons_zero, List.set_cons_succ]
              go_wp2_with (refine wpL_store_lens { y with pupil := 0 } f v s k (heap_alloc_new wr _) rfl rfl (.tmp 22) (.tmp 84) rfl rfl rfl ?_; intro w9 h9 e9; have H9 := Lib.hid h9; have E9 := Lib.hid e9; clear h9 e9)
              have hb9 : Below wr.heap.size wr w9 := by rw [E9.out]; exact below_setCells (Nat.le_refl _) _ _ (below_al (Below.refl _ _))
              go_meet
              exact ⟨_, { y with pupil := 0 }, f, v, s, k, rfl, H9.out, (Hy.out.go hb9).lens.pupil 0, Hy.out.go hb9⟩
          case rest =>
            obtain ⟨b, z, f', v', s', k', rfl, hz, hlz, hy⟩ := hcut
            have c0 := (obj_cell hy.bend 0).trans rfl
            have c1 := (obj_cell hy.bend 1).trans rfl
            have c2 := (obj_cell hy.bend 2).trans rfl
            clear Hy
            have Hz := Lib.hid hz; have Hlz := Lib.hid hlz; have Hy := Lib.hid hy
            clear hz hlz hy
            go_wp2_with (go_at_call 10; refine (bendof_any bw ba bn Hbw.out Hba.out (flat4 os) la ln lc _ Hy.out.spr (by have := Hln.out; omega) Hlc.out).mono ?_; rintro e w13 ⟨oa, on, oc, os2, rfl, hir2, hon, hb13⟩; have Hir2 := Lib.hid (hir2.ir (fun _ h => h.2)); have Hon := Lib.hid hon; have Hb13 := Lib.hid hb13; clear hir2 hon hb13)
            go_loopw [90] (fun iv wr => ∃ i : Nat, i ≤ 3 ∧ iv = .int .i64 (i : Int) ∧ YS w bw ba bn y f v s k la ln lc (flat4 os) wr ∧ BenchB wr b 48 z f' v' s' k' ∧ LensAt (fun b => b < wr.heap.size) wr z f' v' s' k' ∧ IR wr.heap.size wr 4 oa on oc os2) (fun iv _ => 3 - (intOf iv).toNat)
            case atStart => exact ⟨0, by omega, rfl, Hy.out.go Hb13.out, Hz.out.go Hb13.out, Hlz.out.go Hb13.out, Hir2.out⟩
            case round =>
              clear Hz Hlz Hy Hir2 Hb13 c0 c1 c2
              obtain ⟨i, hi, rfl, hy, hz, hlz, hir2⟩ := hrel
              have Hz := Lib.hid hz; have Hlz := Lib.hid hlz; have Hy := Lib.hid hy; have Hir2 := Lib.hid hir2
              clear hz hlz hy hir2
              by_cases hi3 : i < 3
              · go_upto_region 21 with fail
                go_cut [24] (fun v24 wx => ∃ ma mn mc ms, v24 = .slice ma mn mc ∧ IR wr.heap.size wr 4 ma mn mc ms ∧ mn ≤ 1000000 ∧ wr = wx)
                case first =>
                  have hi012 : i = 0 ∨ i = 1 ∨ i = 2 := by omega
                  rcases hi012 with rfl | rfl | rfl
                  · go_wp2_with fail
                    refine K_conv (v := .slice la ln lc) rfl ?_
                    simp only [Act.put, List.setIfInBounds_toArray, List.set_cons_zero, List.set_cons_succ]
                    go_wp2_with fail
                    go_meet
                    exact ⟨la, ln, lc, _, rfl, Hy.out.spr, by have := Hln.out; omega, rfl⟩
                  · go_wp2_with fail
                    refine K_conv (v := .slice oa on oc) rfl ?_
                    simp only [Act.put, List.setIfInBounds_toArray, List.set_cons_zero, List.set_cons_succ]
                    go_wp2_with fail
                    go_meet
                    exact ⟨oa, on, oc, _, rfl, Hir2.out, by have := Hon.out; omega, rfl⟩
                  · go_wp2_with fail
                    refine K_conv (v := .slice none 0 0) rfl ?_
                    simp only [Act.put, List.setIfInBounds_toArray, List.set_cons_zero, List.set_cons_succ]
                    go_wp2_with fail
                    go_meet
                    exact ⟨none, 0, 0, [], rfl, IRp.nil (fun b => b < wr.heap.size) _ _ _ _, by omega, rfl⟩
                case rest =>
                  obtain ⟨ma, mn, mc, ms, rfl, hms, hmn, rfl⟩ := hcut
                  have Hms := Lib.hid hms; clear hms
                  go_upto_region 22 with fail
                  refine wp_region_reads wr.heap.size [0, 1, 3, 4] 3 (by kernel_rfl) rfl (by kernel_rfl) (by kernel_rfl) (fun _ _ o _ _ h => by cases o <;> exact h) ?_
                  refine wpRd_load_lens rfl (by rfl) (fun y hy => BenchB.go Hz.out (below_undrew (k := 1) hy)) _ rfl rfl ?_
                  try simp only [Act.put, List.setIfInBounds_toArray, List.set_cons_zero, List.set_cons_succ]
                  iterate 1
                    refine wpRd_yield (v := ?_) rfl (by rfl) ?_ ?_
                    rotate_left
                    · intro y hy
                      go_simp
                      with_reducible rfl
                    try simp only [Act.put, List.setIfInBounds_toArray, List.set_cons_zero, List.set_cons_succ]
                  refine wpRd_load_lens rfl (by rfl) (fun y hy => BenchB.go Hz.out (below_undrew (k := 1) hy)) _ rfl rfl ?_
                  try simp only [Act.put, List.setIfInBounds_toArray, List.set_cons_zero, List.set_cons_succ]
                  iterate 1
                    refine wpRd_yield (v := ?_) rfl (by rfl) ?_ ?_
                    rotate_left
                    · intro y hy
                      go_simp
                      with_reducible rfl
                    try simp only [Act.put, List.setIfInBounds_toArray, List.set_cons_zero, List.set_cons_succ]
                  refine wpRd_nil ?_
                  have hdr : Below wr.heap.size wr wr.drew := below_dr (Below.refl _ _)
                  refine wpR_one (i := 2) (by kernel_rfl) rfl rfl (fun K hK => ?_)
                  go_simp
                  refine (ycheck_any z f' v' s' k' ms ma mn mc _ (Hlz.out.go hdr) (HP.out.go (below_chain Hy.out.b hdr)) (Hms.out.go hdr) hmn).mono ?_
                  rintro e wa ⟨rfl, hba⟩
                  refine hK _ _ (hba.mono (Nat.le_refl wr.heap.size)) ?_
                  clear hK K
                  try simp only [Act.put, List.setIfInBounds_toArray, List.set_cons_zero, List.set_cons_succ]
                  have hba' : Below wr.heap.size wr wa := below_undrew (k := 1) hba
                  refine wpR_one (i := 5) (by kernel_rfl) rfl rfl (fun K hK => ?_)
                  go_simp
                  refine (rycheck_any z f' v' s' k' ms ma mn mc _ (Hlz.out.go hba') (Hms.out.go hba') hmn).mono ?_
                  rintro e wb' ⟨rfl, hbb⟩
                  refine hK _ _ (hbb.mono hba'.size) ?_
                  clear hK K
                  try simp only [Act.put, List.setIfInBounds_toArray, List.set_cons_zero, List.set_cons_succ]
                  have hbb' : Below wr.heap.size wr wb' := below_chain hba' hbb
                  refine wpR_one (i := 6) (by kernel_rfl) rfl rfl (fun K hK => ?_)
                  go_simp
                  refine hK _ _ (Below.refl _ _) ?_
                  clear hK K
                  refine wpR_end (by kernel_rfl) ?_
                  try simp only [Act.put, List.setIfInBounds_toArray, List.set_cons_zero, List.set_cons_succ]
                  have Hb22 := Lib.hid hbb'
                  clear hdr hba hba' hbb hbb'
                  go_upto_region 24 with fail
                  refine step_world (fun wx => YS w bw ba bn y f v s k la ln lc (flat4 os) wx ∧ BenchB wx b 48 z f' v' s' k' ∧ LensAt (fun b => b < wx.heap.size) wx z f' v' s' k' ∧ IR wx.heap.size wx 4 oa on oc os2 ∧ IR wx.heap.size wx 4 ma mn mc ms) ⟨Hy.out.go Hb22.out, Hz.out.go Hb22.out, Hlz.out.go Hb22.out, Hir2.out.go Hb22.out, Hms.out.go Hb22.out⟩ ?_
                  clear Hy Hz Hlz Hir2 Hms Hb22
                  rintro w14 ⟨hy, hz, hlz, hir2, hms⟩
                  have Hz := Lib.hid hz; have Hlz := Lib.hid hlz; have Hy := Lib.hid hy; have Hir2 := Lib.hid hir2; have Hms := Lib.hid hms
                  clear hz hlz hy hir2 hms
                  go_upto_region 25 with (first
                    | (refine wpL_load_lens Hz.out rfl (.tmp 22) rfl rfl ?_)
                    | (go_at_call 13; refine (ySample_fn z f' v' s' k' ms ma mn mc st _ Hlz.out (HP.out.go Hy.out.b) Hms.out hmn).mono ?_; rintro e w15 ⟨fy, vy, sy, ky, rfl, hly, hb15⟩; have Hly := Lib.hid hly; have Hb15 := Lib.hid hb15; clear hly hb15)
                    | (refine wpL_store_lens (smpG z ms mn st).1 fy vy sy ky (heap_alloc_new w15 _) rfl rfl (.tmp 25) (.tmp 105) rfl rfl rfl ?_; intro w16 h16 e16; have H16 := Lib.hid h16; have E16 := Lib.hid e16; clear h16 e16))
                  have hb16 : Below w15.heap.size w15 w16 := by rw [E16.out]; exact below_setCells (Nat.le_refl _) _ _ (below_al (Below.refl _ _))
                  obtain ⟨b25, eb25⟩ : ∃ b25, b25 = w15.heap.size := ⟨_, rfl⟩
                  simp only [← eb25]
                  refine step_world (fun wx => YS w bw ba bn y f v s k la ln lc (flat4 os) wx ∧ BenchB wx b 48 z f' v' s' k' ∧ LensAt (fun b => b < wx.heap.size) wx z f' v' s' k' ∧ IR wx.heap.size wx 4 oa on oc os2 ∧ IR wx.heap.size wx 4 ma mn mc ms ∧ BenchB wx b25 48 (smpG z ms mn st).1 fy vy sy ky ∧ LensAt (fun b => b < wx.heap.size) wx (smpG z ms mn st).1 fy vy sy ky) ⟨(Hy.out.go Hb15.out).go hb16, (Hz.out.go Hb15.out).go hb16, (Hlz.out.go Hb15.out).go hb16, (Hir2.out.go Hb15.out).go hb16, (Hms.out.go Hb15.out).go hb16, (by rw [eb25]; exact H16.out), Hly.out.go hb16⟩ ?_
                  clear Hy Hz Hlz Hir2 Hms Hly Hb15 hb16 H16 E16 eb25
                  rintro w17 ⟨hy, hz, hlz, hir2, hms, h25, hl25⟩
                  have Hz := Lib.hid hz; have Hlz := Lib.hid hlz; have Hy := Lib.hid hy; have Hir2 := Lib.hid hir2; have Hms := Lib.hid hms; have H25 := Lib.hid h25; have Hl25 := Lib.hid hl25
                  clear hz hlz hy hir2 hms h25 hl25
                  go_upto_region 26 with (first
                    | (refine wpL_load_lens Hz.out rfl (.tmp 22) rfl rfl ?_)
                    | (go_at_call 14; refine (rySample_fn z f' v' s' k' ms ma mn mc st _ Hlz.out Hms.out hmn).mono ?_; rintro e w18 ⟨fz, vz, sz, kz, rfl, hlw, hb18⟩; have Hlw := Lib.hid hlw; have Hb18 := Lib.hid hb18; clear hlw hb18)
                    | (refine wpL_store_lens (smpG z ms mn st).1 fz vz sz kz (heap_alloc_new w18 _) rfl rfl (.tmp 28) (.tmp 113) rfl rfl rfl ?_; intro w19 h19 e19; have H19' := Lib.hid h19; have E19 := Lib.hid e19; clear h19 e19))
                  have hb19 : Below w18.heap.size w18 w19 := by rw [E19.out]; exact below_setCells (Nat.le_refl _) _ _ (below_al (Below.refl _ _))
                  obtain ⟨b28, eb28⟩ : ∃ b28, b28 = w18.heap.size := ⟨_, rfl⟩
                  simp only [← eb28]
                  refine step_world (fun wx => YS w bw ba bn y f v s k la ln lc (flat4 os) wx ∧ BenchB wx b 48 z f' v' s' k' ∧ LensAt (fun b => b < wx.heap.size) wx z f' v' s' k' ∧ IR wx.heap.size wx 4 oa on oc os2 ∧ BenchB wx b25 48 (smpG z ms mn st).1 fy vy sy ky ∧ LensAt (fun b => b < wx.heap.size) wx (smpG z ms mn st).1 fy vy sy ky ∧ BenchB wx b28 48 (smpG z ms mn st).1 fz vz sz kz ∧ LensAt (fun b => b < wx.heap.size) wx (smpG z ms mn st).1 fz vz sz kz) ⟨(Hy.out.go Hb18.out).go hb19, (Hz.out.go Hb18.out).go hb19, (Hlz.out.go Hb18.out).go hb19, (Hir2.out.go Hb18.out).go hb19, (H25.out.go Hb18.out).go hb19, (Hl25.out.go Hb18.out).go hb19, (by rw [eb28]; exact H19'.out), Hlw.out.go hb19⟩ ?_
                  clear Hy Hz Hlz Hir2 Hms H25 Hl25 Hlw Hb18 hb19 H19' E19 eb28
                  rintro w20 ⟨hy, hz, hlz, hir2, h25, hl25, h28, hl28⟩
                  have Hz := Lib.hid hz; have Hlz := Lib.hid hlz; have Hy := Lib.hid hy; have Hir2 := Lib.hid hir2; have H25 := Lib.hid h25; have Hl25 := Lib.hid hl25; have H28 := Lib.hid h28; have Hl28 := Lib.hid hl28
                  clear hz hlz hy hir2 h25 hl25 h28 hl28
                  go_wp2_with (first
                    | (refine wpL_load_lensG H25.out rfl (.tmp 25) rfl rfl ?_)
                    | (refine wpL_load_lensG H28.out rfl (.tmp 28) rfl rfl ?_)
                    | (go_at_call 15; refine (rlSame_eq (smpG z ms mn st).1 fy vy sy ky fz vz sz kz _ Hl25.out Hl28.out).mono ?_; rintro e w21 ⟨rfl, hb21⟩; have Hb21 := Lib.hid hb21; clear hb21))
                  go_roundw
                  case rel => exact ⟨i + 1, by omega, by go_num, Hy.out.go Hb21.out, Hz.out.go Hb21.out, Hlz.out.go Hb21.out, Hir2.out.go Hb21.out⟩
                  case measure => simp [intOf]; omega
              · go_wp2_with fail
                go_roundw
                case rel => exact ⟨j + 1, by omega, by go_num, Hy.out⟩
                case measure => simp [intOf]; omega
        · go_wp2_with fail
          go_ret
          exact ⟨rfl, Hy.out.b⟩

end Go.Proofs.YthommhfppeonpaaGreatDoor
