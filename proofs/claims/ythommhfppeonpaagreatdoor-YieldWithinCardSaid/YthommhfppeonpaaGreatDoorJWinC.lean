/-
  DERIVED. The law YieldWithin: its walk.
-/
import Derived.Test.YthommhfppeonpaaGreatDoorKai
namespace Go.Proofs.YthommhfppeonpaaGreatDoor
open Go.RowKit

set_option maxRecDepth 100000 in
set_option maxHeartbeats 12800000 in
theorem within_walk (x : Dr39) (p : P39) (st : Int) (w : World) (hx : Dr39At (fun b => b < w.heap.size) w x p) (hP : Places w.heap.size w) :
    Calls Tryz.prog 4 #[dr39V x p, .int .u64 st] w (RetB w (.bool true)) := by
  have Hx := Lib.hid hx; have HP := Lib.hid hP
  clear hx hP
  have hg0 := B39.new w x p
  have hb0 := (Below.refl w.heap.size w).alloc (Nat.le_refl _) (.cells (cells39 x p).toArray 34)
  have Hg0 := Lib.hid hg0; have Hb0 := Lib.hid hb0; clear hg0 hb0
  go_enter Tryz.func4, Tryz.ntmps4
  go_upto_region 1 with fail
  refine step_world (fun wx => B39 wx w.heap.size x p ∧ Below w.heap.size w wx) ⟨Hg0.out, Hb0.out⟩ ?_
  clear Hg0 Hb0
  rintro w1 ⟨h1, hb⟩
  have H1 := Lib.hid h1; have Hb := Lib.hid hb
  clear h1 hb
  go_upto_region 3 with ((with_reducible refine (works_true _).mono ?_); rintro e w2 ⟨rfl, hb2⟩; have Hb2 := Lib.hid hb2; clear hb2)
  refine step_world (fun wx => B39 wx w.heap.size x p ∧ Below w.heap.size w wx) ⟨H1.out.go Hb2.out, below_chain Hb.out Hb2.out⟩ ?_
  clear H1 Hb Hb2
  rintro wr ⟨h1, hb⟩
  have H1 := Lib.hid h1; have Hb := Lib.hid hb
  clear h1 hb
  refine wp_region_floats 5 [] [(4, 5, .cells #[.string emptyS, .int .i64 0, .int .i64 0, .int .i64 0, .int .i64 0, .slice none 0 0, .slice none 0 0, .slice none 0 0, .slice none 0 0] 48)] [(0, true), (2, true), (1, false), (3, false)] (by kernel_rfl) (by kernel_rfl) ⟨by simp, by simp, by (simp only [List.forall_mem_cons]; exact ⟨⟨by omega, _, rfl, rfl, rfl, fun _ _ => rfl⟩, fun _ h => by cases h⟩)⟩ (fun _ _ _ _ _ h => h) (fun _ _ o _ _ h => by cases o <;> exact h) ?_
  refine wpG_load_39 rfl rfl (by rfl) (fun y hy => H1.out.go (below_undrew (k := 1) hy)) _ rfl rfl ?_
  try simp only [Act.put, List.setIfInBounds_toArray, List.set_cons_zero, List.set_cons_succ]
  refine wpG_load_39 rfl rfl (by rfl) (fun y hy => H1.out.go (below_undrew (k := 1) hy)) _ rfl rfl ?_
  try simp only [Act.put, List.setIfInBounds_toArray, List.set_cons_zero, List.set_cons_succ]
  refine wpG_step rfl rfl (fun xa hxa K hK => ?_)
  go_simp
  have hxa' : Below wr.heap.size wr xa := below_undrew (k := 1) hxa
  refine (lens39_any x p _ (Hx.out.go (below_chain Hb.out hxa'))).mono ?_
  rintro e wb ⟨y0, f, v, s, k, rfl, hla, hval, hyl, hbb⟩
  refine hK _ _ hbb ?_
  clear hK K
  try simp only [Act.put, List.setIfInBounds_toArray, List.set_cons_zero, List.set_cons_succ]
  refine wpG_step rfl rfl (fun xc hxc K hK => ?_)
  go_simp
  have hrc : Below wr.heap.size wr xc := below_chain hxa' (below_chain hbb hxc)
  refine (spreads_any x p _ (Hx.out.go (below_chain Hb.out hrc))).mono ?_
  rintro e wd ⟨la, ln, lc, y2, os, hy2, rfl, hir, hlc, hln, hsf, hbd⟩
  refine hK _ _ hbd ?_
  clear hK K
  try simp only [Act.put, List.setIfInBounds_toArray, List.set_cons_zero, List.set_cons_succ]
  refine wpG_nil1 (l := [_, _]) rfl (fun b1 w6 hC hb6 hbl => ?_)
  try simp only [Act.put, List.setIfInBounds_toArray, List.set_cons_zero, List.set_cons_succ]
  have h6 : Below wr.heap.size wr w6 := below_chain hrc (below_chain hbd hb6)
  have hb1 : wr.heap.size ≤ b1 := hC.1.1
  have hwd : Below wb.heap.size wb w6 := below_chain hxc (below_chain hbd hb6)
  have hla6 := hla.kept (T := fun b => b ≠ b1 ∧ b < w6.heap.size) ((keptOn_below hwd).mono (fun b h => h.2)) (fun b h => ⟨fun e => by
    subst e
    rcases hC.1.2 with h' | h' <;> have := h.1 <;> have := h.2 <;> omega, Nat.lt_of_lt_of_le h.2 hwd.size⟩)
  have hir6 := hir.kept (T := fun b => b ≠ b1 ∧ b < w6.heap.size) ((keptOn_below hb6).mono (fun b h => h.2)) (fun b h => ⟨fun e => by
    subst e
    rcases hC.2 with h' | h' <;> have := h.1 <;> have := h.2 <;> omega, Nat.lt_of_lt_of_le h.2 hb6.size⟩)
  have hbw6 := below_chain Hb.out h6
  have hos : ln = os.length := by have := hir.1; rw [flat4_len] at this; omega
  subst hos
  -- what is known of the data
  have hck := spr_check (x := { y0 with cf := [] }) hval rfl (hy2.trans hyl.symm) hsf (by omega)
  have hKeys := spr_keys (x := { y0 with cf := [] }) (hy2.trans hyl.symm) hsf
  have hSin := spr_in hsf
  have Hck := Lib.hid hck; have HK := Lib.hid hKeys; have HS := Lib.hid hSin; have Hval := Lib.hid hval
  have Hla6 := Lib.hid hla6; have Hir6 := Lib.hid hir6; have Hbw6 := Lib.hid hbw6; have Hbl := Lib.hid hbl; have Hlc := Lib.hid hlc
  have hszb := Hb.out.size
  have h1l := lt_of_block hbl
  clear hck hKeys hSin hval hxa hxa' hbb hxc hrc hbd hb6 h6 hwd hla hla6 hir hir6 hsf hbw6 hbl hlc H1 hC Hb hy2 hyl
  go_upto_region 4 with (refine wpL_store_lens y0 f v s k Hbl.out rfl rfl (.tmp 5) (.tmp 25) rfl rfl rfl ?_; intro w7 h7 e7; have H7 := Lib.hid h7; have E7 := Lib.hid e7; clear h7 e7)
  have hk7 : KeptOn (fun b => b ≠ b1) w6 w7 := by rw [E7.out]; exact keptOn_setCells _ _ _ _
  have hs7 : w7.heap.size = w6.heap.size := by rw [E7.out, size_setCells]
  refine step_world (fun wx => wx.heap.size = w6.heap.size ∧ BenchB wx b1 48 y0 f v s k ∧ LensAt (fun b => b ≠ b1 ∧ b < w6.heap.size) wx y0 f v s k ∧ IRp (fun b => b ≠ b1 ∧ b < w6.heap.size) wx 4 la os.length lc (flat4 os) ∧ Below w.heap.size w wx) ⟨hs7, H7.out, Hla6.out.kept (hk7.mono (fun b h => h.1)) (fun b h => h), Hir6.out.kept (hk7.mono (fun b h => h.1)) (fun b h => h), by rw [E7.out]; exact below_setCells (by omega) _ _ Hbw6.out⟩ ?_
  clear hk7 hs7 Hla6 Hir6 Hbw6 Hbl H7 E7
  rintro w8 ⟨hs8, h5, hl8, hr8, hb8⟩
  have k8 := h5.cells.2.2.2.2.2.2.2.2
  have f8 := h5.free 8
  have H5 := Lib.hid h5; have Hl8 := Lib.hid hl8; have Hr8 := Lib.hid hr8; have Hb8 := Lib.hid hb8; have Hs8 := Lib.hid hs8
  clear h5 hl8 hr8 hb8 hs8
  go_upto_region 5 with fail
  have hk9 := keptOn_setCells b1 [.slice none 0 0] 8 w8
  have hs9 : (w8.setCell ⟨b1, 8, none⟩ (.slice none 0 0)).heap.size = w6.heap.size := by rw [← Hs8.out]; simp
  refine step_world (fun wx => wx.heap.size = w6.heap.size ∧ BenchB wx b1 48 { y0 with cf := [] } f v s ⟨none, 0, 0⟩ ∧ LensAt (fun b => b ≠ b1 ∧ b < w6.heap.size) wx { y0 with cf := [] } f v s ⟨none, 0, 0⟩ ∧ IRp (fun b => b ≠ b1 ∧ b < w6.heap.size) wx 4 la os.length lc (flat4 os) ∧ Below w.heap.size w wx) ⟨hs9, H5.out.conf0, (Hl8.out.kept (hk9.mono (fun b h => h.1)) (fun b h => h)).conf, Hr8.out.kept (hk9.mono (fun b h => h.1)) (fun b h => h), Hb8.out.setCell (p := ⟨b1, 8, none⟩) (by show w.heap.size ≤ b1; omega) _⟩ ?_
  clear hk9 hs9 H5 Hl8 Hr8 Hb8 Hs8 k8 f8
  rintro w9 ⟨hs9, h5, hl9, hr9, hb9⟩
  have hv' : validB { y0 with cf := [] } = true := Hval.out
  obtain ⟨xx, exx⟩ : ∃ xx : LensD, xx = { y0 with cf := [] } := ⟨_, rfl⟩
  have hck := Hck.out; have hK := HK.out
  rw [← exx] at hck hK hv' h5 hl9
  have Hck := Lib.hid hck; have HK := Lib.hid hK; have Hval := Lib.hid hv'
  have H5 := Lib.hid h5; have Hl9 := Lib.hid hl9; have Hr9 := Lib.hid hr9; have Hb9 := Lib.hid hb9; have Hs9 := Lib.hid hs9
  clear hck hK hv' h5 hl9 hr9 hb9 hs9 exx
  obtain ⟨z, er, hG, hcase⟩ := smp_ways (n := os.length) (st := st) Hck.out
  have HG := Lib.hid hG; have Hcase := Lib.hid hcase
  have hpl := HP.out.go Hb9.out
  have HPl := Lib.hid hpl
  clear hG hcase hpl
  have hl9' := Hl9.out.kept (T := fun b => b < w9.heap.size) (KeptOn.refl _ _) (fun b h => by rw [Hs9.out]; exact h.2)
  have hr9' := (Hr9.out.kept (T := fun b => b < w9.heap.size) (KeptOn.refl _ _) (fun b h => by rw [Hs9.out]; exact h.2))
  have Hl9' := Lib.hid hl9'; have Hr9' := Lib.hid hr9'
  clear hl9' hr9'
  go_upto_region 6 with (first
    | (refine wpL_load_lens H5.out rfl (.tmp 5) rfl rfl ?_)
    | (go_at_call 13; refine (sample_w HG.out Hl9'.out HPl.out (Hr9'.out.ir (fun _ h => h)) (by omega)).mono ?_; rintro e w10 ⟨fz, vz, sz, kz, rfl, hlz, hb10⟩; have Hlz := Lib.hid hlz; have Hb10 := Lib.hid hb10; clear hlz hb10)
    | (refine wpL_store_lens z fz vz sz kz (heap_alloc_new w10 _) rfl rfl (.tmp 7) (.tmp 34) rfl rfl rfl ?_; intro w11 h11 e11; have H11 := Lib.hid h11; have E11 := Lib.hid e11; clear h11 e11))
  have hk11 : KeptOn (fun b => b < w10.heap.size) w10 w11 := by
    rw [E11.out]
    intro b hb
    exact (keptOn_setCells w10.heap.size _ 0 _ b (Nat.ne_of_lt hb)).trans (Below.heap_alloc _ _ _ hb)
  have hs11 : w11.heap.size = w10.heap.size + 1 := by rw [E11.out, size_setCells]; simp
  have hb11 : Below w10.heap.size w10 w11 := by rw [E11.out]; exact below_setCells (Nat.le_refl _) _ _ (below_al (Below.refl _ _))
  have hs10 := Hb10.out.size
  have hb9s := Hb9.out.size
  obtain ⟨b7, eb7⟩ : ∃ b7, b7 = w10.heap.size := ⟨_, rfl⟩
  have hk911 : KeptOn (fun b => b < w9.heap.size) w9 w11 := (keptOn_below Hb10.out).trans (hk11.mono (fun b h => Nat.lt_of_lt_of_le h hs10))
  simp only [← eb7]
  have h1b : b1 < w9.heap.size := by rw [Hs9.out]; exact h1l
  refine step_world (fun wx => WS w b1 b7 xx f v s ⟨none, 0, 0⟩ la os.length lc (flat4 os) wx ∧ BenchB wx b7 48 z fz vz sz kz ∧ LensAt (fun b => b < b7) wx z fz vz sz kz)
    ⟨⟨(hk911 _ h1b).trans H5.out, Hl9'.out.kept hk911 (fun b h => by rw [eb7]; exact Nat.lt_of_lt_of_le h hs10), Hr9'.out.kept hk911 (fun b h => by rw [eb7]; exact Nat.lt_of_lt_of_le h hs10), by omega, by omega, by omega, below_chain Hb9.out (below_chain Hb10.out hb11)⟩, (by rw [eb7]; exact H11.out), Hlz.out.kept hk11 (fun b h => by rw [eb7]; exact h)⟩ ?_
  have hZ := lens_len3 Hl9.out
  have HZ := Lib.hid hZ
  clear hZ hk11 hs11 hb11 hs10 hb9s hk911 h1b H5 Hl9 Hr9 Hl9' Hr9' Hlz Hb9 Hb10 Hs9 H11 E11 eb7 hszb hb1 h1l HPl
  rintro w12 ⟨hw, h7, hlz⟩
  have Hw := Lib.hid hw; have H7 := Lib.hid h7; have Hlz := Lib.hid hlz
  clear hw h7 hlz
  go_wp2_with fail
  go_loopw [10, 40] (fun wv iv wr => ∃ i : Nat, i ≤ os.length ∧ iv = .int .i64 (i : Int) ∧ wv = .int .u64 (stN st i) ∧ WS w b1 b7 xx f v s ⟨none, 0, 0⟩ la os.length lc (flat4 os) wr ∧ BenchB wr b7 48 z fz vz sz kz ∧ LensAt (fun b => b < b7) wr z fz vz sz kz) (fun _ iv _ => os.length - (intOf iv).toNat)
  case atStart => exact ⟨0, by omega, rfl, rfl, Hw.out, H7.out, Hlz.out⟩
  case round =>
    clear Hw H7 Hlz
    obtain ⟨i, hi, rfl, rfl, hw, h7, hlz⟩ := hrel
    have hl7 := hw.lt7
    have Hw := Lib.hid hw; have H7 := Lib.hid h7; have Hlz := Lib.hid hlz
    clear hw h7 hlz
    by_cases hin : i < os.length
    · obtain ⟨bs, so, e1, hlt, x0, x1, x2, x3⟩ := IR.at4 Hw.out.spr' hin
      have hq := HS.out i hin
      subst e1
      generalize (flat4 os).getD (i * 4) 0 = q0 at *
      generalize (flat4 os).getD (i * 4 + 1) 0 = q1 at *
      generalize (flat4 os).getD (i * 4 + 2) 0 = q2 at *
      generalize (flat4 os).getD (i * 4 + 3) 0 = q3 at *
      have hpr := pickS_range (stN st i) (q3 - q2 + 1) (by omega)
      have hdr := fun w' => draw_any (stN st i) (q3 - q2 + 1) w' (by omega) (by omega)
      generalize pickS (nextS (stN st i)) (q3 - q2 + 1) = pk at *
      obtain ⟨nx, enx⟩ : ∃ nx, nextS (stN st i) = nx := ⟨_, rfl⟩
      rw [enx] at hdr
      have Hdr := Lib.hid hdr; have Enx := Lib.hid enx
      clear hdr enx
      obtain ⟨wo, rfl⟩ : ∃ wo : World, wo = wr := ⟨_, rfl⟩
      have hn1 := heap_alloc_new wo (.cells #[.int .i64 q0, .int .i64 q1, .int .i64 q2, .int .i64 q3] 61)
      have hn2 := (Below.refl wo.heap.size wo).alloc (Nat.le_refl _) (.cells #[.int .i64 q0, .int .i64 q1, .int .i64 q2, .int .i64 q3] 61)
      have Hn1 := Lib.hid hn1; have Hn2 := Lib.hid hn2
      clear hn1 hn2
      go_upto_region 10 with fail
      refine step_world (fun wx => wx.heap[wo.heap.size]? = some (.cells #[.int .i64 q0, .int .i64 q1, .int .i64 q2, .int .i64 q3] 61 (0, 0)) ∧ Below wo.heap.size wo wx) ⟨Hn1.out, Hn2.out⟩ ?_
      clear Hn1 Hn2 x0 x1 x2 x3
      rintro wS ⟨hS, hbS⟩
      have hlS := lt_of_block hS
      have s2 := (obj_cell hS 2).trans rfl
      have s3 := (obj_cell hS 3).trans rfl
      have HwS := Lib.hid (Hw.out.go hbS); have H7S := Lib.hid (H7.out.go hbS); have HlzS := Lib.hid (Hlz.out.kept ((keptOn_below hbS).mono (fun b h => Nat.lt_trans h hl7)) (fun b h => h))
      have HS2 := Lib.hid hS
      clear hS hbS Hw H7 Hlz
      go_upto_region 11 with (go_at_call 6; refine (Hdr.out _).mono ?_; rintro e wD ⟨rfl, hbD⟩; have HbD := Lib.hid hbD; clear hbD s2 s3)
      have s2 := (obj_cell ((HbD.out.block _ hlS).trans HS2.out) 2).trans rfl
      have s3 := (obj_cell ((HbD.out.block _ hlS).trans HS2.out) 3).trans rfl
      have HwD := Lib.hid (HwS.out.go HbD.out); have H7D := Lib.hid (H7S.out.go HbD.out); have HlzD := Lib.hid (HlzS.out.kept ((keptOn_below HbD.out).mono (fun b h => Nat.lt_trans h HwS.out.lt7)) (fun b h => h))
      clear HwS H7S HlzS HS2 hlS
      go_wp2_with fail
      go_roundw
      case rel => exact ⟨i + 1, by omega, by go_num, (by rw [← Enx.out]; rfl), HwD.out, H7D.out, HlzD.out⟩
      case measure => simp [intOf]; omega
    · obtain rfl : os.length = i := by omega
      go_upto_if 77 with fail
      rcases Hcase.out with ⟨rfl, hok⟩ | ⟨hne, hz0⟩
      · have hw0 := win_0 Hval.out HK.out hok
        have Hw0 := Lib.hid hw0
        have hlz0 := Hlz.out.kept (T := fun b => b ≠ b7 ∧ b < wr.heap.size) (KeptOn.refl _ _) (fun b h => ⟨by omega, by omega⟩)
        have Hlz0 := Lib.hid hlz0
        clear hw0 hok hlz0 Hcase HG Hlz
        go_wp2_with fail
        go_loopw [84] (fun iv wr => ∃ (k : Nat) (z : LensD) (fz vz sz kz : Ptr), k ≤ os.length ∧ iv = .int .i64 (k : Int) ∧ Win xx (flat4 os) st os.length k z ∧ WS w b1 b7 xx f v s ⟨none, 0, 0⟩ la os.length lc (flat4 os) wr ∧ BenchB wr b7 48 z fz vz sz kz ∧ LensAt (fun b => b ≠ b7 ∧ b < wr.heap.size) wr z fz vz sz kz) (fun iv _ => os.length - (intOf iv).toNat)
        case atStart => exact ⟨0, z, fz, vz, sz, kz, by omega, rfl, Hw0.out, Hw.out, H7.out, Hlz0.out⟩
        case round =>
          clear Hw H7 Hlz0 Hw0 hl7
          obtain ⟨k, z, fz, vz, sz, kz, hk, rfl, hwin, hw, h7, hlz⟩ := hrel
          have hl7 := hw.lt7
          have h17 := hw.lt1
          have Hw := Lib.hid hw; have H7 := Lib.hid h7; have Hlz := Lib.hid hlz; have Hwin := Lib.hid hwin
          clear hw h7 hlz hwin
          by_cases hkn : k < os.length
          · obtain ⟨hE1, hE2, hvb, o, hzo, ho1, ho2, ho3, ho4⟩ := Hwin.out.reads Hval.out HZ.out HK.out HS.out hkn
            have hnx := fun hs => Hwin.out.next HK.out hkn hs
            obtain ⟨bs, so, e1, hlt, x0, x1, x2, x3⟩ := IR.at4 Hw.out.spr' hkn
            subst e1
            generalize (flat4 os).getD (k * 4) 0 = q0 at *
            generalize (flat4 os).getD (k * 4 + 1) 0 = q1 at *
            generalize (flat4 os).getD (k * 4 + 2) 0 = q2 at *
            generalize (flat4 os).getD (k * 4 + 3) 0 = q3 at *
            have hgx := fun f v s k' w' hx hP => lGet_any xx f v s k' q0 q1 w' hx hP
            have hgz := fun f v s k' w' hx hP => lGet_any z f v s k' q0 q1 w' hx hP
            unfold lgetV at hgx hgz
            rw [hE1, if_pos rfl] at hgx
            rw [hE2, if_pos rfl] at hgz
            have hsz := fun va f v s k' w' hx hP => lset_w z f v s k' q0 q1 va b7 w' hx hP
            generalize getAt xx.l q0 q1 = va at *
            generalize getAt z.l q0 q1 = wv at *
            have hd1 : q2 ≤ wv - va := by omega
            have hd2 : wv - va ≤ q3 := by omega
            have hd3 : IntKind.i64.wrap (wv - va) = wv - va := IntWalk.i64_in _ (by omega)
            have Hgx := Lib.hid hgx; have Hgz := Lib.hid hgz; have Hsz := Lib.hid hsz; have Hnx := Lib.hid hnx
            clear hE1 hE2 hnx hgx hgz hsz hzo ho1 ho2 ho3 ho4 hvb
            obtain ⟨wo, rfl⟩ : ∃ wo : World, wo = wr := ⟨_, rfl⟩
            have hn1 := heap_alloc_new wo (.cells #[.int .i64 q0, .int .i64 q1, .int .i64 q2, .int .i64 q3] 61)
            have hn2 := (Below.refl wo.heap.size wo).alloc (Nat.le_refl _) (.cells #[.int .i64 q0, .int .i64 q1, .int .i64 q2, .int .i64 q3] 61)
            have Hn1 := Lib.hid hn1; have Hn2 := Lib.hid hn2
            clear hn1 hn2
            go_upto_region 22 with fail
            refine step_world (fun wx => wx.heap[wo.heap.size]? = some (.cells #[.int .i64 q0, .int .i64 q1, .int .i64 q2, .int .i64 q3] 61 (0, 0)) ∧ Below wo.heap.size wo wx) ⟨Hn1.out, Hn2.out⟩ ?_
            clear Hn1 Hn2 x0 x1 x2 x3
            rintro wS ⟨hS, hbS⟩
            have hlS := lt_of_block hS
            have s0 := (obj_cell hS 0).trans rfl
            have s1 := (obj_cell hS 1).trans rfl
            have HwS := Lib.hid (Hw.out.go hbS); have H7S := Lib.hid (H7.out.go hbS); have HlzS := Lib.hid (Hlz.out.kept (T := fun b => b ≠ b7 ∧ b < wS.heap.size) ((keptOn_below hbS).mono (fun b h => h.2)) (fun b h => ⟨h.1, Nat.lt_of_lt_of_le h.2 hbS.size⟩))
            have HS2 := Lib.hid hS
            clear hS hbS Hw H7 Hlz
            go_upto_region 23 with (first
              | (refine wpL_load_lens HwS.out.h5 rfl (.tmp 5) rfl rfl ?_)
              | (go_at_call 16; refine (Hgx.out f v s _ _ HwS.out.lens' (HP.out.go HwS.out.b)).mono ?_; rintro e wA ⟨rfl, hbA⟩; have HbA := Lib.hid hbA; clear hbA))
            have HwA := Lib.hid (HwS.out.go HbA.out); have H7A := Lib.hid (H7S.out.go HbA.out); have HlzA := Lib.hid (HlzS.out.kept (T := fun b => b ≠ b7 ∧ b < wA.heap.size) ((keptOn_below HbA.out).mono (fun b h => h.2)) (fun b h => ⟨h.1, Nat.lt_of_lt_of_le h.2 HbA.out.size⟩))
            have HSA := Lib.hid ((HbA.out.block _ hlS).trans HS2.out)
            clear HwS H7S HlzS HS2 hlS HbA s0 s1
            have hlA := lt_of_block HSA.out
            have s0 := (obj_cell HSA.out 0).trans rfl
            have s1 := (obj_cell HSA.out 1).trans rfl
            go_upto_region 24 with (first
              | (refine wpL_load_lens H7A.out rfl (.tmp 7) rfl rfl ?_)
              | (go_at_call 16; refine (Hgz.out fz vz sz kz _ (HlzA.out.kept (KeptOn.refl _ _) (fun b h => h.2)) (HP.out.go HwA.out.b)).mono ?_; rintro e wB ⟨rfl, hbB⟩; have HbB := Lib.hid hbB; clear hbB))
            have HwB := Lib.hid (HwA.out.go HbB.out); have H7B := Lib.hid (H7A.out.go HbB.out); have HlzB := Lib.hid (HlzA.out.kept (T := fun b => b ≠ b7 ∧ b < wB.heap.size) ((keptOn_below HbB.out).mono (fun b h => h.2)) (fun b h => ⟨h.1, Nat.lt_of_lt_of_le h.2 HbB.out.size⟩))
            have HSB := Lib.hid ((HbB.out.block _ hlA).trans HSA.out)
            clear HwA H7A HlzA HSA hlA HbB s0 s1
            have s0 := (obj_cell HSB.out 0).trans rfl
            have s1 := (obj_cell HSB.out 1).trans rfl
            have s2 := (obj_cell HSB.out 2).trans rfl
            have s3 := (obj_cell HSB.out 3).trans rfl
            go_upto_if 139 with (first
              | (refine wpL_load_lens H7B.out rfl (.tmp 7) rfl rfl ?_)
              | (go_at_call 17; refine (Hsz.out va fz vz sz kz _ HwB.out.lt7 (HlzB.out.kept (KeptOn.refl _ _) (fun b h => h.2)) (HP.out.go HwB.out.b)).mono ?_; rintro e wE ⟨z', e', f', v', s', k', rfl, hl', hb', hc'⟩; have Hl' := Lib.hid hl'; have Hb' := Lib.hid hb'; have Hc' := Lib.hid hc'; have H7E := Lib.hid (H7B.out.go hb'); have HwE := Lib.hid (HwB.out.go hb'); clear hl' hb' hc')
              | (refine wpL_store_lens z' f' v' s' k' H7E.out rfl rfl (.tmp 7) (.tmp 136) rfl rfl rfl ?_; intro wF h7F e7F; have H7F := Lib.hid h7F; have E7F := Lib.hid e7F; clear h7F e7F))
            have hkF : KeptOn (fun b => b ≠ b7) wE wF := by rw [E7F.out]; exact keptOn_setCells _ _ _ _
            have hsF : wF.heap.size = wE.heap.size := by rw [E7F.out, size_setCells]
            have hwF := HwE.out.kept (hkF.mono (fun b h => Nat.ne_of_lt h)) (by rw [hsF]; exact HwE.out.lt7) (by rw [E7F.out]; exact below_setCells HwE.out.ge7 _ _ HwE.out.b)
            have hlF := Hl'.out.kept (T := fun b => b ≠ b7 ∧ b < wF.heap.size) (hkF.mono (fun b h => h.1)) (fun b h => ⟨h.1, by rw [hsF]; exact h.2⟩)
            have HwF := Lib.hid hwF; have HlF := Lib.hid hlF
            clear hkF hsF hwF hlF
            rcases Hc'.out with hne | ⟨rfl, hs0, rfl⟩
            · have hne' : (e' != 0) = true := by simpa using hne
              clear hne Hc'
              go_wp2_with fail
              go_ret
              exact ⟨rfl, HwF.out.b⟩
            · have Hw' := Lib.hid (Hnx.out hs0)
              clear hs0 Hc'
              go_wp2_with fail
              go_roundw
              case rel =>
                (repeat apply Exists.intro)
                refine ⟨?rel2, rfl⟩
                exact ⟨k + 1, _, f', v', s', k', by omega, by go_num, Hw'.out, HwF.out, H7F.out, HlF.out⟩
              case measure => simp [intOf]; omega
          · obtain rfl : os.length = k := by omega
            have hzx := Hwin.out.fin
            subst hzx
            have hlz2 := Hlz.out.kept (T := fun b => b < wr.heap.size) (KeptOn.refl _ _) (fun b h => h.2)
            have Hlz2 := Lib.hid hlz2; clear hlz2
            go_wp2_with (first
              | (refine wpL_load_lens Hw.out.h5 rfl (.tmp 5) rfl rfl ?_)
              | (refine wpL_load_lens H7.out rfl (.tmp 7) rfl rfl ?_)
              | (go_at_call 15; refine (rlSame_eq _ _ _ _ _ _ _ _ _ _ Hw.out.lens' Hlz2.out).mono ?_; rintro e w21 ⟨rfl, hb21⟩; have Hb21 := Lib.hid hb21; clear hb21))
            go_ret
            exact ⟨rfl, below_chain Hw.out.b Hb21.out⟩
      · have hne' : (er != 0) = true := by simpa using hne
        obtain ⟨sza, szn, szc⟩ := sz
        have hz1 : szn = 0 := by
          have := Hlz.out.l.1
          rw [hz0] at this
          exact this.symm
        subst hz1
        have c7 := H7.out.cells.2.2.2.2.2.2.2.1
        clear hne hz0 Hcase HG
        go_wp2_with fail
        go_ret
        exact ⟨rfl, Hw.out.b⟩

end Go.Proofs.YthommhfppeonpaaGreatDoor
