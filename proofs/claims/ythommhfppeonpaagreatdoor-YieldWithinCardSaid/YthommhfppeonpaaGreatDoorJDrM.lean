/-
  DERIVED. Drafts of yields: the walk of Spreads.
-/
import Derived.Test.YthommhfppeonpaaGreatDoorKah
import Derived.Test.YthommhfppeonpaaGreatDoorKae
namespace Go.Proofs.YthommhfppeonpaaGreatDoor
open Go.RowKit

theorem irp_dropE {S : Nat → Prop} {w : World} {a : Option Addr} {c : Nat} {l : List Q4} {k : Nat} (hk : l.length ≤ k) : IRp S w 4 a (l.length - k) c (flat4 (l.drop k)) := by
  rw [List.drop_of_length_le hk, Nat.sub_eq_zero_of_le hk]; exact IRp.nil _ _ _ _ _

set_option maxRecDepth 100000 in
set_option maxHeartbeats 12800000 in
theorem spreads_any (x : Dr39) (p : P39) (w : World) (hx : Dr39At (fun b => b < w.heap.size) w x p) :
    Calls Tryz.prog 9 #[dr39V x p] w (RetSpr (lens39Of x) w) := by
  have Hx := Lib.hid hx; clear hx
  have hb0 := (Below.refl w.heap.size w).alloc (Nat.le_refl _) (.cells (cells39 x p).toArray 34)
  have hg0 := B39.new w x p
  have Hg0 := Lib.hid hg0; have Hb0 := Lib.hid hb0; clear hg0 hb0
  go_enter Tryz.func9, Tryz.ntmps9
  go_upto_region 1 with fail
  refine step_world (fun wx => B39 wx w.heap.size x p ∧ Below w.heap.size w wx) ⟨Hg0.out, Hb0.out⟩ ?_
  clear Hg0 Hb0
  rintro w1 ⟨h1, hb⟩
  have hl1 := h1.lt
  have H1 := Lib.hid h1; have Hb := Lib.hid hb
  clear h1 hb
  go_upto_region 2 with (first
    | (refine wpL_load_39 H1.out rfl (.tmp 1) rfl rfl ?_)
    | (go_at_call 8; refine (lens39_any x p _ (Hx.out.go Hb.out)).mono ?_; rintro e w2 ⟨y, f, v, s, k, rfl, hla, hval, hyl, hb2⟩; have Hla := Lib.hid hla; have Hval := Lib.hid hval; have Hyl := Lib.hid hyl; have Hb2 := Lib.hid hb2; clear hla hval hyl hb2)
    | (refine wpL_store_lens y f v s k (heap_alloc_new w2 _) rfl rfl (.tmp 3) (.tmp 13) rfl rfl rfl ?_; intro w10 h10 e10; have H10 := Lib.hid h10; have E10 := Lib.hid e10; clear h10 e10))
  have hk10 : KeptOn (fun b => b < w2.heap.size) w2 w10 := by
    rw [E10.out]
    intro b hb
    exact (keptOn_setCells w2.heap.size _ 0 _ b (Nat.ne_of_lt hb)).trans (Below.heap_alloc _ _ _ hb)
  have hs10 : w10.heap.size = w2.heap.size + 1 := by rw [E10.out, size_setCells]; simp
  have hb10 : Below w2.heap.size w2 w10 := by rw [E10.out]; exact below_setCells (Nat.le_refl _) _ _ (below_al (Below.refl _ _))
  have hsn : s.n ≤ 16 := by
    obtain ⟨_, _, _, _, hs, _⟩ := valid_parts Hval.out
    have hl := Hla.out.l.1
    have hs : surfacesB y.stop y.l = true := hs
    unfold surfacesB bt at hs
    simp at hs
    omega
  obtain ⟨g3, eg3⟩ : ∃ g3, g3 = w2.heap.size := ⟨_, rfl⟩
  simp only [← eg3]
  have Eg3 := Lib.hid eg3; clear eg3
  refine step_world (fun wx => B39 wx w.heap.size x p ∧ BenchB wx g3 48 y f v s k ∧ LensAt (fun b => b < wx.heap.size) wx y f v s k ∧ Below w.heap.size w wx ∧ Dr39At (fun b => b < w.heap.size) wx x p) ⟨H1.out.go (below_chain Hb2.out hb10), (by rw [Eg3.out]; exact H10.out), Hla.out.kept (hk10.mono (fun b h => h.2)) (fun b h => by rw [hs10]; omega), below_chain Hb.out (below_chain Hb2.out hb10), Hx.out.kept (keptOn_below (below_chain Hb.out (below_chain Hb2.out hb10))) (fun b h => h)⟩ ?_
  clear hk10 hs10 hb10 H1 Hb Hb2 H10 E10 Hla Eg3 Hx hl1
  rintro w3 ⟨h1, h3, hla, hb, hx⟩
  obtain ⟨sa, sn, sc⟩ := s
  simp only at hsn
  have hl1 := h1.lt
  have hl3 := h3.lt
  have H1 := Lib.hid h1; have H3 := Lib.hid h3; have Hla := Lib.hid hla; have Hb := Lib.hid hb; have Hx := Lib.hid hx
  clear h1 h3 hla hb hx
  go_wp2_with fail
  go_loopw [4, 5] (fun av iv wr => ∃ (i : Nat) (all : List Q4), i ≤ sn ∧ iv = .int .i64 (i : Int) ∧ all.length ≤ 17 * i ∧ wr.ownsRow w3.heap.size 61 4 av all.length ((flat4 all).map (Value.int .i64)) ∧ SprA y i 1 all ∧ Below w3.heap.size w3 wr) (fun _ iv _ => sn - (intOf iv).toNat)
  case atStart => exact ⟨0, [], by omega, rfl, by simp, ⟨rfl, Or.inl ⟨rfl, rfl⟩⟩, ⟨by simp, by simp, by simp⟩, Below.refl _ _⟩
  case round =>
    obtain ⟨i, all, hi, rfl, hal, ho, hsa, hbr⟩ := hrel
    have Ho := Lib.hid ho; have Hsa := Lib.hid hsa; have Hbr := Lib.hid hbr
    clear ho hsa hbr
    have c7 := (H3.out.go Hbr.out).cells.2.2.2.2.2.2.2.1
    have hg3r : g3 < wr.heap.size := Nat.lt_of_lt_of_le hl3 Hbr.out.size
    by_cases hin : i < sn
    · go_wp2_with fail
      go_loopw [4, 6] (fun av pv wr => ∃ (j : Nat) (all : List Q4), 1 ≤ j ∧ j ≤ 18 ∧ pv = .int .i64 (j : Int) ∧ all.length + 1 ≤ 17 * i + j ∧ wr.ownsRow w3.heap.size 61 4 av all.length ((flat4 all).map (Value.int .i64)) ∧ SprA y i j all ∧ Below w3.heap.size w3 wr) (fun _ pv _ => 18 - (intOf pv).toNat)
      case atStart => exact ⟨1, all, by omega, by omega, rfl, by omega, Ho.out, Hsa.out, Hbr.out⟩
      case round =>
        clear Ho Hsa Hbr c7 hal hg3r
        obtain ⟨j, all, hj1, hj, rfl, hal, ho, hsa, hbr⟩ := hrel
        have hg3r : g3 < wr.heap.size := Nat.lt_of_lt_of_le hl3 hbr.size
        have hszr := hbr.size
        have Ho := Lib.hid ho; have Hsa := Lib.hid hsa; have Hbr := Lib.hid hbr
        clear ho hsa hbr
        by_cases hj17 : j ≤ 17
        · cases hh : lHasB y i j
          all_goals
            have Hh := Lib.hid hh; clear hh
            go_upto_if 28 with (first
              | (refine wpL_load_lens (H3.out.go Hbr.out) rfl (.tmp 3) rfl rfl ?_)
              | (go_at_call 24; refine (rHas_any y f v _ k _ _ _ (Hla.out.go Hbr.out)).mono ?_; rintro e w5 ⟨he, hb5⟩; rw [Hh.out] at he; subst he; have Hb5 := Lib.hid hb5; clear hb5))
          · have Ho5 := Lib.hid (ownsRow_below Ho.out Hb5.out)
            go_wp2_with fail
            go_roundw
            case rel => exact ⟨j + 1, all, by omega, by omega, by go_num, by omega, Ho5.out, Hsa.out.skip, below_chain Hbr.out Hb5.out⟩
            case measure => simp [intOf]; omega
          · have Ho5 := Lib.hid (ownsRow_below Ho.out Hb5.out)
            have hsz5 := Hb5.out.size
            go_wp2_with (refine wpList_append_sp rfl (.tmp 29) (.tmp 33) rfl w3.heap.size _ all ((i : Int), (j : Int), 0, 0) rfl (Ho5.out.alloc _) rfl (heap_alloc_new _ _) (by omega) (by simp; omega) ?_; intro g6 cap6 w6 ho6 hb6 _ _ _ hs6; have Ho6 := Lib.hid ho6; have Hb6 := Lib.hid ((below_chain Hbr.out Hb5.out).alloc (by omega) _ |>.trans hb6); clear ho6 hb6)
            go_roundw
            case rel => exact ⟨j + 1, all ++ [((i : Int), (j : Int), 0, 0)], by omega, by omega, by go_num, by simp; omega, by rw [List.length_append]; exact Ho6.out, Hsa.out.next Hh.out, Hb6.out⟩
            case measure => simp [intOf]; omega
        · go_wp2_with fail
          go_roundw
          case rel => exact ⟨i + 1, all, by omega, by go_num, by omega, Ho.out, Hsa.out.line, Hbr.out⟩
          case measure => simp [intOf]; omega
    · have hal2 : all.length ≤ 272 := by omega
      obtain ⟨aa, ac, rfl, hac, hir⟩ := own_irp Ho.out
      have Hac := Lib.hid hac; have Hir := Lib.hid hir
      have Hsm := Lib.hid (show SprM y [] all from ⟨Hsa.out.nd, by simp, Hsa.out.has, by simp⟩)
      clear hac hir hal Ho Hsa
      go_wp2_with fail
      go_loopw [4, 7, 8] (fun av ov iv wq => ∃ (t : Nat) (os all : List Q4) (aa : Option Addr) (ac : Nat), t ≤ 5 ∧ os.length = t ∧ all.length ≤ 272 ∧ iv = .int .i64 (t : Int) ∧ av = .slice aa all.length ac ∧ (aa = none → ac = 0) ∧ wq.ownsRow w3.heap.size 61 4 ov t ((flat4 os).map (Value.int .i64)) ∧ IRp (fun b => w3.heap.size ≤ b ∧ b < wq.heap.size ∧ ov.ownBlock ≠ some b) wq 4 aa all.length ac (flat4 all) ∧ SprM y os all ∧ Below w3.heap.size w3 wq) (fun _ _ iv _ => 5 - (intOf iv).toNat)
      case atStart => exact ⟨0, [], all, aa, ac, by omega, rfl, hal2, rfl, rfl, Hac.out, ⟨rfl, Or.inl ⟨rfl, rfl⟩⟩, Hir.out.kept (KeptOn.refl _ _) (fun b h => ⟨h.1, h.2, fun e => by cases e⟩), Hsm.out, Hbr.out⟩
      case round =>
        clear Hac Hir Hsm Hbr hal2 c7 hg3r hl3
        obtain ⟨t, os, all, aa, ac, ht, hos, hal, rfl, rfl, hac, ho, hir, hsm, hbr⟩ := hrel
        have c16 : wr.cell? ⟨w.heap.size, 16, none⟩ = some (.slice p.l.a p.l.n p.l.c) := (obj_cell (H1.out.go hbr) 16).trans rfl
        have hlr : w.heap.size < wr.heap.size := Nat.lt_of_lt_of_le hl1 hbr.size
        have hszr := hbr.size
        have hcap := hir.2.1
        have Hac := Lib.hid hac; have Ho := Lib.hid ho; have Hir := Lib.hid hir; have Hsm := Lib.hid hsm; have Hbr := Lib.hid hbr; have Hos := Lib.hid hos
        clear hac ho hir hsm hbr hos
        by_cases hc : (t < p.l.n ∧ t < 5) ∧ 0 < all.length
        · obtain ⟨⟨htn, ht5⟩, ha0⟩ := hc
          obtain ⟨bo, oo, q, qcs, e1, hlo, -, ⟨rfl, hq0, hq1, hq2⟩, hqr⟩ := (Hx.out.kept (S := fun b => b < w.heap.size) (T := fun b => b < w.heap.size) ((keptOn_below Hbr.out).mono (fun b h => by omega)) (fun b h => h)).l.at htn
          have x0 := hqr 0 _ rfl; have x1 := hqr 1 _ rfl; have x2 := hqr 2 _ rfl
          rw [Nat.add_zero] at x0
          obtain ⟨pl, lo, wd⟩ := q
          unfold u16In at hq0 hq2; unfold i16In at hq1
          simp only at x0 x1 x2 hq0 hq1 hq2
          clear hqr
          obtain ⟨kq, ekq, hkq⟩ : ∃ kq : Nat, pl % (all.length : Int) = (kq : Int) ∧ kq < all.length := by
            have h0 := Int.emod_nonneg pl (by omega : (all.length : Int) ≠ 0)
            have h1 := Int.emod_lt_of_pos pl (by omega : (0 : Int) < (all.length : Int))
            exact ⟨(pl % (all.length : Int)).toNat, by omega, by omega⟩
          obtain ⟨⟨q0, q1, q2, q3⟩, hq⟩ : ∃ q, all[kq]? = some q := ⟨_, List.getElem?_eq_getElem hkq⟩
          obtain ⟨ba, oa, rfl, hla, y0, y1, y2, y3⟩ := IR.at4 (N := wr.heap.size) (Hir.out.ir (fun _ h => h.2.1)) hkq
          have f0 := flat4_at all kq _ 0 hq (by omega); have f1 := flat4_at all kq _ 1 hq (by omega); have f2 := flat4_at all kq _ 2 hq (by omega); have f3 := flat4_at all kq _ 3 hq (by omega)
          rw [Nat.add_zero] at f0
          rw [f0] at y0; rw [f1] at y1; rw [f2] at y2; rw [f3] at y3
          simp only [f4, List.getD_cons_zero, List.getD_cons_succ] at y0 y1 y2 y3
          have Hq := Lib.hid hq
          clear f0 f1 f2 f3 hq
          have hlor : bo < wr.heap.size := by omega
          obtain ⟨wo, rfl⟩ : ∃ wo : World, wo = wr := ⟨_, rfl⟩
          have hn1 := heap_alloc_new wo (.cells #[.int .i64 q0, .int .i64 q1, .int .i64 (10 * lo), .int .i64 q3] 61)
          have hn2 := (Below.refl wo.heap.size wo).alloc (Nat.le_refl _) (.cells #[.int .i64 q0, .int .i64 q1, .int .i64 (10 * lo), .int .i64 q3] 61)
          have Hn1 := Lib.hid hn1; have Hn2 := Lib.hid hn2
          clear hn1 hn2
          go_upto_region 18 with fail
          refine step_world (fun wx => wx.heap[wo.heap.size]? = some (.cells #[.int .i64 q0, .int .i64 q1, .int .i64 (10 * lo), .int .i64 q3] 61 (0, 0)) ∧ Below wo.heap.size wo wx) ⟨Hn1.out, Hn2.out⟩ ?_
          clear Hn1 Hn2
          rintro wS ⟨hS, hbS⟩
          have hlS := lt_of_block hS
          have s2 := (obj_cell hS 2).trans rfl
          have c16S := (hbS.cell (p := ⟨w.heap.size, 16, none⟩) hlr).trans c16
          have x2S := (hbS.cell (p := ⟨bo, oo + t * 3 + 2, none⟩) hlor).trans x2
          have hlrS : w.heap.size < wS.heap.size := Nat.lt_of_lt_of_le hlr hbS.size
          have hlorS : bo < wS.heap.size := Nat.lt_of_lt_of_le hlor hbS.size
          have HS := Lib.hid hS; have HbS := Lib.hid hbS
          clear hS hbS c16 x0 x1 x2 y0 y1 y2 y3
          obtain ⟨mw, emw, hmw0, hmw1⟩ := tmod_u8 hq2.1 10000 (by omega)
          have u1 : IntKind.i64.wrap mw = mw := IntWalk.i64_in _ (by omega)
          have u2 : IntKind.i64.wrap (10 * mw) = 10 * mw := IntWalk.i64_in _ (by omega)
          have u3 : IntKind.i64.wrap (10 * lo + 10 * mw) = 10 * lo + 10 * mw := IntWalk.i64_in _ (by omega)
          refine wp_region_floats 13 [12] [] [(0, true), (1, true), (2, true), (3, true), (4, true), (5, true), (6, true), (7, true), (8, true), (9, true), (10, true), (11, true), (12, true)] (by kernel_rfl) (by kernel_rfl) ⟨by simp, by simp, fun _ h => by cases h⟩ (fun _ _ _ _ _ h => h) (fun _ _ o _ _ h => by cases o <;> exact h) ?_
          iterate 12
            refine wpG_yield (v := ?_) rfl rfl (by rfl) ?_ ?_
            rotate_left
            · intro y hy
              have z0 := (hy.cell (p := ⟨wo.heap.size, 2, none⟩) hlS).trans s2
              have z1 := (hy.cell (p := ⟨w.heap.size, 16, none⟩) hlrS).trans c16S
              have z2 := (hy.cell (p := ⟨bo, oo + t * 3 + 2, none⟩) hlorS).trans x2S
              go_simp
              with_reducible rfl
            try simp only [Act.put, List.setIfInBounds_toArray, List.set_cons_zero, List.set_cons_succ]
          iterate 1
            refine wpG_pure (v := ?_) rfl (by rfl) ?_ ?_
            rotate_left
            · intro y
              go_simp
              with_reducible rfl
            try simp only [Act.put, List.setIfInBounds_toArray, List.set_cons_zero, List.set_cons_succ]
          refine wpG_nil0 (l := [_]) rfl (fun w5 hbc => ?_)
          try simp only [Act.put, List.setIfInBounds_toArray, List.set_cons_zero, List.set_cons_succ]
          have hb5 : Below wS.heap.size wS w5 := below_undrew (k := 1) hbc
          clear hbc s2 c16S x2S u1 u2 u3
          have h5 := (hb5.block _ hlS).trans HS.out
          have k3 := (obj_cell h5 3).trans rfl
          have f3 : w5.frozen? ⟨wo.heap.size, 3, none⟩ = false := by rw [World.frozen?, h5]; rfl
          have hn3 := obj_setCell h5 3 (.int .i64 (10 * lo + 10 * mw))
          simp only [List.setIfInBounds_toArray, List.set_cons_zero, List.set_cons_succ] at hn3
          have hb6' := (below_chain HbS.out hb5).setCell (p := ⟨wo.heap.size, 3, none⟩) (Nat.le_refl _) (.int .i64 (10 * lo + 10 * mw))
          have Hn3 := Lib.hid hn3; have Hb6' := Lib.hid hb6'
          clear h5 hn3 hb6' hb5 HS HbS hlS hlrS hlorS
          go_upto_region 19 with fail
          refine step_world (fun wx => wx.heap[wo.heap.size]? = some (.cells #[.int .i64 q0, .int .i64 q1, .int .i64 (10 * lo), .int .i64 (10 * lo + 10 * mw)] 61 (0, 0)) ∧ Below wo.heap.size wo wx) ⟨Hn3.out, Hb6'.out⟩ ?_
          clear Hn3 Hb6' k3 f3
          rintro wT ⟨hT, hbT⟩
          have t0 := (obj_cell hT 0).trans rfl
          have t1 := (obj_cell hT 1).trans rfl
          have t2 := (obj_cell hT 2).trans rfl
          have t3 := (obj_cell hT 3).trans rfl
          have hszT := hbT.size
          have HoT := Lib.hid (ownsRow_below Ho.out hbT)
          have HirT := Lib.hid (Hir.out.kept ((keptOn_below hbT).mono (fun b h => h.2.1)) (fun b h => (⟨h.1, h.2.1, h.2.2⟩ : w3.heap.size ≤ b ∧ b < wo.heap.size ∧ u7.ownBlock ≠ some b)))
          have HbT := Lib.hid (Hbr.out.trans (hbT.mono hszr))
          have Hnx := Lib.hid (Hsm.out.next Hq.out (lo := 10 * lo) (hi := 10 * lo + 10 * mw) ⟨by omega, by omega, by omega⟩)
          clear hT hbT Ho Hir Hbr Hsm Hq
          go_upto_region 20 with (refine wpList_append_sp rfl (.tmp 87) (.tmp 89) rfl w3.heap.size _ os (q0, q1, 10 * lo, 10 * lo + 10 * mw) rfl (by have q := HoT.out.alloc (.cells #[.int .i64 q0, .int .i64 q1, .int .i64 (10 * lo), .int .i64 (10 * lo + 10 * mw)] 61); rw [← Hos.out] at q; exact q) rfl (heap_alloc_new _ _) (by rw [Hos.out]; omega) (by simp; omega) ?_; intro g6 cap6 w6 ho6 hb6 hk6 hat6 hlt6 hs6; have Ho6 := Lib.hid ho6; have Hb6 := Lib.hid hb6; have Hk6 := Lib.hid hk6; have Hat6 := Lib.hid hat6; have Hs6 := Lib.hid hs6; have Hlt6 := Lib.hid hlt6; clear ho6 hb6 hk6 hat6 hs6 hlt6)
          have hs6 := Hs6.out
          rw [size_alloc] at hs6
          have hir6 := HirT.out.kept (T := fun b => w3.heap.size ≤ b ∧ b < w6.heap.size ∧ g6 ≠ b) (((keptOn_below (below_al (o := .cells #[.int .i64 q0, .int .i64 q1, .int .i64 (10 * lo), .int .i64 (10 * lo + 10 * mw)] 61) (Below.refl wT.heap.size wT))).mono (fun b h => by omega)).trans (Hk6.out.mono (fun b h => ⟨by rw [size_alloc]; omega, h.2.2⟩))) (fun b h => ⟨h.1, by omega, fun e => by
            subst e
            rcases Hat6.out with e | e
            · exact h.2.2 e
            · rw [size_alloc] at e; omega⟩)
          have hb36 : Below w3.heap.size w3 w6 := (HbT.out.alloc HbT.out.size _).trans Hb6.out
          have Hir6 := Lib.hid hir6; have Hb36 := Lib.hid hb36
          clear hir6 hb36 HirT HbT Hb6 Hk6 Hat6 Hs6 HoT t0 t1 t2 t3
          by_cases hcc : ac = kq + 1
          · subst hcc
            have hka : all.length = kq + 1 := by omega
            have hcl : kq + 1 ≤ all.length := by omega
            have Hka := Lib.hid hka; clear hka
            go_wp2_with (first
              | (refine wpList_append_irs Tryz.underlying50 Tryz.infoSpread4 rfl (by omega) (by omega) rfl (.tmp 91) (.tmp 94) rfl w6.heap.size (.slice none 0 0) 0 [] rfl ⟨rfl, Or.inl ⟨rfl, rfl⟩⟩ (fun b => w3.heap.size ≤ b ∧ b < w6.heap.size ∧ g6 ≠ b) (some ⟨ba, oa, none⟩) kq _ (flat4 (all.take kq)) rfl (irp_take4 Hir6.out (by omega)) (fun e => by cases e) (by omega) (Nat.le_refl _) ?_; intro v7 w7 hown7 hgrow7; have Hown7 := Lib.hid hown7; have Hb7 := Lib.hid ((Below.refl w6.heap.size w6).grown hgrow7 (Nat.le_refl _) (fun k hk => by cases hk)); have Hir7 := Lib.hid (Hir6.out.kept (S := fun b => w3.heap.size ≤ b ∧ b < w6.heap.size ∧ g6 ≠ b) (T := fun b => w3.heap.size ≤ b ∧ b < w6.heap.size ∧ g6 ≠ b) ((keptOn_below Hb7.out).mono (fun b h => h.2.1)) (fun b h => h)); clear hown7 hgrow7)
              | (refine wpList_append_irs Tryz.underlying50 Tryz.infoSpread4 rfl (by omega) (by omega) rfl (.tmp 96) (.tmp 100) rfl w6.heap.size v7 (0 + kq) ([] ++ flat4 (all.take kq)) rfl Hown7.out (fun b => w3.heap.size ≤ b ∧ b < w6.heap.size ∧ g6 ≠ b) (some ⟨ba, oa, none⟩) 0 _ [] rfl (IRp.nil _ _ _ _ _) (fun e => by cases e) (by omega) Hb7.out.size ?_; intro v8 w8 hown8 hgrow8; have Hown8 := Lib.hid hown8; have Hb8 := Lib.hid (Hb7.out.grown hgrow8 Hb7.out.size (fun k hk => (Hown7.out.lt k hk).1)); clear hown8 hgrow8))
            have hl8 : (all.take kq ++ all.drop (kq + 1)).length = 0 + kq + (all.length - (kq + 1)) := by rw [List.length_append, List.length_take, List.length_drop]; omega
            have hown8 := Hown8.out
            have hdr8 : all.drop (kq + 1) = [] := List.drop_of_length_le (by have := Hka.out; omega)
            rw [List.nil_append, List.append_nil, show 0 + kq + 0 = (all.take kq ++ all.drop (kq + 1)).length by rw [hl8]; have := Hka.out; omega, show flat4 (all.take kq) = flat4 (all.take kq ++ all.drop (kq + 1)) by rw [hdr8, List.append_nil]] at hown8
            clear hdr8
            obtain ⟨aa8, ac8, rfl, hac8, hir8⟩ := own_irp hown8
            have Hir8 := Lib.hid hir8; have Hac8 := Lib.hid hac8; have Hl8 := Lib.hid hl8
            have ho8 := ownsRow_below Ho6.out Hb8.out
            rw [Hos.out] at ho8
            have Ho8 := Lib.hid ho8
            clear hir8 hac8 hl8 hown8 ho8 Hown8 Hown7 Hir7
            go_roundw
            case rel => exact ⟨t + 1, os ++ [(q0, q1, 10 * lo, 10 * lo + 10 * mw)], all.take kq ++ all.drop (kq + 1), aa8, ac8, by omega, by rw [List.length_append, Hos.out]; rfl, by rw [Hl8.out]; omega, by go_num, rfl, Hac8.out, (by first | exact Ho8.out | (rw [Hos.out]; exact Ho8.out)), Hir8.out.kept (KeptOn.refl _ _) (fun b h => ⟨by have := h.1; omega, h.2, fun e => by have := Hlt6.out; have := h.1; simp [Value.ownBlock] at e; omega⟩), Hnx.out, Hb36.out.trans (Hb8.out.mono (by omega))⟩
            case measure => simp [intOf]; omega
          · have hcl : kq + 1 ≤ all.length := by omega
            go_wp2_with (first
              | (refine wpList_append_irs Tryz.underlying50 Tryz.infoSpread4 rfl (by omega) (by omega) rfl (.tmp 91) (.tmp 94) rfl w6.heap.size (.slice none 0 0) 0 [] rfl ⟨rfl, Or.inl ⟨rfl, rfl⟩⟩ (fun b => w3.heap.size ≤ b ∧ b < w6.heap.size ∧ g6 ≠ b) (some ⟨ba, oa, none⟩) kq _ (flat4 (all.take kq)) rfl (irp_take4 Hir6.out (by omega)) (fun e => by cases e) (by omega) (Nat.le_refl _) ?_; intro v7 w7 hown7 hgrow7; have Hown7 := Lib.hid hown7; have Hb7 := Lib.hid ((Below.refl w6.heap.size w6).grown hgrow7 (Nat.le_refl _) (fun k hk => by cases hk)); have Hir7 := Lib.hid (Hir6.out.kept (S := fun b => w3.heap.size ≤ b ∧ b < w6.heap.size ∧ g6 ≠ b) (T := fun b => w3.heap.size ≤ b ∧ b < w6.heap.size ∧ g6 ≠ b) ((keptOn_below Hb7.out).mono (fun b h => h.2.1)) (fun b h => h)); clear hown7 hgrow7)
              | (refine wpList_append_irs Tryz.underlying50 Tryz.infoSpread4 rfl (by omega) (by omega) rfl (.tmp 96) (.tmp 100) rfl w6.heap.size v7 (0 + kq) ([] ++ flat4 (all.take kq)) rfl Hown7.out (fun b => w3.heap.size ≤ b ∧ b < w6.heap.size ∧ g6 ≠ b) (some ⟨ba, oa + (kq + 1) * 4, none⟩) (all.length - (kq + 1)) _ (flat4 (all.drop (kq + 1))) rfl (irp_drop4 Hir7.out hcl (by omega)) (fun e => by cases e) (by omega) Hb7.out.size ?_; intro v8 w8 hown8 hgrow8; have Hown8 := Lib.hid hown8; have Hb8 := Lib.hid (Hb7.out.grown hgrow8 Hb7.out.size (fun k hk => (Hown7.out.lt k hk).1)); clear hown8 hgrow8))
            have hl8 : (all.take kq ++ all.drop (kq + 1)).length = 0 + kq + (all.length - (kq + 1)) := by rw [List.length_append, List.length_take, List.length_drop]; omega
            have hown8 := Hown8.out
            rw [List.nil_append, ← flat4_app, ← hl8] at hown8
            obtain ⟨aa8, ac8, rfl, hac8, hir8⟩ := own_irp hown8
            have Hir8 := Lib.hid hir8; have Hac8 := Lib.hid hac8; have Hl8 := Lib.hid hl8
            have ho8 := ownsRow_below Ho6.out Hb8.out
            rw [Hos.out] at ho8
            have Ho8 := Lib.hid ho8
            clear hir8 hac8 hl8 hown8 ho8 Hown8 Hown7 Hir7
            go_roundw
            case rel => exact ⟨t + 1, os ++ [(q0, q1, 10 * lo, 10 * lo + 10 * mw)], all.take kq ++ all.drop (kq + 1), aa8, ac8, by omega, by rw [List.length_append, Hos.out]; rfl, by rw [Hl8.out]; omega, by go_num, rfl, Hac8.out, (by first | exact Ho8.out | (rw [Hos.out]; exact Ho8.out)), Hir8.out.kept (KeptOn.refl _ _) (fun b h => ⟨by have := h.1; omega, h.2, fun e => by have := Hlt6.out; have := h.1; simp [Value.ownBlock] at e; omega⟩), Hnx.out, Hb36.out.trans (Hb8.out.mono (by omega))⟩
            case measure => simp [intOf]; omega
        · have hx3 : ¬ t < p.l.n ∨ (t < p.l.n ∧ ¬ t < 5) ∨ (t < p.l.n ∧ t < 5 ∧ ¬ 0 < all.length) := by omega
          clear hc
          rcases hx3 with hx3 | ⟨hx3, hx4⟩ | ⟨hx3, hx4, hx5⟩
          all_goals
            go_wp2
            go_ret
            obtain ⟨a', c', e1, hac', h2⟩ := own_irp Ho.out
            subst e1
            exact ⟨a', t, c', y, os, Hyl.out, rfl, h2.kept (KeptOn.refl _ _) (fun b h => ⟨by have := Hb.out.size; have := h.1; omega, h.2⟩), hac', ht, Hsm.out.fin, below_chain Hb.out Hbr.out⟩

end Go.Proofs.YthommhfppeonpaaGreatDoor
