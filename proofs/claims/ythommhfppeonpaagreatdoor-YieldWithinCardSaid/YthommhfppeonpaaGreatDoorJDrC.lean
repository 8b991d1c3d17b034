/-
  DERIVED. Drafts of surfaces: the walk of Surface.
-/
import Derived.Test.YthommhfppeonpaaGreatDoorKab
import Derived.Test.YthommhfppeonpaaGreatDoorGab
namespace Go.Proofs.YthommhfppeonpaaGreatDoor
open Go.RowKit

theorem tmod_in (z k : Int) (hk : 0 < k) : ∃ m, z.tmod k = m ∧ -k < m ∧ m < k := by
  refine ⟨_, rfl, ?_, ?_⟩
  · have := Int.lt_tmod_of_pos z hk; omega
  · exact Int.tmod_lt_of_pos z hk

set_option maxRecDepth 100000 in
set_option maxHeartbeats 6400000 in
theorem dsurf_any (x : DrS) (a : Option Addr) (n c : Nat) (w : World) (hf : BR (fun b => b < w.heap.size) w a n c x.films) (hx : x.In) :
    Calls Tryz.prog 47 #[drsV x a n c] w (RetDS x w) := by
  obtain ⟨e1, e2⟩ := heap_two w (.cells (cellsDS x a n c).toArray 126) (.cells #[.int .i64 0, .int .i64 0, .int .i64 0, .int .i64 0, .int .i64 0, .int .i64 0, .int .i64 0, .int .i64 0, .int .i64 0, .int .i64 0, .int .i64 0, .int .i64 0, .int .i64 0, .string emptyS, .int .i64 0, .int .i64 0, .int .i64 0, .int .i64 0, .int .i64 0, .int .i64 0, .int .i64 0, .slice none 0 0] 92)
  have hb := below_two (w := w) (.cells (cellsDS x a n c).toArray 126) (.cells #[.int .i64 0, .int .i64 0, .int .i64 0, .int .i64 0, .int .i64 0, .int .i64 0, .int .i64 0, .int .i64 0, .int .i64 0, .int .i64 0, .int .i64 0, .int .i64 0, .int .i64 0, .string emptyS, .int .i64 0, .int .i64 0, .int .i64 0, .int .i64 0, .int .i64 0, .int .i64 0, .int .i64 0, .slice none 0 0] 92)
  have Hf := Lib.hid hf; have Hx := Lib.hid hx; have E1 := Lib.hid e1; have E2 := Lib.hid e2; have Hb := Lib.hid hb
  clear hf hx e1 e2 hb
  obtain ⟨mk, emk, hmk⟩ := tmod_in x.k0 3000 (by omega)
  obtain ⟨mt, emt, hmt⟩ := tmod_in x.thick 20000 (by omega)
  obtain ⟨mg, emg, hmg⟩ : ∃ m : Nat, x.glass.tmod 5 = (m : Int) ∧ m < 5 := by
    obtain ⟨m, e, h1, h2⟩ := tmod_u8 Hx.out.glass.1 5 (by omega)
    exact ⟨m.toNat, by omega, by omega⟩
  go_enter Tryz.func47, Tryz.ntmps47
  go_upto_region 1 with fail
  refine step_world (fun wx => DrSB wx w.heap.size x a n c ∧ wx.heap[w.heap.size + 1]? = some (.cells #[.int .i64 0, .int .i64 0, .int .i64 0, .int .i64 0, .int .i64 0, .int .i64 0, .int .i64 0, .int .i64 0, .int .i64 0, .int .i64 0, .int .i64 0, .int .i64 0, .int .i64 0, .string emptyS, .int .i64 0, .int .i64 0, .int .i64 0, .int .i64 0, .int .i64 0, .int .i64 0, .int .i64 0, .slice none 0 0] 92 (0, 0)) ∧ Below w.heap.size w wx) ⟨E1.out, E2.out, Hb.out⟩ ?_
  clear E1 E2 Hb
  rintro w1 ⟨h1, h2, hb⟩
  have hl1 := lt_of_block h1
  have hl2 := lt_of_block h2
  have c0 : w1.cell? ⟨w.heap.size, 0, none⟩ = some (.int .u8 x.kind) := (obj_cell h1 0).trans rfl
  have c1 : w1.cell? ⟨w.heap.size, 1, none⟩ = some (.int .i16 x.c0) := (obj_cell h1 1).trans rfl
  have c3 : w1.cell? ⟨w.heap.size, 3, none⟩ = some (.int .i16 x.k0) := (obj_cell h1 3).trans rfl
  have c12 : w1.cell? ⟨w.heap.size, 12, none⟩ = some (.int .i16 x.thick) := (obj_cell h1 12).trans rfl
  have c13 : w1.cell? ⟨w.heap.size, 13, none⟩ = some (.int .u8 x.glass) := (obj_cell h1 13).trans rfl
  have c14 : w1.cell? ⟨w.heap.size, 14, none⟩ = some (.int .u8 x.semi) := (obj_cell h1 14).trans rfl
  have H1 := Lib.hid h1; have H2 := Lib.hid h2; have Hb := Lib.hid hb
  clear h1 h2 hb
  have hr1 := Hx.out.c0; have hr2 := Hx.out.k0; have hr3 := Hx.out.thick; have hr4 := Hx.out.glass; have hr5 := Hx.out.semi
  unfold i16In at hr1 hr2 hr3; unfold u8In at hr4 hr5
  have q1 : IntKind.i64.wrap x.c0 = x.c0 := IntWalk.i64_in _ (by omega)
  have q2 : IntKind.i64.wrap (1000 * x.c0) = 1000 * x.c0 := IntWalk.i64_in _ (by omega)
  have q3 : IntKind.i64.wrap mk = mk := IntWalk.i64_in _ (by omega)
  have q4 : IntKind.i64.wrap (1000 * mk) = 1000 * mk := IntWalk.i64_in _ (by omega)
  have q5 : IntKind.i64.wrap mt = mt := IntWalk.i64_in _ (by omega)
  have q6 : IntKind.i64.wrap (1000 * mt) = 1000 * mt := IntWalk.i64_in _ (by omega)
  have q7 : IntKind.i64.wrap x.glass = x.glass := IntWalk.i64_in _ (by omega)
  have q8 : IntKind.i64.wrap x.semi = x.semi := IntWalk.i64_in _ (by omega)
  have q9 : IntKind.i64.wrap (100000 * x.semi) = 100000 * x.semi := IntWalk.i64_in _ (by omega)
  refine wp_region_floats 29 [] [(28, 3, .cells #[.int .i64 0, .int .i64 0, .int .i64 0, .int .i64 0, .int .i64 0, .int .i64 0, .int .i64 0, .int .i64 0, .int .i64 0, .int .i64 0, .int .i64 0, .int .i64 0, .int .i64 0, .string emptyS, .int .i64 0, .int .i64 0, .int .i64 0, .int .i64 0, .int .i64 0, .int .i64 0, .int .i64 0, .slice none 0 0] 92)] [(0, true), (1, true), (2, true), (3, true), (4, true), (5, true), (6, true), (7, true), (8, true), (9, true), (10, true), (11, true), (12, true), (13, true), (14, true), (15, true), (17, true), (18, true), (19, true), (20, true), (23, true), (24, true), (25, true), (26, true), (16, false), (21, true), (22, true), (27, true)] (by kernel_rfl) (by kernel_rfl) ⟨by simp, by simp, by (simp only [List.forall_mem_cons]; exact ⟨⟨by omega, _, rfl, rfl, rfl, fun _ _ => rfl⟩, fun _ h => by cases h⟩)⟩ (fun _ _ _ _ _ h => h) (fun _ _ o _ _ h => by cases o <;> exact h) ?_
  iterate 24
    refine wpG_yield (v := ?_) rfl rfl (by rfl) ?_ ?_
    rotate_left
    · intro y hy
      have z1 := (hy.cell (p := ⟨w.heap.size, 1, none⟩) hl1).trans c1
      have z3 := (hy.cell (p := ⟨w.heap.size, 3, none⟩) hl1).trans c3
      have z12 := (hy.cell (p := ⟨w.heap.size, 12, none⟩) hl1).trans c12
      have z13 := (hy.cell (p := ⟨w.heap.size, 13, none⟩) hl1).trans c13
      have z14 := (hy.cell (p := ⟨w.heap.size, 14, none⟩) hl1).trans c14
      go_simp
      with_reducible rfl
    try simp only [Act.put, List.setIfInBounds_toArray, List.set_cons_zero, List.set_cons_succ]
  refine wpG_step rfl rfl (fun x1 hx1 K hK => ?_)
  go_simp
  refine (glasses_any x1).mono ?_
  rintro e w3 ⟨rfl, hgl, hgs, hb3⟩
  refine hK _ _ hb3 ?_
  clear hK K
  have hx1' : Below w1.heap.size w1 x1 := below_undrew (k := 1) hx1
  have g0 := hgl mg hmg
  have hmg' : (mg : Int) < 5 := by omega
  iterate 2
    refine wpG_yield (v := ?_) rfl rfl (by rfl) ?_ ?_
    rotate_left
    · intro y hy
      have zg := (hy.cell (p := ⟨x1.heap.size, mg, none⟩) hgs).trans g0
      go_simp
      with_reducible rfl
    try simp only [Act.put, List.setIfInBounds_toArray, List.set_cons_zero, List.set_cons_succ]
  iterate 1
    refine wpG_pure (v := ?_) rfl (by rfl) ?_ ?_
    rotate_left
    · intro y
      go_simp
      with_reducible rfl
    try simp only [Act.put, List.setIfInBounds_toArray, List.set_cons_zero, List.set_cons_succ]
  refine wpG_nil1 (l := [_]) rfl (fun b1 w4 hC hb4 hbl => ?_)
  try simp only [Act.put, List.setIfInBounds_toArray, List.set_cons_zero, List.set_cons_succ]
  have h14 := below_chain hx1' (below_chain hb3 hb4)
  have hbw : w.heap.size + 1 < b1 := by have := hC.1; omega
  have Hbl := Lib.hid hbl; have L1 := Lib.hid ((h14.block _ hl1).trans H1.out); have L2 := Lib.hid ((h14.block _ hl2).trans H2.out); have Lb := Lib.hid (below_chain Hb.out h14)
  clear hx1 hx1' hgl hgs hb3 hb4 hbl h14 hC H1 H2 Hb c0 c1 c3 c12 c13 c14 g0
  go_upto_region 2 with (refine wpL_store_surf (surfD x mk mt mg) none 0 0 Hbl.out rfl rfl (.tmp 3) (.tmp 32) rfl rfl rfl ?_)
  refine step_world (DSt w x a n c b1 (surfD x mk mt mg) [] none 0 0) ⟨W22.other L1.out (by omega) _ _ _ _, W22.other L2.out (by omega) _ _ _ _, SurfB.stored Hbl.out rfl _ _ _ _, hbw, Below.put22 Lb.out (by omega) _ _ _ _, IRp.nil _ _ _ _ _, fun _ => rfl⟩ ?_
  clear Hbl L1 L2 Lb
  rintro w5 hd
  have Hmk := Lib.hid hmk; have Hmt := Lib.hid hmt; have Hmg := Lib.hid hmg
  have Emk := Lib.hid emk; have Emt := Lib.hid emt; have Emg := Lib.hid emg
  clear q1 q2 q3 q4 q5 q6 q7 q8 q9 emk hmk emt hmt emg hmg hmg' hr1 hr2 hr3 hr4 hl1 hl2
  have hl5 := lt_of_block hd.d
  have c15 : w5.cell? ⟨w.heap.size, 15, none⟩ = some (.int .u8 x.hole) := (obj_cell hd.d 15).trans rfl
  have k14 : w5.cell? ⟨b1, 14, none⟩ = some (.int .i64 (100000 * x.semi)) := (obj_cell hd.s 14).trans rfl
  have k15 : w5.cell? ⟨b1, 15, none⟩ = some (.int .i64 0) := (obj_cell hd.s 15).trans rfl
  have f15 := hd.s.free 15
  have hbs := hd.s.lt
  have hgt := hd.gt
  obtain ⟨m4, e4, h40, h41⟩ := tmod_u8 Hx.out.hole.1 4 (by omega)
  have E4 := Lib.hid e4
  have Hd := Lib.hid hd; clear hd
  have hsem : IntKind.i64.wrap ((100000 * x.semi).tdiv 4) = (100000 * x.semi).tdiv 4 := by
    rw [Int.tdiv_eq_ediv_of_nonneg (by omega)]; exact IntWalk.i64_in _ (by omega)
  try simp only [Act.put]
  go_cut [41] (fun v wx => ∃ b : Bool, v = .bool b ∧ (b = true → 0 < x.semi) ∧ b = decide (m4 = 1 ∧ 0 < x.semi) ∧ wx = w5)
  case first =>
    cases hm1 : (m4 == 1)
    · go_wp2
      go_meet
      exact ⟨false, rfl, by simp, (by (have hx1 : ¬ m4 = 1 := (by simpa using hm1)); simp [hx1]), rfl⟩
    · have hm1' : m4 = 1 := by simpa using hm1
      have Hm1 := Lib.hid hm1'; clear hm1'
      by_cases hs : 0 < x.semi
      · have hs1 : 0 < 100000 * x.semi := by omega
        go_wp2
        go_meet
        exact ⟨true, by simp, fun _ => hs, by simp [Hm1.out, hs], rfl⟩
      · have hs1 : ¬ 0 < 100000 * x.semi := by omega
        go_wp2
        go_meet
        exact ⟨false, by simp, by simp, by simp [hs], rfl⟩
  case rest =>
    obtain ⟨b, rfl, hbt, hbd, rfl⟩ := hcut
    have Hbd := Lib.hid hbd; clear hbd
    clear c15
    go_upto_if 41 with fail
    go_cut [] (fun wx => ∃ h : Int, 0 ≤ h ∧ (h = 0 ∨ h < 100000 * x.semi) ∧ h = holeOf x ∧ DSt w x a n c b1 { surfD x mk mt mg with hole := h } [] none 0 0 wx)
    case first =>
      cases b
      · go_wp2
        go_meet
        exact ⟨0, Int.le_refl _, Or.inl rfl, (by (have h1 := Hbd.out); (have h2 := E4.out); unfold holeOf; rw [h2, if_neg (by simpa using h1.symm)]), Hd.out⟩
      · have hs := hbt rfl
        go_wp2
        go_meet
        refine ⟨(100000 * x.semi).tdiv 4, ?_, Or.inr ?_, (by (have h1 := Hbd.out); (have h2 := E4.out); unfold holeOf; rw [h2, if_pos (by simpa using h1.symm)]), Hd.out.set 15 _ { surfD x mk mt mg with hole := (100000 * x.semi).tdiv 4 } (obj_setCell Hd.out.s 15 _)⟩
        · rw [Int.tdiv_eq_ediv_of_nonneg (by omega)]; omega
        · rw [Int.tdiv_eq_ediv_of_nonneg (by omega)]; omega
    case rest =>
      obtain ⟨h, h0, h1, hh, hd⟩ := hcut
      have Hh := Lib.hid hh; clear hh
      clear k14 k15 f15 hbs hsem Hd hbt e4 h40 h41
      obtain ⟨m8, e8, h80, h81⟩ := tmod_u8 Hx.out.kind.1 8 (by omega)
      have hways : m8 = 4 ∨ m8 = 5 ∨ m8 = 6 ∨ m8 = 7 ∨ ((m8 == 4) = false ∧ (m8 == 5) = false ∧ (m8 == 6) = false ∧ (m8 == 7) = false) := by simp; omega
      have c0 : wc.cell? ⟨w.heap.size, 0, none⟩ = some (.int .u8 x.kind) := (obj_cell hd.d 0).trans rfl
      have hdl := lt_of_block hd.d
      have hgl := hd.s.lt
      have hgt := hd.gt
      have hne : w.heap.size ≠ b1 := by omega
      have Hd := Lib.hid hd; have H0 := Lib.hid h0; have H1 := Lib.hid h1
      clear hd h0 h1 h80 h81 hbw
      have hok := ok_std Hx.out Hmk.out Hmt.out Hmg.out H0.out H1.out
      have Hok := Lib.hid hok; clear hok
      have Hst := Lib.hid (std_eq Emk.out Emt.out Emg.out Hh.out)
      have E8 := Lib.hid e8
      rcases hways with rfl | rfl | rfl | rfl | ⟨n4, n5, n6, n7⟩
      · clear Hok
        go_wp2_with fail
        go_loopw [4] (fun iv wr => ∃ i : Nat, i ≤ 4 ∧ iv = .int .i64 (i : Int) ∧ DSt w x a n c b1 (sA x { surfD x mk mt mg with hole := h } i) [] none 0 0 wr) (fun iv _ => 4 - (intOf iv).toNat)
        case atStart => exact ⟨0, by omega, rfl, Hd.out⟩
        case round =>
          clear Hd c0 hdl hgl
          obtain ⟨i, hi, rfl, hd⟩ := hrel
          have hdl := lt_of_block hd.d
          have hgl := hd.s.lt
          have hr := Hx.out.all.2.1
          have hi4 : i = 0 ∨ i = 1 ∨ i = 2 ∨ i = 3 ∨ i = 4 := by omega
          clear hi
          rcases hi4 with rfl | rfl | rfl | rfl | rfl
          · have cq : wr.cell? ⟨w.heap.size, 5, none⟩ = some (.int .i8 x.h0) := (obj_cell hd.d 5).trans rfl
            have kq : wr.cell? ⟨b1, 5, none⟩ = some (.int .i64 0) := (obj_cell hd.s 5).trans rfl
            have fq := hd.s.free 5
            have u0 : IntKind.i64.wrap x.h0 = x.h0 := IntWalk.i64_in _ (by omega)
            have v0 : IntKind.i64.wrap (1000 * x.h0) = 1000 * x.h0 := IntWalk.i64_in _ (by omega)
            have hd' := hd.set 5 (.int .i64 (1000 * x.h0)) (sA x { surfD x mk mt mg with hole := h } 1) (obj_setCell hd.s 5 _)
            have Hd' := Lib.hid hd'
            clear hd hd' hr
            go_wp2_with fail
            go_roundw
            case rel => exact ⟨1, by omega, by go_num, Hd'.out⟩
            case measure => simp [intOf]
          · have cq : wr.cell? ⟨w.heap.size, 6, none⟩ = some (.int .i8 x.h1) := (obj_cell hd.d 6).trans rfl
            have kq : wr.cell? ⟨b1, 6, none⟩ = some (.int .i64 0) := (obj_cell hd.s 6).trans rfl
            have fq := hd.s.free 6
            have u0 : IntKind.i64.wrap x.h1 = x.h1 := IntWalk.i64_in _ (by omega)
            have v0 : IntKind.i64.wrap (1000 * x.h1) = 1000 * x.h1 := IntWalk.i64_in _ (by omega)
            have hd' := hd.set 6 (.int .i64 (1000 * x.h1)) (sA x { surfD x mk mt mg with hole := h } 2) (obj_setCell hd.s 6 _)
            have Hd' := Lib.hid hd'
            clear hd hd' hr
            go_wp2_with fail
            go_roundw
            case rel => exact ⟨2, by omega, by go_num, Hd'.out⟩
            case measure => simp [intOf]
          · have cq : wr.cell? ⟨w.heap.size, 7, none⟩ = some (.int .i8 x.h2) := (obj_cell hd.d 7).trans rfl
            have kq : wr.cell? ⟨b1, 7, none⟩ = some (.int .i64 0) := (obj_cell hd.s 7).trans rfl
            have fq := hd.s.free 7
            have u0 : IntKind.i64.wrap x.h2 = x.h2 := IntWalk.i64_in _ (by omega)
            have v0 : IntKind.i64.wrap (1000 * x.h2) = 1000 * x.h2 := IntWalk.i64_in _ (by omega)
            have hd' := hd.set 7 (.int .i64 (1000 * x.h2)) (sA x { surfD x mk mt mg with hole := h } 3) (obj_setCell hd.s 7 _)
            have Hd' := Lib.hid hd'
            clear hd hd' hr
            go_wp2_with fail
            go_roundw
            case rel => exact ⟨3, by omega, by go_num, Hd'.out⟩
            case measure => simp [intOf]
          · have cq : wr.cell? ⟨w.heap.size, 8, none⟩ = some (.int .i8 x.h3) := (obj_cell hd.d 8).trans rfl
            have kq : wr.cell? ⟨b1, 8, none⟩ = some (.int .i64 0) := (obj_cell hd.s 8).trans rfl
            have fq := hd.s.free 8
            have u0 : IntKind.i64.wrap x.h3 = x.h3 := IntWalk.i64_in _ (by omega)
            have v0 : IntKind.i64.wrap (1000 * x.h3) = 1000 * x.h3 := IntWalk.i64_in _ (by omega)
            have hd' := hd.set 8 (.int .i64 (1000 * x.h3)) (sA x { surfD x mk mt mg with hole := h } 4) (obj_setCell hd.s 8 _)
            have Hd' := Lib.hid hd'
            clear hd hd' hr
            go_wp2_with fail
            go_roundw
            case rel => exact ⟨4, by omega, by go_num, Hd'.out⟩
            case measure => simp [intOf]
          · have Hd := Lib.hid hd; clear hd hr
            go_upto_region 23 with (first
              | (refine wpL_load_drs Hd.out.d.range rfl (.tmp 1) rfl rfl ?_)
              | (go_at_call 82; refine (films_any x a n c _ (Hf.out.go Hd.out.b)).mono ?_; rintro e w2 ⟨ca, cn, cc, zs, hzq, rfl, hfz, hcc, hcn, hfa, hb2⟩; have hzq := Lib.hid hzq; have kq := (obj_cell (Hd.out.s.go hb2 hgl) 21).trans rfl; have fq := SurfB.free (Hd.out.s.go hb2 hgl) 21; have Hz := Lib.hid hfz; have Hcc := Lib.hid hcc; have Hcn := Lib.hid hcn; have Hfa := Lib.hid hfa; have Hb2 := Lib.hid hb2; clear hfz hcc hcn hfa hb2))
            refine step_world (DSt w x a n c b1 (sA x { surfD x mk mt mg with hole := h } 4) zs ca cn cc) (Hd.out.coat Hb2.out Hz.out Hcc.out) ?_
            have hzl := Lib.hid Hz.out.1
            clear Hd Hb2 Hz Hcc kq fq hdl hgl
            rintro w6 hd
            have Hd := Lib.hid hd; clear hd
            go_wp2_with (first
              | (refine wpL_load_surf Hd.out.s rfl (.tmp 3) rfl rfl ?_)
              | (refine wpL_store_surf (sA x { surfD x mk mt mg with hole := h } 4) ca cn cc Hd.out.z rfl rfl (.tmp 2) (.tmp 148) rfl rfl rfl ?_))
            exact bodyPost_ret (ret_surf (s := sA x { surfD x mk mt mg with hole := h } 4) (a := ca) (n := cn) (c := cc) rfl rfl (SurfB.stored Hd.out.z rfl _ ca cn cc)) rfl (dst_end Hd.out (by unfold surfOf; rw [if_pos E8.out, Hst.out, hzq.out]) (ok_asph Hx.out Hmk.out Hmt.out Hmg.out H0.out H1.out hzl.out Hcn.out Hfa.out) Hcn.out (glass_size _))
      · have c2 : wc.cell? ⟨w.heap.size, 2, none⟩ = some (.int .i16 x.c1) := (obj_cell Hd.out.d 2).trans rfl
        have c4 : wc.cell? ⟨w.heap.size, 4, none⟩ = some (.int .i16 x.k1) := (obj_cell Hd.out.d 4).trans rfl
        have k0 : wc.cell? ⟨b1, 0, none⟩ = some (.int .i64 1) := (obj_cell Hd.out.s 0).trans rfl
        have k3 : wc.cell? ⟨b1, 3, none⟩ = some (.int .i64 0) := (obj_cell Hd.out.s 3).trans rfl
        have k4 : wc.cell? ⟨b1, 4, none⟩ = some (.int .i64 0) := (obj_cell Hd.out.s 4).trans rfl
        have f0 := Hd.out.s.free 0
        have f3 := Hd.out.s.free 3
        have f4 := Hd.out.s.free 4
        obtain ⟨m1, em1, hm1⟩ := tmod_in x.k1 3000 (by omega)
        have hr1 := Hx.out.c1; have hr2 := Hx.out.k1
        unfold i16In at hr1 hr2
        have q1 : IntKind.i64.wrap x.c1 = x.c1 := IntWalk.i64_in _ (by omega)
        have q2 : IntKind.i64.wrap (1000 * x.c1) = 1000 * x.c1 := IntWalk.i64_in _ (by omega)
        have q3 : IntKind.i64.wrap m1 = m1 := IntWalk.i64_in _ (by omega)
        have q4 : IntKind.i64.wrap (1000 * m1) = 1000 * m1 := IntWalk.i64_in _ (by omega)
        have Hm1 := Lib.hid hm1; have Em1 := Lib.hid em1
        clear hm1 hr1 hr2
        have hd1 := Hd.out.set 0 (.int .i64 2) { surfD x mk mt mg with hole := h, kind := 2 } (obj_setCell Hd.out.s 0 _)
        have hd2 := hd1.set 3 (.int .i64 (1000 * x.c1)) { surfD x mk mt mg with hole := h, kind := 2, curvX := 1000 * x.c1 } (obj_setCell hd1.s 3 _)
        have hd3 := hd2.set 4 (.int .i64 (1000 * m1)) { surfD x mk mt mg with hole := h, kind := 2, curvX := 1000 * x.c1, conicX := 1000 * m1 } (obj_setCell hd2.s 4 _)
        have Hd3 := Lib.hid hd3
        clear hd1 hd2 hd3
        go_upto_region 23 with fail
        refine step_world (DSt w x a n c b1 { surfD x mk mt mg with hole := h, kind := 2, curvX := 1000 * x.c1, conicX := 1000 * m1 } [] none 0 0) Hd3.out ?_
        clear Hd3 Hd c0 c2 c4 f0 f3 f4 k0 k3 k4 hdl hgl
        rintro w6 hd
        have Hd := Lib.hid hd; clear hd
        go_wp2_with (first
          | (refine wpL_load_surf Hd.out.s rfl (.tmp 3) rfl rfl ?_)
          | (refine wpL_store_surf { surfD x mk mt mg with hole := h, kind := 2, curvX := 1000 * x.c1, conicX := 1000 * m1 } none 0 0 Hd.out.z rfl rfl (.tmp 2) (.tmp 148) rfl rfl rfl ?_))
        exact bodyPost_ret (ret_surf (s := { surfD x mk mt mg with hole := h, kind := 2, curvX := 1000 * x.c1, conicX := 1000 * m1 }) (a := none) (n := 0) (c := 0) rfl rfl (SurfB.stored Hd.out.z rfl _ none 0 0)) rfl (dst_end Hd.out (by unfold surfOf; rw [if_neg (by rw [E8.out]; decide), if_pos E8.out, ← Hst.out, Em1.out]) (ok_bic Hx.out Hmk.out Hm1.out Hmt.out Hmg.out H0.out H1.out) (by omega) (glass_size _))
      · have k12 : wc.cell? ⟨b1, 12, none⟩ = some (.int .i64 (1000 * mt)) := (obj_cell Hd.out.s 12).trans rfl
        have c16 : wc.cell? ⟨w.heap.size, 16, none⟩ = some (.int .i8 x.b0) := (obj_cell Hd.out.d 16).trans rfl
        have c17 : wc.cell? ⟨w.heap.size, 17, none⟩ = some (.int .i8 x.b1) := (obj_cell Hd.out.d 17).trans rfl
        have c18 : wc.cell? ⟨w.heap.size, 18, none⟩ = some (.int .i8 x.b2) := (obj_cell Hd.out.d 18).trans rfl
        have c19 : wc.cell? ⟨w.heap.size, 19, none⟩ = some (.int .i8 x.b3) := (obj_cell Hd.out.d 19).trans rfl
        have c20 : wc.cell? ⟨w.heap.size, 20, none⟩ = some (.int .i8 x.b4) := (obj_cell Hd.out.d 20).trans rfl
        have hr := Hx.out.all.2.2.2.2
        have u0 : IntKind.i64.wrap x.b0 = x.b0 := IntWalk.i64_in _ (by omega)
        have u1 : IntKind.i64.wrap x.b1 = x.b1 := IntWalk.i64_in _ (by omega)
        have u2 : IntKind.i64.wrap x.b2 = x.b2 := IntWalk.i64_in _ (by omega)
        have u3 : IntKind.i64.wrap x.b3 = x.b3 := IntWalk.i64_in _ (by omega)
        have u4 : IntKind.i64.wrap x.b4 = x.b4 := IntWalk.i64_in _ (by omega)
        have v0 : IntKind.i64.wrap (10000 * x.b0) = 10000 * x.b0 := IntWalk.i64_in _ (by omega)
        have v1 : IntKind.i64.wrap (10000 * x.b1) = 10000 * x.b1 := IntWalk.i64_in _ (by omega)
        have v2 : IntKind.i64.wrap (100000 * x.b2) = 100000 * x.b2 := IntWalk.i64_in _ (by omega)
        have v3 : IntKind.i64.wrap (100000 * x.b3) = 100000 * x.b3 := IntWalk.i64_in _ (by omega)
        have v4 : IntKind.i64.wrap (100000 * x.b4) = 100000 * x.b4 := IntWalk.i64_in _ (by omega)
        clear hr
        go_upto_region 23 with (refine wpL_store_surf (surfK x mt) none 0 0 Hd.out.s rfl rfl (.tmp 3) (.tmp 112) rfl rfl rfl ?_)
        refine step_world (DSt w x a n c b1 (surfK x mt) [] none 0 0) (Hd.out.put _) ?_
        clear Hd k12 c0 c16 c17 c18 c19 c20 u0 u1 u2 u3 u4 v0 v1 v2 v3 v4 hdl hgl
        rintro w6 hd
        have Hd := Lib.hid hd; clear hd
        go_wp2_with (first
          | (refine wpL_load_surf Hd.out.s rfl (.tmp 3) rfl rfl ?_)
          | (refine wpL_store_surf (surfK x mt) none 0 0 Hd.out.z rfl rfl (.tmp 2) (.tmp 148) rfl rfl rfl ?_))
        exact bodyPost_ret (ret_surf (s := surfK x mt) (a := none) (n := 0) (c := 0) rfl rfl (SurfB.stored Hd.out.z rfl _ none 0 0)) rfl (dst_end Hd.out (by unfold surfOf; rw [if_neg (by rw [E8.out]; decide), if_neg (by rw [E8.out]; decide), if_pos E8.out, Emt.out]) (ok_brk Hx.out Hmt.out) (by omega) (glass_size 0))
      · have c11 : wc.cell? ⟨w.heap.size, 11, none⟩ = some (.int .i8 x.order) := (obj_cell Hd.out.d 11).trans rfl
        have hro := Hx.out.order
        unfold i8In at hro
        by_cases ho : x.order.tmod 2 = 0
        · have k1 : wc.cell? ⟨b1, 1, none⟩ = some (.int .i64 (1000 * x.c0)) := (obj_cell Hd.out.s 1).trans rfl
          have k12 : wc.cell? ⟨b1, 12, none⟩ = some (.int .i64 (1000 * mt)) := (obj_cell Hd.out.s 12).trans rfl
          have k14 : wc.cell? ⟨b1, 14, none⟩ = some (.int .i64 (100000 * x.semi)) := (obj_cell Hd.out.s 14).trans rfl
          have k15 : wc.cell? ⟨b1, 15, none⟩ = some (.int .i64 h) := (obj_cell Hd.out.s 15).trans rfl
          have Ho := Lib.hid ho
          clear hro
          go_wp2_with (refine wpL_store_surf (surfI x mt h) none 0 0 Hd.out.z rfl rfl (.tmp 2) (.tmp 127) rfl rfl rfl ?_)
          exact bodyPost_ret (ret_surf (s := surfI x mt h) (a := none) (n := 0) (c := 0) rfl rfl (SurfB.stored Hd.out.z rfl _ none 0 0)) rfl (dst_end0 Hd.out (by unfold surfOf; rw [if_neg (by rw [E8.out]; decide), if_neg (by rw [E8.out]; decide), if_neg (by rw [E8.out]; decide), if_pos E8.out, if_pos Ho.out, Emt.out, Hh.out]) (ok_ide Hx.out Hmt.out H0.out H1.out) (glass_size 0))
        · have hof : (x.order.tmod 2 == 0) = false := by simpa using ho
          have k13 : wc.cell? ⟨b1, 13, none⟩ = some (.string (glassN mg)) := (obj_cell Hd.out.s 13).trans rfl
          cases hmi : isMirror (glassN mg)
          · have qm : (!(glassN mg).toList == [77, 73, 82, 82, 79, 82]) = true := by rw [show ((glassN mg).toList == [77, 73, 82, 82, 79, 82]) = false from hmi]; rfl
            obtain ⟨mo, emo, hmo⟩ := tmod_in x.order 4 (by omega)
            have hm0 : mo ≠ 0 := emo ▸ odd4 ho
            have c9 : wc.cell? ⟨w.heap.size, 9, none⟩ = some (.int .i8 x.p0) := (obj_cell Hd.out.d 9).trans rfl
            have c10 : wc.cell? ⟨w.heap.size, 10, none⟩ = some (.int .i8 x.p1) := (obj_cell Hd.out.d 10).trans rfl
            have hr := Hx.out.all.2.2.1
            have u0 : IntKind.i64.wrap x.p0 = x.p0 := IntWalk.i64_in _ (by omega)
            have u1 : IntKind.i64.wrap x.p1 = x.p1 := IntWalk.i64_in _ (by omega)
            have u2 : IntKind.i64.wrap mo = mo := IntWalk.i64_in _ (by omega)
            have v0 : IntKind.i64.wrap (1000 * x.p0) = 1000 * x.p0 := IntWalk.i64_in _ (by omega)
            have v1 : IntKind.i64.wrap (1000 * x.p1) = 1000 * x.p1 := IntWalk.i64_in _ (by omega)
            have k9 : wc.cell? ⟨b1, 9, none⟩ = some (.int .i64 0) := (obj_cell Hd.out.s 9).trans rfl
            have k10 : wc.cell? ⟨b1, 10, none⟩ = some (.int .i64 0) := (obj_cell Hd.out.s 10).trans rfl
            have k11 : wc.cell? ⟨b1, 11, none⟩ = some (.int .i64 0) := (obj_cell Hd.out.s 11).trans rfl
            have f9 := Hd.out.s.free 9
            have f10 := Hd.out.s.free 10
            have f11 := Hd.out.s.free 11
            have Hno := Lib.hid ho; have Emo := Lib.hid emo
            have Hmo := Lib.hid hmo; have Hm0 := Lib.hid hm0; have Hmi := Lib.hid hmi
            clear hmo hm0 hmi hr ho hro
            have hd1 := Hd.out.set 11 (.int .i64 mo) { surfD x mk mt mg with hole := h, order := mo } (obj_setCell Hd.out.s 11 _)
            have hd2 := hd1.set 9 (.int .i64 (1000 * x.p0)) { surfD x mk mt mg with hole := h, order := mo, p0 := 1000 * x.p0 } (obj_setCell hd1.s 9 _)
            have hd3 := hd2.set 10 (.int .i64 (1000 * x.p1)) { surfD x mk mt mg with hole := h, order := mo, p0 := 1000 * x.p0, p1 := 1000 * x.p1 } (obj_setCell hd2.s 10 _)
            have Hd3 := Lib.hid hd3
            clear hd1 hd2 hd3
            go_upto_region 23 with fail
            refine step_world (DSt w x a n c b1 { surfD x mk mt mg with hole := h, order := mo, p0 := 1000 * x.p0, p1 := 1000 * x.p1 } [] none 0 0) Hd3.out ?_
            clear Hd3 Hd c0 c9 c10 c11 f9 f10 f11 k9 k10 k11 hdl hgl k13 qm u0 u1 u2 v0 v1
            rintro w6 hd
            have Hd := Lib.hid hd; clear hd
            go_wp2_with (first
              | (refine wpL_load_surf Hd.out.s rfl (.tmp 3) rfl rfl ?_)
              | (refine wpL_store_surf { surfD x mk mt mg with hole := h, order := mo, p0 := 1000 * x.p0, p1 := 1000 * x.p1 } none 0 0 Hd.out.z rfl rfl (.tmp 2) (.tmp 148) rfl rfl rfl ?_))
            exact bodyPost_ret (ret_surf (s := { surfD x mk mt mg with hole := h, order := mo, p0 := 1000 * x.p0, p1 := 1000 * x.p1 }) (a := none) (n := 0) (c := 0) rfl rfl (SurfB.stored Hd.out.z rfl _ none 0 0)) rfl (dst_end Hd.out (by unfold surfOf; rw [if_neg (by rw [E8.out]; decide), if_neg (by rw [E8.out]; decide), if_neg (by rw [E8.out]; decide), if_pos E8.out, if_neg Hno.out, if_neg (by rw [Emg.out]; simp [Hmi.out]), ← Hst.out, Emo.out]) (ok_gra Hx.out Hmk.out Hmt.out Hmg.out H0.out H1.out Hmo.out Hm0.out Hmi.out) (by omega) (glass_size _))
          · have qm : (!(glassN mg).toList == [77, 73, 82, 82, 79, 82]) = false := by rw [show ((glassN mg).toList == [77, 73, 82, 82, 79, 82]) = true from hmi]; rfl
            have Hno := Lib.hid ho; have Hmi := Lib.hid hmi
            clear hmi ho hro
            go_wp2_with (first
              | (refine wpL_load_surf Hd.out.s rfl (.tmp 3) rfl rfl ?_)
              | (refine wpL_store_surf { surfD x mk mt mg with hole := h } none 0 0 Hd.out.z rfl rfl (.tmp 2) (.tmp 148) rfl rfl rfl ?_))
            exact bodyPost_ret (ret_surf (s := { surfD x mk mt mg with hole := h }) (a := none) (n := 0) (c := 0) rfl rfl (SurfB.stored Hd.out.z rfl { surfD x mk mt mg with hole := h } none 0 0)) rfl (dst_end Hd.out (by unfold surfOf; rw [if_neg (by rw [E8.out]; decide), if_neg (by rw [E8.out]; decide), if_neg (by rw [E8.out]; decide), if_pos E8.out, if_neg Hno.out, if_pos (by rw [Emg.out]; exact Hmi.out), Hst.out]) Hok.out (by omega) (glass_size _))
      · go_wp2_with (first
          | (refine wpL_load_surf Hd.out.s rfl (.tmp 3) rfl rfl ?_)
          | (refine wpL_store_surf { surfD x mk mt mg with hole := h } none 0 0 Hd.out.z rfl rfl (.tmp 2) (.tmp 148) rfl rfl rfl ?_))
        exact bodyPost_ret (ret_surf (s := { surfD x mk mt mg with hole := h }) (a := none) (n := 0) (c := 0) rfl rfl (SurfB.stored Hd.out.z rfl { surfD x mk mt mg with hole := h } none 0 0)) rfl (dst_end Hd.out (by unfold surfOf; rw [if_neg (by rw [E8.out]; simpa using n4), if_neg (by rw [E8.out]; simpa using n5), if_neg (by rw [E8.out]; simpa using n6), if_neg (by rw [E8.out]; simpa using n7), Hst.out]) Hok.out (by omega) (glass_size _))

end Go.Proofs.YthommhfppeonpaaGreatDoor
