/-
  DERIVED. The walks of YieldSharp: tails.
-/
import Derived.Test.YtkfkdkoohnfgaaaSharpD
namespace Go.Proofs.Ytkfkdkoohnfgaaa
open Go.RowKit

set_option maxRecDepth 100000 in
set_option maxHeartbeats 3200000 in
theorem tails_any (x : Int) (N : Nat) (w : World) (hN : N ≤ 7) (h0 : 0 ≤ x) (h1 : x ≤ 100) :
    Calls Try.prog 10 #[.int .i64 (N : Int), .int .i64 x] w (RetTails w N x) := by
  go_enter Try.func10, Try.ntmps10
  go_wp2_with fail
  refine (qof_any x 100 _ (by omega) (by omega) (by omega) (by omega)).mono ?_
  rintro e w1 ⟨vv, rfl, ⟨s1, a1, n1, c1, b1, m1, d1, rfl, l1, l2⟩, hb1⟩
  have hv1 := VarQ.new l1 l2
  have hz1 := hb1.alloc hb1.size (.cells #[.bool s1, .slice a1 n1 c1, .bool false, .slice b1 m1 d1] 62)
  have V1 := Lib.hid hv1; have H1 := Lib.hid hz1
  clear hv1 hz1 hb1 l1 l2
  go_wp2_with fail
  refine (qof_any (100 - x) 100 _ (by omega) (by omega) (by omega) (by omega)).mono ?_
  rintro e w2 ⟨vv, rfl, ⟨s2, a2, n2, c2, b2, m2, d2, rfl, l1, l2⟩, hb2⟩
  have hv1 := V1.out.go hb2
  have hb2' := H1.out.trans (hb2.mono H1.out.size)
  have hz2 := (Below.refl w2.heap.size w2).alloc (Nat.le_refl _) (.cells #[.bool s2, .slice a2 n2 c2, .bool false, .slice b2 m2 d2] 62)
  have V1' := Lib.hid (hv1.go hz2); have V2 := Lib.hid (VarQ.new l1 l2); have H2 := Lib.hid (hb2'.trans (hz2.mono hb2'.size))
  clear hv1 hz2 hb2 hb2' l1 l2 V1 H1
  go_wp2_with fail
  refine (qof_any 1 1 _ (by omega) (by omega) (by omega) (by omega)).mono ?_
  rintro e w3 ⟨vv, rfl, ⟨s3, a3, n3, c3, b3, m3, d3, rfl, l1, l2⟩, hb3⟩
  have hb3' := H2.out.trans (hb3.mono H2.out.size)
  have hz3 := (Below.refl w3.heap.size w3).alloc (Nat.le_refl _) (.cells #[.bool s3, .slice a3 n3 c3, .bool false, .slice b3 m3 d3] 62)
  have V1 := Lib.hid ((V1'.out.go hb3).go hz3); have V2' := Lib.hid ((V2.out.go hb3).go hz3); have V3 := Lib.hid (VarQ.new l1 l2); have H3 := Lib.hid (hb3'.trans (hz3.mono hb3'.size))
  clear hz3 hb3 hb3' l1 l2 V1' V2 H2
  go_wp2_with fail
  refine (qof_any 0 1 _ (by omega) (by omega) (by omega) (by omega)).mono ?_
  rintro e w4 ⟨vv, rfl, ⟨s4, a4, n4, c4, b4, m4, d4, rfl, l1, l2⟩, hb4⟩
  have hb4' := H3.out.trans (hb4.mono H3.out.size)
  have hz4 := (Below.refl w4.heap.size w4).alloc (Nat.le_refl _) (.cells #[.bool s4, .slice a4 n4 c4, .bool false, .slice b4 m4 d4] 62)
  have V1' := Lib.hid ((V1.out.go hb4).go hz4); have V2 := Lib.hid ((V2'.out.go hb4).go hz4); have V3' := Lib.hid ((V3.out.go hb4).go hz4); have V4 := Lib.hid (VarQ.new l1 l2); have H4 := Lib.hid (hb4'.trans (hz4.mono hb4'.size))
  clear hz4 hb4 hb4' l1 l2 V1 V2' V3 H3
  obtain ⟨s5, a5, n5, c5, b5, m5, d5, v3, l1, l2⟩ := V3'.out
  obtain ⟨k0, k1, k2, k3, _, _, _, _⟩ := cells_of4 v3
  have L1 := Lib.hid l1; have L2 := Lib.hid l2
  clear l1 l2 v3
  go_wp2_with fail
  clear k0 k1 k2 k3
  have hz6 := (Below.refl _ (w4.alloc (.cells #[.bool s4, .slice a4 n4 c4, .bool false, .slice b4 m4 d4] 62))).alloc (Nat.le_refl _) (.cells #[.bool s5, .slice a5 n5 c5, .bool false, .slice b5 m5 d5] 62)
  have P1 := Lib.hid (V1'.out.go hz6); have P2 := Lib.hid (V2.out.go hz6); have P4 := Lib.hid (V4.out.go hz6); have H6 := Lib.hid (H4.out.trans (hz6.mono H4.out.size))
  have v5 := VarQ.new L1.out L2.out
  rw [show (w4.alloc (.cells #[.bool s4, .slice a4 n4 c4, .bool false, .slice b4 m4 d4] 62)).heap.size = w4.heap.size + 1 by simp] at v5
  have P5 := Lib.hid v5
  clear hz6 V1' V2 V3' V4 H4 L1 L2 v5
  generalize (w4.alloc (.cells #[.bool s4, .slice a4 n4 c4, .bool false, .slice b4 m4 d4] 62)).alloc (.cells #[.bool s5, .slice a5 n5 c5, .bool false, .slice b5 m5 d5] 62) = w6 at *
  generalize w1.heap.size = gp at *
  generalize w2.heap.size = gq at *
  generalize w4.heap.size = gz at *
  have hrow : RowQ w6 (gz + 1) 0 ((List.range 1).map (prob x 0)) := by
    obtain ⟨s, a, n, c, b, m, d, q1, q2, q3⟩ := P5.out
    obtain ⟨k0, k1, k2, k3, _, _, _, _⟩ := cells_of4 q1
    refine ⟨lt_of_block q1, fun i hi => ?_⟩
    obtain rfl : i = 0 := by simpa using hi
    rw [show ((List.range 1).map (prob x 0)).getD 0 0 = mkRat 1 1 by show prob x 0 0 = _; unfold prob; rw [term_zero]]
    exact ⟨s, a, n, c, b, m, d, k0, k1, k2, k3, q2, q3⟩
  have Hrow := Lib.hid hrow
  clear hrow P5
  obtain ⟨sp, ap, np, cp, bp, mp, dp, p1, p2, p3⟩ := P1.out
  obtain ⟨sq, aq, nq, cq, bq, mq, dq, q1, q2, q3⟩ := P2.out
  obtain ⟨sz, az, nz, cz, bz, mz, dz, z1, z2, z3⟩ := P4.out
  have Pa := Lib.hid p1; have Pb := Lib.hid p2; have Pc := Lib.hid p3
  have Qa := Lib.hid q1; have Qb := Lib.hid q2; have Qc := Lib.hid q3
  have Za := Lib.hid z1; have Zb := Lib.hid z2; have Zc := Lib.hid z3
  have hlp := lt_of_block p1
  have hlq := lt_of_block q1
  have hlz := lt_of_block z1
  clear P1 P2 P4 p1 p2 p3 q1 q2 q3 z1 z2 z3
  go_loopw [14, 15] (fun lv tv wr => ∃ t g cap : Nat, 1 ≤ t ∧ t ≤ N + 1 ∧ tv = .int .i64 (t : Int) ∧ lv = .slice (some ⟨g, 0, none⟩) t cap ∧ t ≤ cap ∧ RowQ wr g 0 ((List.range t).map (prob x (t - 1))) ∧ Below w6.heap.size w6 wr) (fun _ tv _ => N + 1 - (intOf tv).toNat)
  case atStart => exact ⟨1, _, _, Nat.le_refl _, by omega, rfl, rfl, Nat.le_refl _, Hrow.out, Below.refl _ _⟩
  case round =>
    obtain ⟨t, g, cap, ht0, ht, rfl, rfl, hcap, hrw, hbw⟩ := hrel
    have Hrw := Lib.hid hrw; have Hbw := Lib.hid hbw
    clear hrw hbw
    by_cases htN : t ≤ N
    · go_wp2_with (refine wpList_make_quots rfl (.tmp 65) (.tmp 65) 33 rfl Try.underlying33 ((t : Int) + 1) (t + 1) rfl rfl (by omega) (by omega) ?_)
      obtain ⟨wo, rfl⟩ : ∃ wo, wo = wr := ⟨wr, rfl⟩
      intro w7 hmk hb7
      have Hmk := Lib.hid hmk; have Hb7 := Lib.hid hb7; clear hmk hb7
      have hg := Hrw.out.1
      go_wp2_with fail
      go_loopw [69] (fun jv wr => ∃ j : Nat, j ≤ t + 1 ∧ jv = .int .i64 (j : Int) ∧ MakeQ wr wo.heap.size (t + 1) ((List.range j).map (prob x t)) ∧ Below wo.heap.size wo wr) (fun jv _ => t + 1 - (intOf jv).toNat)
      case atStart => exact ⟨0, Nat.zero_le _, rfl, Hmk.out, Hb7.out⟩
      case round =>
        obtain ⟨j, hj, rfl, hmr, hby⟩ := hrel
        by_cases hjt : j < t + 1
        · have h6r := Hbw.out.trans (hby.mono Hbw.out.size)
          have Hmr := Lib.hid hmr; have Hby := Lib.hid hby; have H6r := Lib.hid h6r
          have hsr := hby.size
          clear hmr hby h6r
          obtain ⟨z0, z1, z2, z3, _, _, _, _⟩ := cells_of4 ((H6r.out.block gz hlz).trans Za.out)
          have hzr : gz < wr.heap.size := Nat.lt_of_lt_of_le hlz H6r.out.size
          go_wp2_with fail
          refine wp_region_reads wr.heap.size [0, 1] 4 (by kernel_rfl) rfl (by kernel_rfl) (by kernel_rfl) (fun _ _ o _ _ h => by cases o <;> exact h) ?_
          iterate 2
            refine wpRd_yield (v := ?_) rfl (by rfl) ?_ ?_
            rotate_left
            · intro y hy
              have y0 := (hy.cell (p := ⟨gz, 0, none⟩) hzr).trans z0
              have y1 := (hy.cell (p := ⟨gz, 1, none⟩) hzr).trans z1
              have y2 := (hy.cell (p := ⟨gz, 2, none⟩) hzr).trans z2
              have y3 := (hy.cell (p := ⟨gz, 3, none⟩) hzr).trans z3
              go_simp
              with_reducible rfl
            try simp only [Act.put, List.setIfInBounds_toArray, List.set_cons_zero, List.set_cons_succ]
          clear z0 z1 z2 z3
          refine wpRd_nil (wpR_allocs (d1 := 18) (d2 := 19) (Z1 := .cells #[.bool false, .slice none 0 0, .bool false, .slice none 0 0] 62) (Z2 := .cells #[.bool false, .slice none 0 0, .bool false, .slice none 0 0] 62) (i := 2) (j := 3) (by decide) (by kernel_rfl) (by kernel_rfl) (by kernel_rfl) rfl rfl rfl rfl rfl rfl (by decide) (Nat.le_refl _) (by intros; rfl) (by intros; rfl) (fun b1 b2 w8 hs1 hs2 hne e1 e2 hb8 => ?_))
          have hb8' : Below wr.heap.size wr w8 := below_undrew (k := 1) hb8
          have hs1 : wr.heap.size ≤ b1 := hs1
          have hs2 : wr.heap.size ≤ b2 := hs2
          obtain ⟨_, _, _, _, f1, f2, f3, f4⟩ := cells_of4 e1
          obtain ⟨_, _, _, _, f5, f6, f7, f8⟩ := cells_of4 e2
          try simp only [Act.put, List.setIfInBounds_toArray, List.set_cons_zero, List.set_cons_succ]
          refine wpR_one (i := 4) (by kernel_rfl) rfl rfl (fun K hK => ?_)
          go_simp
          refine hK _ _ (Below.put4 (Below.refl _ _) hs1 ..) ?_
          clear hK K
          refine wpR_one (i := 5) (by kernel_rfl) rfl rfl (fun K hK => ?_)
          go_simp
          refine hK _ _ (Below.put4 (Below.refl _ _) hs2 ..) ?_
          clear hK K
          refine wpR_end (by kernel_rfl) ?_
          have q1 : IsQ w8 b1 := ⟨_, _, _, _, _, _, _, _, e1⟩
          have q2 : IsQ w8 b2 := ⟨_, _, _, _, _, _, _, _, e2⟩
          have h68 := H6r.out.trans (hb8'.mono H6r.out.size)
          have q2' := q2.other hne sz az nz cz false bz mz dz
          have Y1 := Lib.hid ((VarQ.put q1 (Zb.out.go h68) (Zc.out.go h68)).other q2' (Ne.symm hne) sz az nz cz false bz mz dz)
          have Y2 := Lib.hid (VarQ.put (q := mkRat 0 1) q2' ((Zb.out.go h68).put q1) ((Zc.out.go h68).put q1))
          have w9B := Lib.hid (Below.put4 (Below.put4 hb8' hs1 sz az nz cz false bz mz dz) hs2 sz az nz cz false bz mz dz)
          unfold W4 at Y1 Y2 w9B
          clear q1 q2 h68 q2' e1 e2 hb8 hb8' f1 f2 f3 f4 f5 f6 f7 f8
          generalize (((((((w8.setCell ⟨b1, 0, none⟩ (.bool sz)).setCell ⟨b1, 1, none⟩ (.slice az nz cz)).setCell ⟨b1, 2, none⟩ (.bool false)).setCell ⟨b1, 3, none⟩ (.slice bz mz dz)).setCell ⟨b2, 0, none⟩ (.bool sz)).setCell ⟨b2, 1, none⟩ (.slice az nz cz)).setCell ⟨b2, 2, none⟩ (.bool false)).setCell ⟨b2, 3, none⟩ (.slice bz mz dz) = w9 at *
          by_cases hj2 : j < t
          · obtain ⟨sA, aA, nA, cA, bA, mA, dA, r0, r1, r2, r3, l1, l2⟩ := (Hrw.out.go (Hby.out.trans (w9B.out.mono Hby.out.size))).at hj2
            obtain ⟨p0, p1, p2, p3, _, _, _, _⟩ := cells_of4 (((H6r.out.trans (w9B.out.mono H6r.out.size)).block gq hlq).trans Qa.out)
            have hl1 : gq < w9.heap.size := Nat.lt_of_lt_of_le hlq (Nat.le_trans H6r.out.size w9B.out.size)
            have hl2 : g < w9.heap.size := Nat.lt_of_lt_of_le hg (Nat.le_trans Hby.out.size w9B.out.size)
            have LA := Lib.hid l1; have LB := Lib.hid l2
            clear l1 l2
            go_wp2_with fail
            refine wp_region_floats 9 [8] [] [(0, true), (1, true), (2, true), (3, true), (4, true), (5, false), (6, true), (7, true), (8, true)] (by kernel_rfl) (by kernel_rfl) ⟨by simp, by simp, fun _ h => by cases h⟩ (fun _ _ _ _ _ h => h) (fun _ _ o _ _ h => by cases o <;> exact h) ?_
            iterate 5
              refine wpG_yield (v := ?_) rfl rfl (by rfl) ?_ ?_
              rotate_left
              · intro y hy
                have y0 := (hy.cell (p := ⟨gq, 0, none⟩) hl1).trans p0
                have y1 := (hy.cell (p := ⟨gq, 1, none⟩) hl1).trans p1
                have y2 := (hy.cell (p := ⟨gq, 2, none⟩) hl1).trans p2
                have y3 := (hy.cell (p := ⟨gq, 3, none⟩) hl1).trans p3
                have y4 := (hy.cell (p := ⟨g, j * 4, none⟩) hl2).trans r0
                have y5 := (hy.cell (p := ⟨g, j * 4 + 1, none⟩) hl2).trans r1
                have y6 := (hy.cell (p := ⟨g, j * 4 + 2, none⟩) hl2).trans r2
                have y7 := (hy.cell (p := ⟨g, j * 4 + 3, none⟩) hl2).trans r3
                go_simp
                with_reducible rfl
              try simp only [Act.put, List.setIfInBounds_toArray, List.set_cons_zero, List.set_cons_succ]
            clear p0 p1 p2 p3 r0 r1 r2 r3
            refine wpG_step rfl rfl (fun y1 hy1 K hK => ?_)
            go_simp
            have hy1' : Below w9.heap.size w9 y1 := below_undrew (k := 1) hy1
            have h6y := (H6r.out.trans (w9B.out.mono H6r.out.size)).trans (hy1'.mono (Nat.le_trans H6r.out.size w9B.out.size))
            refine (qmul_any (prob x (t - 1) j) (mkRat (100 - x) 100) _ _ _ ⟨sA, aA, nA, cA, bA, mA, dA, rfl, LA.out.go hy1', LB.out.go hy1'⟩ ⟨sq, aq, nq, cq, bq, mq, dq, rfl, Qb.out.go h6y, Qc.out.go h6y⟩ (prod_fit (by omega) (by omega) h0 h1 (by omega) (by omega)).1 (prod_fit (by omega) (by omega) h0 h1 (by omega) (by omega)).2).mono ?_
            rintro e w10 ⟨vv, rfl, ⟨sB, aB, nB, cB, bB, mB, dB, rfl, l1, l2⟩, hb10⟩
            refine hK _ _ hb10 ?_
            clear hK K h6y
            try simp only [Act.put, List.setIfInBounds_toArray, List.set_cons_zero, List.set_cons_succ]
            iterate 3
              refine wpG_pure (v := ?_) rfl (by rfl) ?_ ?_
              rotate_left
              · intro z
                go_simp
                with_reducible rfl
              try simp only [Act.put, List.setIfInBounds_toArray, List.set_cons_zero, List.set_cons_succ]
            refine wpG_nil0 rfl (fun w120 hb11 => ?_)
            have h9b : Below w9.heap.size w9 w120 := hy1'.trans ((hb10.trans (hb11.mono hb10.size)).mono hy1'.size)
            have v1 := Y1.out.go h9b
            have v2 := Y2.out.go h9b
            have hbW := w9B.out.trans (h9b.mono w9B.out.size)
            have X1 := Lib.hid v1.is
            have X3 := Lib.hid (v2.other v1.is hne sB aB nB cB false bB mB dB)
            have X2 := Lib.hid (VarQ.put v1.is (l1.go hb11) (l2.go hb11))
            have XB := Lib.hid (Below.put4 hbW hs1 sB aB nB cB false bB mB dB)
            obtain ⟨_, _, _, _, _, _, _, _, e0⟩ := v1.is
            obtain ⟨_, _, _, _, f1, f2, f3, f4⟩ := cells_of4 e0
            clear hy1 hy1' hb10 hb11 h9b v1 v2 hbW l1 l2 LA LB e0
            unfold W4 at X1 X2 X3 XB
            by_cases hj3 : 0 < j
            · go_wp2_with fail
              have Y3 := X2; have Y4 := X3; have w12B := XB
              generalize (((w120.setCell ⟨b1, 0, none⟩ (.bool sB)).setCell ⟨b1, 1, none⟩ (.slice aB nB cB)).setCell ⟨b1, 2, none⟩ (.bool false)).setCell ⟨b1, 3, none⟩ (.slice bB mB dB) = w12 at *
              clear X1 X2 X3 XB f1 f2 f3 f4
              have i1 : IntKind.i64.wrap ((j : Int) - 1) = (j : Int) - 1 := IntWalk.i64_in _ (by omega)
              have i2 : (0 : Int) ≤ (j : Int) - 1 := by omega
              have i3 : ((j : Int) - 1).toNat = j - 1 := by omega
              have i4 : (j : Int) - 1 < (t : Int) := by omega
              have i5 : (1 : Int) ≤ (j : Int) := by omega
              obtain ⟨sA, aA, nA, cA, bA, mA, dA, r0, r1, r2, r3, l1, l2⟩ := (Hrw.out.go (Hby.out.trans (w12B.out.mono Hby.out.size))).at (show j - 1 < t by omega)
              obtain ⟨p0, p1, p2, p3, _, _, _, _⟩ := cells_of4 (((H6r.out.trans (w12B.out.mono H6r.out.size)).block gp hlp).trans Pa.out)
              have hl1 : gp < w12.heap.size := Nat.lt_of_lt_of_le hlp (Nat.le_trans H6r.out.size w12B.out.size)
              have hl2 : g < w12.heap.size := Nat.lt_of_lt_of_le hg (Nat.le_trans Hby.out.size w12B.out.size)
              have LA := Lib.hid l1; have LB := Lib.hid l2
              clear l1 l2
              go_wp2_with fail
              refine wp_region_floats 10 [9] [] [(0, true), (1, true), (2, true), (3, true), (4, true), (5, true), (6, false), (7, true), (8, true), (9, true)] (by kernel_rfl) (by kernel_rfl) ⟨by simp, by simp, fun _ h => by cases h⟩ (fun _ _ _ _ _ h => h) (fun _ _ o _ _ h => by cases o <;> exact h) ?_
              iterate 6
                refine wpG_yield (v := ?_) rfl rfl (by rfl) ?_ ?_
                rotate_left
                · intro y hy
                  have y0 := (hy.cell (p := ⟨gp, 0, none⟩) hl1).trans p0
                  have y1 := (hy.cell (p := ⟨gp, 1, none⟩) hl1).trans p1
                  have y2 := (hy.cell (p := ⟨gp, 2, none⟩) hl1).trans p2
                  have y3 := (hy.cell (p := ⟨gp, 3, none⟩) hl1).trans p3
                  have y4 := (hy.cell (p := ⟨g, (j - 1) * 4, none⟩) hl2).trans r0
                  have y5 := (hy.cell (p := ⟨g, (j - 1) * 4 + 1, none⟩) hl2).trans r1
                  have y6 := (hy.cell (p := ⟨g, (j - 1) * 4 + 2, none⟩) hl2).trans r2
                  have y7 := (hy.cell (p := ⟨g, (j - 1) * 4 + 3, none⟩) hl2).trans r3
                  go_simp
                  with_reducible rfl
                try simp only [Act.put, List.setIfInBounds_toArray, List.set_cons_zero, List.set_cons_succ]
              clear i1 i2 i3 i4 i5 p0 p1 p2 p3 r0 r1 r2 r3
              refine wpG_step rfl rfl (fun y1 hy1 K hK => ?_)
              go_simp
              have hy1' : Below w12.heap.size w12 y1 := below_undrew (k := 1) hy1
              have h6y := (H6r.out.trans (w12B.out.mono H6r.out.size)).trans (hy1'.mono (Nat.le_trans H6r.out.size w12B.out.size))
              refine (qmul_any (prob x (t - 1) (j - 1)) (mkRat x 100) _ _ _ ⟨sA, aA, nA, cA, bA, mA, dA, rfl, LA.out.go hy1', LB.out.go hy1'⟩ ⟨sp, ap, np, cp, bp, mp, dp, rfl, Pb.out.go h6y, Pc.out.go h6y⟩ (prod_fit (by omega) (by omega) h0 h1 (by omega) (by omega)).1 (prod_fit (by omega) (by omega) h0 h1 (by omega) (by omega)).2).mono ?_
              rintro e w10 ⟨vv, rfl, ⟨sB, aB, nB, cB, bB, mB, dB, rfl, l1, l2⟩, hb10⟩
              refine hK _ _ hb10 ?_
              clear hK K h6y
              try simp only [Act.put, List.setIfInBounds_toArray, List.set_cons_zero, List.set_cons_succ]
              iterate 3
                refine wpG_pure (v := ?_) rfl (by rfl) ?_ ?_
                rotate_left
                · intro z
                  go_simp
                  with_reducible rfl
                try simp only [Act.put, List.setIfInBounds_toArray, List.set_cons_zero, List.set_cons_succ]
              refine wpG_nil0 rfl (fun w140 hb11 => ?_)
              have h9b : Below w12.heap.size w12 w140 := hy1'.trans ((hb10.trans (hb11.mono hb10.size)).mono hy1'.size)
              have v1 := Y4.out.go h9b
              have v2 := Y3.out.go h9b
              have hbW := w12B.out.trans (h9b.mono w12B.out.size)
              have X1 := Lib.hid v1.is
              have X3 := Lib.hid (v2.other v1.is (Ne.symm hne) sB aB nB cB false bB mB dB)
              have X2 := Lib.hid (VarQ.put v1.is (l1.go hb11) (l2.go hb11))
              have XB := Lib.hid (Below.put4 hbW hs2 sB aB nB cB false bB mB dB)
              obtain ⟨_, _, _, _, _, _, _, _, e0⟩ := v1.is
              obtain ⟨_, _, _, _, f1, f2, f3, f4⟩ := cells_of4 e0
              clear hy1 hy1' hb10 hb11 h9b v1 v2 hbW l1 l2 LA LB e0
              unfold W4 at X1 X2 X3 XB
              obtain ⟨sD, aD, nD, cD, bD, mD, dD, e1, l1, l2⟩ := X3.out
              obtain ⟨sE, aE, nE, cE, bE, mE, dE, e2, l3, l4⟩ := X2.out
              obtain ⟨r0, r1, r2, r3, _, _, _, _⟩ := cells_of4 e1
              obtain ⟨r4, r5, r6, r7, _, _, _, _⟩ := cells_of4 e2
              have LA := Lib.hid l1; have LB := Lib.hid l2; have LC := Lib.hid l3; have LD := Lib.hid l4
              clear e1 e2 l1 l2 l3 l4
              go_wp2_with fail
              have w14B := XB
              generalize (((w140.setCell ⟨b2, 0, none⟩ (.bool sB)).setCell ⟨b2, 1, none⟩ (.slice aB nB cB)).setCell ⟨b2, 2, none⟩ (.bool false)).setCell ⟨b2, 3, none⟩ (.slice bB mB dB) = w14 at *
              clear X1 X2 X3 XB f1 f2 f3 f4
              have hsum := (show prob x (t - 1) j * mkRat (100 - x) 100 + prob x (t - 1) (j - 1) * mkRat x 100 = prob x t j by
                have := prob_mid x (t - 1) (j - 1) (by omega)
                rwa [show j - 1 + 1 = j by omega, show t - 1 + 1 = t by omega] at this)
              have hfit := prob_fit (x := x) (t := t) (j := j) (by omega) (by omega) h0 h1
              rw [← hsum] at hfit
              have Hsum := Lib.hid hsum; have Hfit := Lib.hid hfit
              clear hsum hfit
              refine (qadd_any _ _ _ _ _ ⟨sD, aD, nD, cD, bD, mD, dD, rfl, LA.out, LB.out⟩ ⟨sE, aE, nE, cE, bE, mE, dE, rfl, LC.out, LD.out⟩ Hfit.out.1 Hfit.out.2).mono ?_
              rintro e wB ⟨vv, rfl, hqg, hbB⟩
              rw [Hsum.out] at hqg
              obtain ⟨sC, aC, nC, cC, bC, mC, dC, rfl, l1, l2⟩ := hqg
              have hba := (Below.refl wB.heap.size wB).alloc (Nat.le_refl _) (.cells #[.bool sC, .slice aC nC cC, .bool false, .slice bC mC dC] 62)
              have hbC := w14B.out.trans ((hbB.trans (hba.mono hbB.size)).mono w14B.out.size)
              have hmC := Hmr.out.go hbC
              have hjn : j * 4 + 3 < (t + 1) * 4 := by omega
              obtain ⟨_, g0⟩ := hmC.cells (j := j * 4) (by omega)
              obtain ⟨_, g1⟩ := hmC.cells (j := j * 4 + 1) (by omega)
              obtain ⟨_, g2⟩ := hmC.cells (j := j * 4 + 2) (by omega)
              obtain ⟨_, g3⟩ := hmC.cells (j := j * 4 + 3) (by omega)
              have g4 := hmC.free (j * 4)
              have g5 := hmC.free (j * 4 + 1)
              have g6 := hmC.free (j * 4 + 2)
              have g7 := hmC.free (j * 4 + 3)
              have MC := Lib.hid (hmC.set (j := j) (by simp) (by omega) (l1.go hba) (l2.go hba))
              have BC := Lib.hid ((Hby.out.trans (hbC.mono Hby.out.size)))
              clear hba hbC hmC hbB l1 l2 r0 r1 r2 r3 r4 r5 r6 r7 LA LB LC LD
              go_wp2_with fail
              go_roundw
              case rel =>
                refine ⟨j + 1, by omega, by go_num, ?_, ?_⟩
                · rw [List.range_succ, List.map_append]; exact MC.out
                · exact (((BC.out.setCell (Nat.le_refl _) _).setCell (Nat.le_refl _) _).setCell (Nat.le_refl _) _).setCell (Nat.le_refl _) _
              case measure => simp [intOf]; omega
            · obtain ⟨sD, aD, nD, cD, bD, mD, dD, e1, l1, l2⟩ := X2.out
              obtain ⟨sE, aE, nE, cE, bE, mE, dE, e2, l3, l4⟩ := X3.out
              obtain ⟨r0, r1, r2, r3, _, _, _, _⟩ := cells_of4 e1
              obtain ⟨r4, r5, r6, r7, _, _, _, _⟩ := cells_of4 e2
              have LA := Lib.hid l1; have LB := Lib.hid l2; have LC := Lib.hid l3; have LD := Lib.hid l4
              clear e1 e2 l1 l2 l3 l4
              go_wp2_with fail
              have w12B := XB
              generalize (((w120.setCell ⟨b1, 0, none⟩ (.bool sB)).setCell ⟨b1, 1, none⟩ (.slice aB nB cB)).setCell ⟨b1, 2, none⟩ (.bool false)).setCell ⟨b1, 3, none⟩ (.slice bB mB dB) = w12 at *
              clear X1 X2 X3 XB f1 f2 f3 f4
              have hsum := (show prob x (t - 1) j * mkRat (100 - x) 100 + mkRat 0 1 = prob x t j by
                have := prob_first x (t - 1)
                rw [show j = 0 by omega]
                rwa [show t - 1 + 1 = t by omega] at this)
              have hfit := prob_fit (x := x) (t := t) (j := j) (by omega) (by omega) h0 h1
              rw [← hsum] at hfit
              have Hsum := Lib.hid hsum; have Hfit := Lib.hid hfit
              clear hsum hfit
              refine (qadd_any _ _ _ _ _ ⟨sD, aD, nD, cD, bD, mD, dD, rfl, LA.out, LB.out⟩ ⟨sE, aE, nE, cE, bE, mE, dE, rfl, LC.out, LD.out⟩ Hfit.out.1 Hfit.out.2).mono ?_
              rintro e wB ⟨vv, rfl, hqg, hbB⟩
              rw [Hsum.out] at hqg
              obtain ⟨sC, aC, nC, cC, bC, mC, dC, rfl, l1, l2⟩ := hqg
              have hba := (Below.refl wB.heap.size wB).alloc (Nat.le_refl _) (.cells #[.bool sC, .slice aC nC cC, .bool false, .slice bC mC dC] 62)
              have hbC := w12B.out.trans ((hbB.trans (hba.mono hbB.size)).mono w12B.out.size)
              have hmC := Hmr.out.go hbC
              have hjn : j * 4 + 3 < (t + 1) * 4 := by omega
              obtain ⟨_, g0⟩ := hmC.cells (j := j * 4) (by omega)
              obtain ⟨_, g1⟩ := hmC.cells (j := j * 4 + 1) (by omega)
              obtain ⟨_, g2⟩ := hmC.cells (j := j * 4 + 2) (by omega)
              obtain ⟨_, g3⟩ := hmC.cells (j := j * 4 + 3) (by omega)
              have g4 := hmC.free (j * 4)
              have g5 := hmC.free (j * 4 + 1)
              have g6 := hmC.free (j * 4 + 2)
              have g7 := hmC.free (j * 4 + 3)
              have MC := Lib.hid (hmC.set (j := j) (by simp) (by omega) (l1.go hba) (l2.go hba))
              have BC := Lib.hid ((Hby.out.trans (hbC.mono Hby.out.size)))
              clear hba hbC hmC hbB l1 l2 r0 r1 r2 r3 r4 r5 r6 r7 LA LB LC LD
              go_wp2_with fail
              go_roundw
              case rel =>
                refine ⟨j + 1, by omega, by go_num, ?_, ?_⟩
                · rw [List.range_succ, List.map_append]; exact MC.out
                · exact (((BC.out.setCell (Nat.le_refl _) _).setCell (Nat.le_refl _) _).setCell (Nat.le_refl _) _).setCell (Nat.le_refl _) _
              case measure => simp [intOf]; omega
          · have hj3 : 0 < j := by omega
            have i1 : IntKind.i64.wrap ((j : Int) - 1) = (j : Int) - 1 := IntWalk.i64_in _ (by omega)
            have i2 : (0 : Int) ≤ (j : Int) - 1 := by omega
            have i3 : ((j : Int) - 1).toNat = j - 1 := by omega
            have i4 : (j : Int) - 1 < (t : Int) := by omega
            have i5 : (1 : Int) ≤ (j : Int) := by omega
            obtain ⟨sA, aA, nA, cA, bA, mA, dA, r0, r1, r2, r3, l1, l2⟩ := (Hrw.out.go (Hby.out.trans (w9B.out.mono Hby.out.size))).at (show j - 1 < t by omega)
            obtain ⟨p0, p1, p2, p3, _, _, _, _⟩ := cells_of4 (((H6r.out.trans (w9B.out.mono H6r.out.size)).block gp hlp).trans Pa.out)
            have hl1 : gp < w9.heap.size := Nat.lt_of_lt_of_le hlp (Nat.le_trans H6r.out.size w9B.out.size)
            have hl2 : g < w9.heap.size := Nat.lt_of_lt_of_le hg (Nat.le_trans Hby.out.size w9B.out.size)
            have LA := Lib.hid l1; have LB := Lib.hid l2
            clear l1 l2
            go_wp2_with fail
            refine wp_region_floats 10 [9] [] [(0, true), (1, true), (2, true), (3, true), (4, true), (5, true), (6, false), (7, true), (8, true), (9, true)] (by kernel_rfl) (by kernel_rfl) ⟨by simp, by simp, fun _ h => by cases h⟩ (fun _ _ _ _ _ h => h) (fun _ _ o _ _ h => by cases o <;> exact h) ?_
            iterate 6
              refine wpG_yield (v := ?_) rfl rfl (by rfl) ?_ ?_
              rotate_left
              · intro y hy
                have y0 := (hy.cell (p := ⟨gp, 0, none⟩) hl1).trans p0
                have y1 := (hy.cell (p := ⟨gp, 1, none⟩) hl1).trans p1
                have y2 := (hy.cell (p := ⟨gp, 2, none⟩) hl1).trans p2
                have y3 := (hy.cell (p := ⟨gp, 3, none⟩) hl1).trans p3
                have y4 := (hy.cell (p := ⟨g, (j - 1) * 4, none⟩) hl2).trans r0
                have y5 := (hy.cell (p := ⟨g, (j - 1) * 4 + 1, none⟩) hl2).trans r1
                have y6 := (hy.cell (p := ⟨g, (j - 1) * 4 + 2, none⟩) hl2).trans r2
                have y7 := (hy.cell (p := ⟨g, (j - 1) * 4 + 3, none⟩) hl2).trans r3
                go_simp
                with_reducible rfl
              try simp only [Act.put, List.setIfInBounds_toArray, List.set_cons_zero, List.set_cons_succ]
            clear i1 i2 i3 i4 i5 p0 p1 p2 p3 r0 r1 r2 r3
            refine wpG_step rfl rfl (fun y1 hy1 K hK => ?_)
            go_simp
            have hy1' : Below w9.heap.size w9 y1 := below_undrew (k := 1) hy1
            have h6y := (H6r.out.trans (w9B.out.mono H6r.out.size)).trans (hy1'.mono (Nat.le_trans H6r.out.size w9B.out.size))
            refine (qmul_any (prob x (t - 1) (j - 1)) (mkRat x 100) _ _ _ ⟨sA, aA, nA, cA, bA, mA, dA, rfl, LA.out.go hy1', LB.out.go hy1'⟩ ⟨sp, ap, np, cp, bp, mp, dp, rfl, Pb.out.go h6y, Pc.out.go h6y⟩ (prod_fit (by omega) (by omega) h0 h1 (by omega) (by omega)).1 (prod_fit (by omega) (by omega) h0 h1 (by omega) (by omega)).2).mono ?_
            rintro e w10 ⟨vv, rfl, ⟨sB, aB, nB, cB, bB, mB, dB, rfl, l1, l2⟩, hb10⟩
            refine hK _ _ hb10 ?_
            clear hK K h6y
            try simp only [Act.put, List.setIfInBounds_toArray, List.set_cons_zero, List.set_cons_succ]
            iterate 3
              refine wpG_pure (v := ?_) rfl (by rfl) ?_ ?_
              rotate_left
              · intro z
                go_simp
                with_reducible rfl
              try simp only [Act.put, List.setIfInBounds_toArray, List.set_cons_zero, List.set_cons_succ]
            refine wpG_nil0 rfl (fun w140 hb11 => ?_)
            have h9b : Below w9.heap.size w9 w140 := hy1'.trans ((hb10.trans (hb11.mono hb10.size)).mono hy1'.size)
            have v1 := Y2.out.go h9b
            have v2 := Y1.out.go h9b
            have hbW := w9B.out.trans (h9b.mono w9B.out.size)
            have X1 := Lib.hid v1.is
            have X3 := Lib.hid (v2.other v1.is (Ne.symm hne) sB aB nB cB false bB mB dB)
            have X2 := Lib.hid (VarQ.put v1.is (l1.go hb11) (l2.go hb11))
            have XB := Lib.hid (Below.put4 hbW hs2 sB aB nB cB false bB mB dB)
            obtain ⟨_, _, _, _, _, _, _, _, e0⟩ := v1.is
            obtain ⟨_, _, _, _, f1, f2, f3, f4⟩ := cells_of4 e0
            clear hy1 hy1' hb10 hb11 h9b v1 v2 hbW l1 l2 LA LB e0
            unfold W4 at X1 X2 X3 XB
            obtain ⟨sD, aD, nD, cD, bD, mD, dD, e1, l1, l2⟩ := X3.out
            obtain ⟨sE, aE, nE, cE, bE, mE, dE, e2, l3, l4⟩ := X2.out
            obtain ⟨r0, r1, r2, r3, _, _, _, _⟩ := cells_of4 e1
            obtain ⟨r4, r5, r6, r7, _, _, _, _⟩ := cells_of4 e2
            have LA := Lib.hid l1; have LB := Lib.hid l2; have LC := Lib.hid l3; have LD := Lib.hid l4
            clear e1 e2 l1 l2 l3 l4
            go_wp2_with fail
            have w14B := XB
            generalize (((w140.setCell ⟨b2, 0, none⟩ (.bool sB)).setCell ⟨b2, 1, none⟩ (.slice aB nB cB)).setCell ⟨b2, 2, none⟩ (.bool false)).setCell ⟨b2, 3, none⟩ (.slice bB mB dB) = w14 at *
            clear X1 X2 X3 XB f1 f2 f3 f4
            have hsum := (show mkRat 0 1 + prob x (t - 1) (j - 1) * mkRat x 100 = prob x t j by
              have e2 : prob x t j = prob x (j - 1 + 1) (j - 1 + 1) := by rw [show j - 1 + 1 = j by omega, show t = j by omega]
              rw [show t - 1 = j - 1 by omega, e2]
              exact prob_last x (j - 1))
            have hfit := prob_fit (x := x) (t := t) (j := j) (by omega) (by omega) h0 h1
            rw [← hsum] at hfit
            have Hsum := Lib.hid hsum; have Hfit := Lib.hid hfit
            clear hsum hfit
            refine (qadd_any _ _ _ _ _ ⟨sD, aD, nD, cD, bD, mD, dD, rfl, LA.out, LB.out⟩ ⟨sE, aE, nE, cE, bE, mE, dE, rfl, LC.out, LD.out⟩ Hfit.out.1 Hfit.out.2).mono ?_
            rintro e wB ⟨vv, rfl, hqg, hbB⟩
            rw [Hsum.out] at hqg
            obtain ⟨sC, aC, nC, cC, bC, mC, dC, rfl, l1, l2⟩ := hqg
            have hba := (Below.refl wB.heap.size wB).alloc (Nat.le_refl _) (.cells #[.bool sC, .slice aC nC cC, .bool false, .slice bC mC dC] 62)
            have hbC := w14B.out.trans ((hbB.trans (hba.mono hbB.size)).mono w14B.out.size)
            have hmC := Hmr.out.go hbC
            have hjn : j * 4 + 3 < (t + 1) * 4 := by omega
            obtain ⟨_, g0⟩ := hmC.cells (j := j * 4) (by omega)
            obtain ⟨_, g1⟩ := hmC.cells (j := j * 4 + 1) (by omega)
            obtain ⟨_, g2⟩ := hmC.cells (j := j * 4 + 2) (by omega)
            obtain ⟨_, g3⟩ := hmC.cells (j := j * 4 + 3) (by omega)
            have g4 := hmC.free (j * 4)
            have g5 := hmC.free (j * 4 + 1)
            have g6 := hmC.free (j * 4 + 2)
            have g7 := hmC.free (j * 4 + 3)
            have MC := Lib.hid (hmC.set (j := j) (by simp) (by omega) (l1.go hba) (l2.go hba))
            have BC := Lib.hid ((Hby.out.trans (hbC.mono Hby.out.size)))
            clear hba hbC hmC hbB l1 l2 r0 r1 r2 r3 r4 r5 r6 r7 LA LB LC LD
            go_wp2_with fail
            go_roundw
            case rel =>
              refine ⟨j + 1, by omega, by go_num, ?_, ?_⟩
              · rw [List.range_succ, List.map_append]; exact MC.out
              · exact (((BC.out.setCell (Nat.le_refl _) _).setCell (Nat.le_refl _) _).setCell (Nat.le_refl _) _).setCell (Nat.le_refl _) _
            case measure => simp [intOf]; omega
        · obtain rfl : j = t + 1 := by omega
          have Hmr := Lib.hid hmr; have Hby := Lib.hid hby
          clear hmr hby
          go_wp2_with fail
          go_roundw
          case rel =>
            obtain ⟨_, _, _, _, hrq⟩ := Hmr.out
            exact ⟨t + 1, _, _, by omega, by omega, by go_num, rfl, Nat.le_refl _, hrq, Hbw.out.trans (Hby.out.mono Hbw.out.size)⟩
          case measure => simp [intOf]; omega
    · obtain rfl : t = N + 1 := by omega
      go_wp2
      go_ret2
      exact ⟨g, cap, rfl, hcap, Hrw.out, H6.out.trans (Hbw.out.mono H6.out.size)⟩

end Go.Proofs.Ytkfkdkoohnfgaaa
