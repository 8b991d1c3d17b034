/-
  DERIVED. The walks of package long's sizes, seventh part: Over.
-/
import Derived.Test.YtkfkdkoohnfgaaaKNum
import Derived.WalkMore
namespace Go.Proofs.Ytkfkdkoohnfgaaa
open Go.RowKit

/-- a call that gives back two sizes -/
def RetSS (w : World) (q r : Nat) (e : Ending) (w' : World) : Prop :=
  ∃ a n c a' n' c', e = .returned (.tuple #[.slice a n c, .slice a' n' c']) ∧ SL w'.heap.size w' a n c (digs q) ∧ SL w'.heap.size w' a' n' c' (digs r) ∧ Below w.heap.size w w' ∧ Fresh w.heap.size a n

set_option maxRecDepth 100000 in
set_option maxHeartbeats 3200000 in
theorem over_any (x y : Nat) (a b : Option Addr) (n m c d : Nat) (w : World) (ha : SL w.heap.size w a n c (digs x)) (hb : SL w.heap.size w b m d (digs y)) (hn : n ≤ 100000) (hm : m ≤ 100000) (hy : 0 < y) :
    Calls Try.prog 81 #[.slice a n c, .slice b m d] w (RetSS w (x / y) (x % y)) := by
  have hnl := ha.len
  have hml := hb.len
  have hm0 : 0 < m := by
    rcases Nat.eq_zero_or_pos m with h | h
    · rw [h] at hml; have := digs_len_zero.1 hml.symm; omega
    · exact h
  have Ha := Lib.hid ha; have Hb := Lib.hid hb; clear ha hb
  have Hnl := Lib.hid hnl; have Hml := Lib.hid hml; clear hnl hml
  go_enter Try.func81, Try.ntmps81
  go_wp2_with fail
  refine (cmp_any (digs x) (digs y) a b n m c d _ Ha.out Hb.out (by omega) (by omega) (dig_digs x) (dig_digs y)).mono ?_
  rintro e w1 ⟨rfl, kk, rfl⟩
  have hb1 : Below w.heap.size w (w.drewN kk) := below_drewN (Below.refl _ _) _
  have ha1 := Ha.out.go hb1
  have hb1' := Hb.out.go hb1
  generalize w.drewN kk = w1 at *
  have Ha1 := Lib.hid ha1; have Hb1 := Lib.hid hb1'; have Hw1 := Lib.hid hb1
  clear Ha Hb ha1 hb1' hb1
  have hsg := (cmpS_sign (m := x) (n := y)).2
  generalize cmpS (digs x) (digs y) = r at *
  have Hsg := Lib.hid hsg; clear hsg
  by_cases hxy : x < y
  · have hr : r < 0 := Hsg.out.2 hxy
    go_wp2
    go_ret2
    refine ⟨_, _, _, _, _, _, rfl, ?_, ?_, Hw1.out, Fresh.ofNone _ _⟩
    · rw [Nat.div_eq_of_lt hxy, digs_zero]; exact SL.nil _ _ _ _
    · rw [Nat.mod_eq_of_lt hxy]; exact Ha1.out
  · have hr : ¬ r < 0 := fun h => hxy (Hsg.out.1 h)
    by_cases hm1 : m = 1
    · subst hm1
      obtain ⟨bb, ob, rfl, hbb, cb⟩ := Hb1.out.at (by omega)
      have g1 := cb 0 (by omega)
      rw [Nat.add_zero] at g1
      have hyd : (digs y).getD 0 0 = (y : Int) ∧ y < 1000000000 := by
        have h1 := Hml.out
        have h2 := digs_lt y
        rw [← h1] at h2
        rw [digs_pos hy]
        simp
        omega
      rw [hyd.1] at g1
      have hy9 := hyd.2
      clear cb hyd
      go_wp2_with fail
      refine (part_any x a n c y _ Ha1.out (by omega) hy hy9).mono ?_
      rintro e w2 ⟨a2, n2, c2, rfl, hs2, hb2, hf2⟩
      have Hs2 := Lib.hid hs2; have Hb2 := Lib.hid hb2; have Hf2 := Lib.hid hf2; clear hs2 hb2 hf2
      go_wp2_with fail
      have hrd : Dig [((x % y : Nat) : Int)] := Dig.cons (by have := Nat.mod_lt x hy; omega) Dig.nil
      have hrs := SL.one w2 ((x % y : Nat) : Int) 3
      refine (trim_any [((x % y : Nat) : Int)] _ _ _ _ hrs hrd (by omega)).mono ?_
      rintro e w3 ⟨q, rfl, hq, hqd, rfl⟩
      have Hqd := Lib.hid hqd; have Hrs := Lib.hid hrs; have Hq := Lib.hid hq; clear hqd hrs hq
      go_wp2
      go_ret2
      have hba := (Below.refl w2.heap.size w2).alloc (Nat.le_refl _) (.cells #[.int .i64 ((x % y : Nat) : Int)] 3)
      refine ⟨_, _, _, _, _, _, rfl, Hs2.out.go hba, ?_, (Hw1.out.trans (Hb2.out.mono Hw1.out.size)).trans (hba.mono (by have := Hw1.out.size; have := Hb2.out.size; omega)), Hf2.out.mono Hw1.out.size⟩
      have := Hrs.out.pre (k := q) (by have := Hq.out; simpa using this)
      rw [Hqd.out] at this
      rw [show val [((x % y : Nat) : Int)] = ((x % y : Nat) : Int) by simp [val], Int.toNat_natCast] at this
      exact this
    · have hm2 : 2 ≤ m := by omega
      have hnm : m ≤ n := by rw [Hnl.out, Hml.out]; exact length_digs_mono (by omega)
      obtain ⟨f, hf⟩ : ∃ f : Int, f = 1000000000 / ((digs y).getD (m - 1) 0 + 1) := ⟨_, rfl⟩
      obtain ⟨s1, s2, s3, s4, s5, s6⟩ := scale_ok (y := y) (m := m - 1) (by have := Hml.out; omega) rfl hf
      obtain ⟨bb, ob, rfl, hbb, cb⟩ := Hb1.out.at (by omega)
      have gb1 := cb (m - 1) (by omega)
      clear cb
      generalize (digs y).getD (m - 1) 0 = bt at *
      have hq : (1000000000 : Int).tdiv (bt + 1) = f := by rw [hf, Int.tdiv_eq_ediv_of_nonneg (by omega)]
      have hbz : ¬ bt + 1 = 0 := by omega
      have S5 := Lib.hid s5; have S6 := Lib.hid s6
      clear hf s5 s6
      obtain ⟨M, rfl⟩ : ∃ M, m = M + 1 + 1 := ⟨m - 2, by omega⟩
      rw [Nat.add_sub_cancel] at gb1
      have s5 := S5.out
      have s6 := S6.out
      rw [Nat.add_sub_cancel] at s5 s6
      clear S5 S6
      have S5 := Lib.hid s5; have S6 := Lib.hid s6
      clear s5 s6
      have i1 : (0 : Int) ≤ (M : Int) + 1 + 1 := by omega
      have i2 : (M : Int) + 1 ≤ (M : Int) + 1 + 1 := by omega
      go_wp2_with fail
      clear gb1 s1 s2 hq hbz
      refine wp_region_floats 9 [] [] [(0, true), (1, true), (3, true), (4, true), (6, true), (2, false), (5, false), (7, true), (8, true)] (by kernel_rfl) (by kernel_rfl) ⟨by simp, by simp, fun _ h => by cases h⟩ (fun _ _ _ _ _ h => h) (fun _ _ o _ _ h => by cases o <;> exact h) ?_
      iterate 5
        refine wpG_pure (v := ?_) rfl (by rfl) ?_ ?_
        rotate_left
        · intro z
          go_simp
          with_reducible rfl
        try simp only [Act.put, List.setIfInBounds_toArray, List.set_cons_zero, List.set_cons_succ]
      refine wpG_step rfl rfl (fun x1 hx1 K hK => ?_)
      go_simp
      have hx1' : Below w1.heap.size w1 x1 := below_undrew (k := 1) hx1
      refine (by_any (digs x) a n c f _ (Ha1.out.go hx1') (by omega) (dig_digs x) (by omega) s4).mono ?_
      rintro e w2 ⟨us, rfl, hul, ⟨hud, huv⟩, hublk, hb2⟩
      refine hK _ _ hb2 ?_
      clear hK K
      generalize hg1 : x1.heap.size = g1 at *
      refine wpG_step rfl rfl (fun x2 hx2 K hK => ?_)
      go_simp
      have hx2' : Below w2.heap.size w2 x2 := hx2
      have hw12 : Below w1.heap.size w1 x2 := hx1'.trans ((hb2.trans (hx2'.mono (by have := hublk.lt; omega))).mono (by have := hx1'.size; omega))
      refine (by_any (digs y) _ (M + 1 + 1) d f _ (Hb1.out.go hw12) (by omega) (dig_digs y) (by omega) s4).mono ?_
      rintro e w3 ⟨vs, rfl, hvl, ⟨hvd, hvv⟩, hvblk, hb3⟩
      refine hK _ _ hb3 ?_
      clear hK K
      generalize hg2 : x2.heap.size = g2 at *
      have hgg : w.heap.size ≤ g1 ∧ g1 < g2 := by have := hublk.lt; have := hx2'.size; have := hx1'.size; have := Hw1.out.size; omega
      have hsc := scaled hvl hvd hvv (by rw [val_digs]; exact S5.out) (by
        rw [val_digs]
        have h6 := S6.out
        have : (y : Int) * 1 ≤ (y : Int) * f := Int.mul_le_mul_of_nonneg_left (by omega) (by omega)
        omega)
      have hlt := scaled_lt (x := x) (n := n) (M := M + 1) (f := f) (by rw [Hnl.out]; exact digs_lt x) (by omega) (by omega) (by have := S6.out; exact this) rfl
      rw [val_digs] at huv hvv hsc
      rw [← hsc.1] at hlt
      have huw : Blk w3 g1 us := (hublk.below hx2' hublk.lt).below hb3 (by omega)
      have hw3 : Below w.heap.size w w3 := (Hw1.out.trans (hw12.mono Hw1.out.size)).trans (hb3.mono (by omega))
      have Hsc := Lib.hid hsc; have Hlt := Lib.hid hlt; have Huv := Lib.hid huv; have Hud := Lib.hid hud; have Hul := Lib.hid hul; have Hvl := Lib.hid hvl
      have Huw := Lib.hid huw; have Hvw := Lib.hid hvblk; have Hw3 := Lib.hid hw3; have Hgg := Lib.hid hgg
      clear hsc hlt huv hud hul hvl hvd hvv huw hvblk hw3 hublk hb3 hb2 hx1 hx2 hx1' hx2' hw12 hg1 hg2 hgg
      iterate 2
        refine wpG_pure (v := ?_) rfl (by rfl) ?_ ?_
        rotate_left
        · intro z
          go_simp
          with_reducible rfl
        try simp only [Act.put, List.setIfInBounds_toArray, List.set_cons_zero, List.set_cons_succ]
      refine wpG_nil0 rfl (fun w4 hb4 => ?_)
      have hg2lt := Hvw.out.lt
      have huw := Huw.out.below hb4 (by have := Hgg.out; omega)
      have hvw := Hvw.out.below hb4 hg2lt
      have hw4 := Hw3.out.trans (hb4.mono (by have := Hw3.out.size; omega))
      have hs4 : g2 < w4.heap.size := by have := hb4.size; omega
      have Huw4 := Lib.hid huw; have Hvw4 := Lib.hid hvw; have Hw4 := Lib.hid hw4
      clear huw hvw hw4 hb4 hg2lt
      go_wp2_with (refine wpList_make_ints rfl (.tmp 58) (.tmp 58) 84 rfl Try.underlying84 ((n : Int) - ((M : Int) + 1 + 1) + 1) (n - (M + 1)) rfl rfl (by omega) (by omega) ?_)
      intro w5 hqblk hb5
      have hs5 : w4.heap.size < w5.heap.size := hqblk.lt
      have huw := Huw4.out.below hb5 (by have := Hgg.out; omega)
      have hvw := Hvw4.out.below hb5 hs4
      have hw5 := Hw4.out.trans (hb5.mono Hw4.out.size)
      have hg3 : g2 < w4.heap.size := hs4
      generalize hg3e : w4.heap.size = g3 at *
      have Huw := Lib.hid huw; have Hvw := Lib.hid hvw; have Hw5 := Lib.hid hw5; have Hqb := Lib.hid hqblk
      clear huw hvw hw5 hqblk hb5 hs4 hs5 hg3e
      go_wp2_with fail
      have hnM : n + 1 - (M + 1 + 1) = n - (M + 1) := by omega
      have HnM := Lib.hid hnM; clear hnM
      have hkd : KD (n + 1) (vs.take (M + 1 + 1)) ((x : Int) * f) (n - (M + 1)) us (List.replicate (n - (M + 1)) 0) := by
        have := KD.start (L := n + 1) (vs := vs.take (M + 1 + 1)) (us := us) (W := (x : Int) * f) Hul.out Hud.out (by rw [Hsc.out.2.2.1]; omega) Huv.out.symm (by rw [Hsc.out.2.2.1, HnM.out, Huv.out]; exact Hlt.out)
        rw [Hsc.out.2.2.1, HnM.out] at this
        exact this
      have Hkd := Lib.hid hkd; clear hkd
      go_loopw [12] (fun jv wr => ∃ (j : Nat) (us qs : List Int), j ≤ n - (M + 1) ∧ jv = .int .i64 ((j : Int) - 1) ∧ Blk wr g1 us ∧ Blk wr g2 vs ∧ Blk wr g3 qs ∧ KD (n + 1) (vs.take (M + 1 + 1)) ((x : Int) * f) j us qs ∧ Below w.heap.size w wr) (fun jv _ => (intOf jv + 1).toNat)
      case atStart => exact ⟨n - (M + 1), us, _, Nat.le_refl _, by first | rfl | congr 1 | (congr 1; omega), Huw.out, Hvw.out, Hqb.out, Hkd.out, Hw5.out⟩
      case round =>
        obtain ⟨j, us, qs, hj, rfl, hu, hv, hqb, hkd, hwr⟩ := hrel
        have hul : us.length = n + 1 := hkd.1
        have hql : qs.length = n - (M + 1) := by have h := hkd.2.2.1; rw [Hsc.out.2.2.1] at h; omega
        have Hul := Lib.hid hul; have Hql := Lib.hid hql; have Hkd := Lib.hid hkd; have Hwr := Lib.hid hwr
        clear hul hql hkd hwr
        by_cases hj0 : j = 0
        · subst hj0
          have hk := Hkd.out
          obtain ⟨_, hud, _, hqd, hW, hlt⟩ := hk
          rw [Int.pow_zero, Int.one_mul, List.drop_zero, Hsc.out.1] at hW
          rw [Int.pow_zero, Int.mul_one, Hsc.out.1] at hlt
          obtain ⟨he1, he2⟩ := kd_end (by omega) (by omega) hW (val_nonneg hud) hlt
          have htk := val_take_of_lt (k := M + 1 + 1) hud (by rw [Hul.out]; omega) (by have := S5.out; omega)
          rw [he2, ← Int.natCast_emod] at htk
          rw [← Int.natCast_ediv] at he1
          have hsu := (hu.sl (c := n + 1) (by rw [Hul.out]; omega)).pre (k := M + 1 + 1) (by rw [Hul.out]; omega)
          have hsq := hqb.sl (c := n - (M + 1)) (by rw [Hql.out]; omega)
          rw [Hql.out] at hsq
          have Hsu := Lib.hid hsu; have Hsq := Lib.hid hsq; have Htk := Lib.hid htk; have He1 := Lib.hid he1; have Hud := Lib.hid hud; have Hqd := Lib.hid hqd
          clear hsu hsq htk he1 he2 hud hqd hW hlt hu hv hqb
          go_wp2_with fail
          refine (trim_any (us.take (M + 1 + 1)) _ _ _ _ Hsu.out (Hud.out.take _) (by omega)).mono ?_
          rintro e w6 ⟨k, rfl, hk, hkd, rfl⟩
          have hsk := Hsu.out.pre (k := k) (by rw [List.length_take, Hul.out] at hk; omega)
          rw [hkd, Htk.out] at hsk
          have hkb : k ≤ 100000 := by rw [List.length_take, Hul.out] at hk; omega
          have Hsk := Lib.hid hsk
          clear hsk hkd hk
          have hf0 : 0 ≤ ((x % y : Nat) : Int) * f := Int.mul_nonneg (by omega) (by omega)
          have hvd : val (digs (((x % y : Nat) : Int) * f).toNat) = ((x % y : Nat) : Int) * f := by rw [val_digs, Int.toNat_of_nonneg hf0]
          have Hvd := Lib.hid hvd
          clear hvd hf0
          go_wp2_with fail
          refine (part_raw _ _ _ _ f _ Hsk.out (by omega) (dig_digs _) (by omega) s4).mono ?_
          rintro e w7 ⟨a7, n7, c7, rfl, hs7, hb7, hf7⟩
          rw [Hvd.out, Int.mul_ediv_cancel _ (by omega), Int.toNat_natCast] at hs7
          have hsq7 := Hsq.out.go hb7
          have hw7 := Hwr.out.trans (hb7.mono Hwr.out.size)
          have Hs7 := Lib.hid hs7; have Hsq7 := Lib.hid hsq7; have Hw7 := Lib.hid hw7
          clear hs7 hsq7 hw7 hf7 hb7
          go_wp2_with fail
          refine (trim_any qs _ _ _ _ Hsq7.out Hqd.out (by omega)).mono ?_
          rintro e w8 ⟨k2, rfl, hk2, hkd2, rfl⟩
          have hsk2 := Hsq7.out.pre (k := k2) (by rw [Hql.out] at hk2; exact hk2)
          rw [hkd2, He1.out, Int.toNat_natCast] at hsk2
          have Hsk2 := Lib.hid hsk2
          clear hsk2 hkd2 hk2
          go_wp2
          go_ret2
          exact ⟨_, _, _, _, _, _, rfl, Hsk2.out, Hs7.out, Hw7.out, Fresh.mk (by have := Hgg.out; omega) _⟩
        · obtain ⟨j, rfl⟩ : ∃ k, j = k + 1 := ⟨j - 1, by omega⟩
          rw [show (((j + 1 : Nat) : Int) - 1) = (j : Int) by omega]
          clear hj0
          have hwin := Hkd.out.win (by rw [Hsc.out.2.2.1]; omega) Hsc.out.2.2.2
          have hwin1 := hwin.1
          have hwin2 := hwin.2.1
          clear hwin
          have htop := tops_of (win := (us.drop j).take ((vs.take (M + 1 + 1)).length + 1)) (vs := vs.take (M + 1 + 1)) (by rw [List.length_take, List.length_drop, Hul.out, Hsc.out.2.2.1]; omega) (by rw [Hsc.out.2.2.1]; omega) ((Hkd.out.2.1.drop j).take _) Hsc.out.2.2.2
            (by rw [Hsc.out.2.2.1]; exact Hsc.out.2.1) hwin2
          rw [Hsc.out.2.2.1] at htop hwin1 hwin2
          rw [win_get (by omega), win_get (by omega), win_get (by omega), getD_take (by omega), getD_take (by omega)] at htop
          simp only [show M + 1 + 1 - 2 = M by omega, show M + 1 + 1 - 1 = M + 1 by omega] at htop
          have c2 := hu.cell (j := j + (M + 1 + 1)) (by rw [Hul.out]; omega)
          have c1 := hu.cell (j := j + (M + 1)) (by rw [Hul.out]; omega)
          have c0 := hu.cell (j := j + M) (by rw [Hul.out]; omega)
          have k1 := hv.cell (j := M + 1) (by rw [Hvl.out]; omega)
          have k0 := hv.cell (j := M) (by rw [Hvl.out]; omega)
          generalize us.getD (j + (M + 1 + 1)) 0 = a2 at *
          generalize us.getD (j + (M + 1)) 0 = a1 at *
          generalize us.getD (j + M) 0 = a0 at *
          generalize vs.getD (M + 1) 0 = v1 at *
          generalize vs.getD M 0 = v0 at *
          have hest := Est.start htop
          have hVp := htop.V_pos
          obtain ⟨b1, b2, b3, b4, b5, b6, b7, b8, b9, b10⟩ : 0 ≤ a0 ∧ a0 < 1000000000 ∧ 0 ≤ a1 ∧ a1 < 1000000000 ∧ 0 ≤ a2 ∧ a2 < 1000000000 ∧ 0 ≤ v0 ∧ v0 < 1000000000 ∧ 1 ≤ v1 ∧ v1 < 1000000000 := by
            obtain ⟨_, _, _, _, _, _, _, _, r1, r2, r3, r4, r5, r6, r7, r8, r9, r10, _⟩ := htop
            exact ⟨r1, r2, r3, r4, r5, r6, r7, r8, r9, r10⟩
          have hq : (a2 * 1000000000 + a1).tdiv v1 = (a2 * 1000000000 + a1) / v1 := Int.tdiv_eq_ediv_of_nonneg (by omega)
          have hm : (a2 * 1000000000 + a1).tmod v1 = (a2 * 1000000000 + a1) % v1 := Int.tmod_eq_emod_of_nonneg (by omega)
          have hvz : ¬ v1 = 0 := by omega
          obtain ⟨hest, hd2, hr2⟩ := hest
          have hd1 := hest.2.2.1
          have hr1 := hest.2.1
          generalize (a2 * 1000000000 + a1) / v1 = D0 at *
          generalize (a2 * 1000000000 + a1) % v1 = R0 at *
          have Hest := Lib.hid hest; have Htop := Lib.hid htop; have Hu := Lib.hid hu; have Hv := Lib.hid hv; have Hqs := Lib.hid hqb; have Hwin1 := Lib.hid hwin1; have Hwin2 := Lib.hid hwin2; have HVp := Lib.hid hVp
          have K1 := Lib.hid k1
          clear hest htop hu hv hqb hwin1 hwin2 hVp
          go_wp2_with fail
          go_step3
          go_wp2_with fail
          go_quiet (fail)
          go_wp2_with fail
          go_quiet (fail)
          go_wp2_with fail
          go_step3
          go_wp2_with fail
          clear c2 c1 k1 hq hm hvz
          simp only [show j + (M + 1 + 1) - 1 = j + (M + 1) by omega]
          go_loopw [14, 15] (fun dv rv wq => ∃ (d rest : Int), dv = .int .i64 d ∧ rv = .int .i64 rest ∧ Est (val ((us.drop j).take (M + 1 + 1 + 1))) (val (vs.take (M + 1 + 1))) (a2 * 1000000000 + a1) v1 d rest ∧ d ≤ 2000000000 ∧ rest < 1000000000 ∧ Below wr.heap.size wr wq) (fun dv _ _ => (intOf dv).toNat)
          case atStart => exact ⟨D0, R0, rfl, rfl, Hest.out, hd2, by omega, below_drewN (below_drewN (Below.refl _ _) _) _⟩
          case round =>
            clear Hest hd1 hd2 hr1 hr2
            obtain ⟨d, rest, rfl, rfl, hest, hd2, hr2, hbq⟩ := hrel
            have hd1 := hest.2.2.1
            have hr1 := hest.2.1
            have Hest := Lib.hid hest; have Hbq := Lib.hid hbq
            have c0q := (hbq.cell (p := ⟨g1, j + M, none⟩) (Hu.out.lt)).trans c0
            have k0q := (hbq.cell (p := ⟨g2, M, none⟩) (Hv.out.lt)).trans k0
            have k1q := (hbq.cell (p := ⟨g2, M + 1, none⟩) (Hv.out.lt)).trans K1.out
            clear hest hbq
            have ei1 : (M : Int) + 1 + 1 - 2 = (M : Int) := by omega
            have ei2 : (j : Int) + ((M : Int) + 1 + 1) - 2 = (j : Int) + (M : Int) := by omega
            have ei3 : IntKind.i64.wrap (M : Int) = (M : Int) := IntWalk.i64_in _ (by omega)
            have ei4 : IntKind.i64.wrap ((j : Int) + (M : Int)) = (j : Int) + (M : Int) := IntWalk.i64_in _ (by omega)
            have ei5 : (M : Int) < (M : Int) + 1 + 1 := by omega
            have ei6 : (j : Int) + (M : Int) < (n : Int) + 1 := by omega
            have ei7 : 0 ≤ (j : Int) + (M : Int) := by omega
            have ei8 : IntKind.i64.wrap ((j : Int) + ((M : Int) + 1 + 1)) = (j : Int) + ((M : Int) + 1 + 1) := IntWalk.i64_in _ (by omega)
            have ei9 : ((j : Int) + (M : Int)).toNat = j + M := by omega
            have hp0 : 0 ≤ d * v0 := Int.mul_nonneg hd1 b7
            have hp1 : d * v0 ≤ 2000000000 * 1000000000 := Int.mul_le_mul hd2 (by omega) b7 (by omega)
            have ew1 : IntKind.i64.wrap (d * v0) = d * v0 := IntWalk.i64_in _ (by omega)
            have ew2 : IntKind.i64.wrap (rest * 1000000000) = rest * 1000000000 := IntWalk.i64_in _ (by omega)
            have ew3 : IntKind.i64.wrap (rest * 1000000000 + a0) = rest * 1000000000 + a0 := IntWalk.i64_in _ (by omega)
            by_cases cc : 1000000000 ≤ d
            · have hn := Est.next Htop.out Hest.out (Or.inl cc)
              have Hn := Lib.hid hn; clear hn
              go_wp2_with fail
              go_quiet (fail)
              clear ei1 ei2 ei3 ei4 ei5 ei6 ei7 ei8 ei9 ew1 ew2 ew3
              by_cases cr : rest + v1 < 1000000000
              · go_wp2_with fail
                go_roundw
                case rel => exact ⟨d - 1, rest + v1, rfl, rfl, Hn.out.1, by omega, cr, below_drewN Hbq.out _⟩
                case measure => have := Hn.out.2; simp [intOf]; omega
              · have hdn := Est.done Htop.out Hn.out.1 (Or.inr (by omega))
                have Hdn := Lib.hid hdn; clear hdn
                clear c0q k0q hp0 hp1
                obtain ⟨E, hE⟩ : ∃ E : Int, d - 1 = E := ⟨_, rfl⟩
                have hE0 : 0 ≤ E := by have := Hn.out.2; omega
                rw [hE] at Hdn
                go_wp2_with fail
                have esl : j + (M + 1 + 1) + 1 - j = M + 1 + 1 + 1 := by omega
                rw [esl]
                have hu6 := (Hu.out.below Hbq.out Hu.out.lt).drew nq
                have hv6 := (Hv.out.below Hbq.out Hv.out.lt).drew nq
                have hq6 := (Hqs.out.below Hbq.out Hqs.out.lt).drew nq
                have hw6 := below_drewN (Hwr.out.trans (Hbq.out.mono (by have := Hwr.out.size; omega))) nq
                generalize World.drewN _ nq = wq at *
                have hsv := (hv6.sl (c := M + 1 + 1 + 1) (by rw [Hvl.out]; omega)).pre (k := M + 1 + 1) (by rw [Hvl.out]; omega)
                have Hu6 := Lib.hid hu6; have Hv6 := Lib.hid hv6; have Hq6 := Lib.hid hq6; have Hw6 := Lib.hid hw6
                clear hu6 hv6 hq6 hw6
                refine (sless_any g1 j us (vs.take (M + 1 + 1)) (some ⟨g2, 0, none⟩) (M + 1 + 1) _ _ E _ Hu6.out (by rw [Hul.out]; omega) (by rw [Hul.out]; omega) (by exact hsv) (fun b' off e _ => by cases e; have := Hgg.out; omega) Hkd.out.2.1 Hsc.out.2.2.2 hE0 Hdn.out.1).mono ?_
                rintro e w6 ⟨out, cr, rfl, hc0, hc1, hol, hod, hov, hblk, honly⟩
                have hvl := val_lt hod
                rw [hol] at hvl
                have hsub := sub_done HVp.out Hwin1.out Hdn.out.2 (val_nonneg hod) hvl (by omega) hov
                have hv7 : Blk w6 g2 vs := Hv6.out.only honly (by have := Hgg.out; omega)
                have hq7 : Blk w6 g3 qs := Hq6.out.only honly (by have := Hgg.out; omega)
                have hw7 : Below w.heap.size w w6 := Hw6.out.trans (honly.below (Hgg.out.1))
                have g30 := hq7.cell (j := j) (by rw [Hql.out]; omega)
                have g31 := hq7.free j
                have Hsub := Lib.hid hsub; have Hblk := Lib.hid hblk; have Hv7 := Lib.hid hv7; have Hq7 := Lib.hid hq7; have Hw7 := Lib.hid hw7; have Hol := Lib.hid hol; have Hod := Lib.hid hod; have Hvl2 := Lib.hid hvl
                clear hsub hblk hv7 hq7 hw7 hol hod hov hvl honly hsv
                have hg13 : g1 < g3 := by have := Hgg.out; omega
                by_cases hcr : cr < 0
                · obtain rfl : cr = -1 := by omega
                  obtain ⟨hq1, hq2⟩ := Hsub.out.2 rfl
                  have Hq1 := Lib.hid hq1; have Hq2 := Lib.hid hq2
                  clear hq1 hq2 Hsub
                  go_wp2_with fail
                  rw [esl]
                  have hsv := (Hv7.out.sl (c := M + 1 + 1 + 1) (by rw [Hvl.out]; omega)).pre (k := M + 1 + 1) (by rw [Hvl.out]; omega)
                  have hsl7 : (spl us j out).length = n + 1 := by rw [spl_len (by rw [Hol.out, Hul.out]; omega)]; exact Hul.out
                  refine (smore_any g1 j (spl us j out) (vs.take (M + 1 + 1)) (some ⟨g2, 0, none⟩) (M + 1 + 1) _ _ _ Hblk.out (by rw [hsl7]; omega) (by rw [hsl7]; omega) (by exact hsv) (fun b' off e _ => by cases e; have := Hgg.out; omega) (dig_spl Hkd.out.2.1 Hod.out) Hsc.out.2.2.2).mono ?_
                  rintro e w7 ⟨out2, cr2, rfl, hd0, hd1, hol2, hod2, hov2, hblk2, honly2⟩
                  rw [spl_win Hol.out (by rw [Hul.out]; omega)] at hov2
                  rw [spl_spl Hol.out hol2 (by rw [Hul.out]; omega)] at hblk2
                  have hvl2 := val_lt hod2
                  rw [hol2] at hvl2
                  have hmod := Hq2.out _ _ (val_nonneg hod2) hvl2 (by omega) hov2
                  have hst := Hkd.out.stepm (m := M + 1 + 1) Hsc.out.2.2.1 (by omega) Hsc.out.2.2.2 HVp.out hol2 hod2 hmod
                  rw [show val ((us.drop j).take (M + 1 + 1 + 1)) / val (vs.take (M + 1 + 1)) = E - 1 by have := Hq1.out; omega] at hst
                  have hv8 : Blk w7 g2 vs := Hv7.out.only honly2 (by have := Hgg.out; omega)
                  have hq8 : Blk w7 g3 qs := Hq7.out.only honly2 (by omega)
                  have hw8 : Below w.heap.size w w7 := Hw7.out.trans (honly2.below (Hgg.out.1))
                  have hg8 : w.heap.size ≤ g3 := by have := Hgg.out.1; omega
                  have Hst := Lib.hid hst; have Hb8 := Lib.hid hblk2; have Hv8 := Lib.hid hv8; have Hq8 := Lib.hid hq8; have Hw8 := Lib.hid hw8; have Hg8 := Lib.hid hg8
                  clear g30 g31 hst hmod hov2 hvl2 hod2 hblk2 honly2 hv8 hq8 hw8 hsv hsl7 hg8
                  have g30 := Hq8.out.cell (j := j) (by rw [Hql.out]; omega)
                  have g31 := Hq8.out.free j
                  go_wp2_with fail
                  rw [Exit.noGoto_normal]
                  go_wp2_with fail
                  go_roundw
                  case rel => exact ⟨j, _, _, by omega, by go_num, Hb8.out.setCell_ne hg13 _ _, Hv8.out.setCell_ne (by have := Hgg.out; omega) _ _, Hq8.out.set j (by rw [Hql.out]; omega) _, Hst.out, Hw8.out.setCell Hg8.out _⟩
                  case measure => simp [intOf]
                · obtain rfl : cr = 0 := by omega
                  obtain ⟨hq1, hq2⟩ := Hsub.out.1 rfl
                  have hst := Hkd.out.stepm (m := M + 1 + 1) Hsc.out.2.2.1 (by omega) Hsc.out.2.2.2 HVp.out Hol.out Hod.out hq2
                  rw [← hq1] at hst
                  have hg8 : w.heap.size ≤ g3 := by have := Hgg.out.1; omega
                  have Hst := Lib.hid hst; have Hg8 := Lib.hid hg8
                  clear hst hq1 hq2 Hsub hg8
                  go_wp2_with fail
                  rw [Exit.noGoto_normal]
                  go_wp2_with fail
                  go_roundw
                  case rel => exact ⟨j, _, _, by omega, by go_num, Hblk.out.setCell_ne hg13 _ _, Hv7.out.setCell_ne (by have := Hgg.out; omega) _ _, Hq7.out.set j (by rw [Hql.out]; omega) _, Hst.out, Hw7.out.setCell Hg8.out _⟩
                  case measure => simp [intOf]
            · by_cases ce : rest * 1000000000 + a0 < d * v0
              · have hn := Est.next Htop.out Hest.out (Or.inr ce)
                have Hn := Lib.hid hn; clear hn
                go_wp2_with fail
                go_quiet (fail)
                clear ei1 ei2 ei3 ei4 ei5 ei6 ei7 ei8 ei9 ew1 ew2 ew3
                by_cases cr : rest + v1 < 1000000000
                · go_wp2_with fail
                  go_roundw
                  case rel => exact ⟨d - 1, rest + v1, rfl, rfl, Hn.out.1, by omega, cr, below_drewN Hbq.out _⟩
                  case measure => have := Hn.out.2; simp [intOf]; omega
                · have hdn := Est.done Htop.out Hn.out.1 (Or.inr (by omega))
                  have Hdn := Lib.hid hdn; clear hdn
                  clear c0q k0q hp0 hp1
                  obtain ⟨E, hE⟩ : ∃ E : Int, d - 1 = E := ⟨_, rfl⟩
                  have hE0 : 0 ≤ E := by have := Hn.out.2; omega
                  rw [hE] at Hdn
                  go_wp2_with fail
                  have esl : j + (M + 1 + 1) + 1 - j = M + 1 + 1 + 1 := by omega
                  rw [esl]
                  have hu6 := (Hu.out.below Hbq.out Hu.out.lt).drew nq
                  have hv6 := (Hv.out.below Hbq.out Hv.out.lt).drew nq
                  have hq6 := (Hqs.out.below Hbq.out Hqs.out.lt).drew nq
                  have hw6 := below_drewN (Hwr.out.trans (Hbq.out.mono (by have := Hwr.out.size; omega))) nq
                  generalize World.drewN _ nq = wq at *
                  have hsv := (hv6.sl (c := M + 1 + 1 + 1) (by rw [Hvl.out]; omega)).pre (k := M + 1 + 1) (by rw [Hvl.out]; omega)
                  have Hu6 := Lib.hid hu6; have Hv6 := Lib.hid hv6; have Hq6 := Lib.hid hq6; have Hw6 := Lib.hid hw6
                  clear hu6 hv6 hq6 hw6
                  refine (sless_any g1 j us (vs.take (M + 1 + 1)) (some ⟨g2, 0, none⟩) (M + 1 + 1) _ _ E _ Hu6.out (by rw [Hul.out]; omega) (by rw [Hul.out]; omega) (by exact hsv) (fun b' off e _ => by cases e; have := Hgg.out; omega) Hkd.out.2.1 Hsc.out.2.2.2 hE0 Hdn.out.1).mono ?_
                  rintro e w6 ⟨out, cr, rfl, hc0, hc1, hol, hod, hov, hblk, honly⟩
                  have hvl := val_lt hod
                  rw [hol] at hvl
                  have hsub := sub_done HVp.out Hwin1.out Hdn.out.2 (val_nonneg hod) hvl (by omega) hov
                  have hv7 : Blk w6 g2 vs := Hv6.out.only honly (by have := Hgg.out; omega)
                  have hq7 : Blk w6 g3 qs := Hq6.out.only honly (by have := Hgg.out; omega)
                  have hw7 : Below w.heap.size w w6 := Hw6.out.trans (honly.below (Hgg.out.1))
                  have g30 := hq7.cell (j := j) (by rw [Hql.out]; omega)
                  have g31 := hq7.free j
                  have Hsub := Lib.hid hsub; have Hblk := Lib.hid hblk; have Hv7 := Lib.hid hv7; have Hq7 := Lib.hid hq7; have Hw7 := Lib.hid hw7; have Hol := Lib.hid hol; have Hod := Lib.hid hod; have Hvl2 := Lib.hid hvl
                  clear hsub hblk hv7 hq7 hw7 hol hod hov hvl honly hsv
                  have hg13 : g1 < g3 := by have := Hgg.out; omega
                  by_cases hcr : cr < 0
                  · obtain rfl : cr = -1 := by omega
                    obtain ⟨hq1, hq2⟩ := Hsub.out.2 rfl
                    have Hq1 := Lib.hid hq1; have Hq2 := Lib.hid hq2
                    clear hq1 hq2 Hsub
                    go_wp2_with fail
                    rw [esl]
                    have hsv := (Hv7.out.sl (c := M + 1 + 1 + 1) (by rw [Hvl.out]; omega)).pre (k := M + 1 + 1) (by rw [Hvl.out]; omega)
                    have hsl7 : (spl us j out).length = n + 1 := by rw [spl_len (by rw [Hol.out, Hul.out]; omega)]; exact Hul.out
                    refine (smore_any g1 j (spl us j out) (vs.take (M + 1 + 1)) (some ⟨g2, 0, none⟩) (M + 1 + 1) _ _ _ Hblk.out (by rw [hsl7]; omega) (by rw [hsl7]; omega) (by exact hsv) (fun b' off e _ => by cases e; have := Hgg.out; omega) (dig_spl Hkd.out.2.1 Hod.out) Hsc.out.2.2.2).mono ?_
                    rintro e w7 ⟨out2, cr2, rfl, hd0, hd1, hol2, hod2, hov2, hblk2, honly2⟩
                    rw [spl_win Hol.out (by rw [Hul.out]; omega)] at hov2
                    rw [spl_spl Hol.out hol2 (by rw [Hul.out]; omega)] at hblk2
                    have hvl2 := val_lt hod2
                    rw [hol2] at hvl2
                    have hmod := Hq2.out _ _ (val_nonneg hod2) hvl2 (by omega) hov2
                    have hst := Hkd.out.stepm (m := M + 1 + 1) Hsc.out.2.2.1 (by omega) Hsc.out.2.2.2 HVp.out hol2 hod2 hmod
                    rw [show val ((us.drop j).take (M + 1 + 1 + 1)) / val (vs.take (M + 1 + 1)) = E - 1 by have := Hq1.out; omega] at hst
                    have hv8 : Blk w7 g2 vs := Hv7.out.only honly2 (by have := Hgg.out; omega)
                    have hq8 : Blk w7 g3 qs := Hq7.out.only honly2 (by omega)
                    have hw8 : Below w.heap.size w w7 := Hw7.out.trans (honly2.below (Hgg.out.1))
                    have hg8 : w.heap.size ≤ g3 := by have := Hgg.out.1; omega
                    have Hst := Lib.hid hst; have Hb8 := Lib.hid hblk2; have Hv8 := Lib.hid hv8; have Hq8 := Lib.hid hq8; have Hw8 := Lib.hid hw8; have Hg8 := Lib.hid hg8
                    clear g30 g31 hst hmod hov2 hvl2 hod2 hblk2 honly2 hv8 hq8 hw8 hsv hsl7 hg8
                    have g30 := Hq8.out.cell (j := j) (by rw [Hql.out]; omega)
                    have g31 := Hq8.out.free j
                    go_wp2_with fail
                    rw [Exit.noGoto_normal]
                    go_wp2_with fail
                    go_roundw
                    case rel => exact ⟨j, _, _, by omega, by go_num, Hb8.out.setCell_ne hg13 _ _, Hv8.out.setCell_ne (by have := Hgg.out; omega) _ _, Hq8.out.set j (by rw [Hql.out]; omega) _, Hst.out, Hw8.out.setCell Hg8.out _⟩
                    case measure => simp [intOf]
                  · obtain rfl : cr = 0 := by omega
                    obtain ⟨hq1, hq2⟩ := Hsub.out.1 rfl
                    have hst := Hkd.out.stepm (m := M + 1 + 1) Hsc.out.2.2.1 (by omega) Hsc.out.2.2.2 HVp.out Hol.out Hod.out hq2
                    rw [← hq1] at hst
                    have hg8 : w.heap.size ≤ g3 := by have := Hgg.out.1; omega
                    have Hst := Lib.hid hst; have Hg8 := Lib.hid hg8
                    clear hst hq1 hq2 Hsub hg8
                    go_wp2_with fail
                    rw [Exit.noGoto_normal]
                    go_wp2_with fail
                    go_roundw
                    case rel => exact ⟨j, _, _, by omega, by go_num, Hblk.out.setCell_ne hg13 _ _, Hv7.out.setCell_ne (by have := Hgg.out; omega) _ _, Hq7.out.set j (by rw [Hql.out]; omega) _, Hst.out, Hw7.out.setCell Hg8.out _⟩
                    case measure => simp [intOf]
              · have hdn := Est.done Htop.out Hest.out (Or.inl (by omega))
                have Hdn := Lib.hid hdn; clear hdn
                have hE0 := hd1
                go_wp2_with fail
                go_quiet (fail)
                clear c0q k0q hp0 hp1 ei1 ei2 ei3 ei4 ei5 ei6 ei7 ei8 ei9 ew1 ew2 ew3
                go_wp2_with fail
                have esl : j + (M + 1 + 1) + 1 - j = M + 1 + 1 + 1 := by omega
                rw [esl]
                have hu6 := (Hu.out.below Hbq.out Hu.out.lt).drew nq
                have hv6 := (Hv.out.below Hbq.out Hv.out.lt).drew nq
                have hq6 := (Hqs.out.below Hbq.out Hqs.out.lt).drew nq
                have hw6 := below_drewN (Hwr.out.trans (Hbq.out.mono (by have := Hwr.out.size; omega))) nq
                generalize World.drewN _ nq = wq at *
                have hsv := (hv6.sl (c := M + 1 + 1 + 1) (by rw [Hvl.out]; omega)).pre (k := M + 1 + 1) (by rw [Hvl.out]; omega)
                have Hu6 := Lib.hid hu6; have Hv6 := Lib.hid hv6; have Hq6 := Lib.hid hq6; have Hw6 := Lib.hid hw6
                clear hu6 hv6 hq6 hw6
                refine (sless_any g1 j us (vs.take (M + 1 + 1)) (some ⟨g2, 0, none⟩) (M + 1 + 1) _ _ d _ Hu6.out (by rw [Hul.out]; omega) (by rw [Hul.out]; omega) (by exact hsv) (fun b' off e _ => by cases e; have := Hgg.out; omega) Hkd.out.2.1 Hsc.out.2.2.2 hE0 Hdn.out.1).mono ?_
                rintro e w6 ⟨out, cr, rfl, hc0, hc1, hol, hod, hov, hblk, honly⟩
                have hvl := val_lt hod
                rw [hol] at hvl
                have hsub := sub_done HVp.out Hwin1.out Hdn.out.2 (val_nonneg hod) hvl (by omega) hov
                have hv7 : Blk w6 g2 vs := Hv6.out.only honly (by have := Hgg.out; omega)
                have hq7 : Blk w6 g3 qs := Hq6.out.only honly (by have := Hgg.out; omega)
                have hw7 : Below w.heap.size w w6 := Hw6.out.trans (honly.below (Hgg.out.1))
                have g30 := hq7.cell (j := j) (by rw [Hql.out]; omega)
                have g31 := hq7.free j
                have Hsub := Lib.hid hsub; have Hblk := Lib.hid hblk; have Hv7 := Lib.hid hv7; have Hq7 := Lib.hid hq7; have Hw7 := Lib.hid hw7; have Hol := Lib.hid hol; have Hod := Lib.hid hod; have Hvl2 := Lib.hid hvl
                clear hsub hblk hv7 hq7 hw7 hol hod hov hvl honly hsv
                have hg13 : g1 < g3 := by have := Hgg.out; omega
                by_cases hcr : cr < 0
                · obtain rfl : cr = -1 := by omega
                  obtain ⟨hq1, hq2⟩ := Hsub.out.2 rfl
                  have Hq1 := Lib.hid hq1; have Hq2 := Lib.hid hq2
                  clear hq1 hq2 Hsub
                  go_wp2_with fail
                  rw [esl]
                  have hsv := (Hv7.out.sl (c := M + 1 + 1 + 1) (by rw [Hvl.out]; omega)).pre (k := M + 1 + 1) (by rw [Hvl.out]; omega)
                  have hsl7 : (spl us j out).length = n + 1 := by rw [spl_len (by rw [Hol.out, Hul.out]; omega)]; exact Hul.out
                  refine (smore_any g1 j (spl us j out) (vs.take (M + 1 + 1)) (some ⟨g2, 0, none⟩) (M + 1 + 1) _ _ _ Hblk.out (by rw [hsl7]; omega) (by rw [hsl7]; omega) (by exact hsv) (fun b' off e _ => by cases e; have := Hgg.out; omega) (dig_spl Hkd.out.2.1 Hod.out) Hsc.out.2.2.2).mono ?_
                  rintro e w7 ⟨out2, cr2, rfl, hd0, hd1, hol2, hod2, hov2, hblk2, honly2⟩
                  rw [spl_win Hol.out (by rw [Hul.out]; omega)] at hov2
                  rw [spl_spl Hol.out hol2 (by rw [Hul.out]; omega)] at hblk2
                  have hvl2 := val_lt hod2
                  rw [hol2] at hvl2
                  have hmod := Hq2.out _ _ (val_nonneg hod2) hvl2 (by omega) hov2
                  have hst := Hkd.out.stepm (m := M + 1 + 1) Hsc.out.2.2.1 (by omega) Hsc.out.2.2.2 HVp.out hol2 hod2 hmod
                  rw [show val ((us.drop j).take (M + 1 + 1 + 1)) / val (vs.take (M + 1 + 1)) = d - 1 by have := Hq1.out; omega] at hst
                  have hv8 : Blk w7 g2 vs := Hv7.out.only honly2 (by have := Hgg.out; omega)
                  have hq8 : Blk w7 g3 qs := Hq7.out.only honly2 (by omega)
                  have hw8 : Below w.heap.size w w7 := Hw7.out.trans (honly2.below (Hgg.out.1))
                  have hg8 : w.heap.size ≤ g3 := by have := Hgg.out.1; omega
                  have Hst := Lib.hid hst; have Hb8 := Lib.hid hblk2; have Hv8 := Lib.hid hv8; have Hq8 := Lib.hid hq8; have Hw8 := Lib.hid hw8; have Hg8 := Lib.hid hg8
                  clear g30 g31 hst hmod hov2 hvl2 hod2 hblk2 honly2 hv8 hq8 hw8 hsv hsl7 hg8
                  have g30 := Hq8.out.cell (j := j) (by rw [Hql.out]; omega)
                  have g31 := Hq8.out.free j
                  go_wp2_with fail
                  rw [Exit.noGoto_normal]
                  go_wp2_with fail
                  go_roundw
                  case rel => exact ⟨j, _, _, by omega, by go_num, Hb8.out.setCell_ne hg13 _ _, Hv8.out.setCell_ne (by have := Hgg.out; omega) _ _, Hq8.out.set j (by rw [Hql.out]; omega) _, Hst.out, Hw8.out.setCell Hg8.out _⟩
                  case measure => simp [intOf]
                · obtain rfl : cr = 0 := by omega
                  obtain ⟨hq1, hq2⟩ := Hsub.out.1 rfl
                  have hst := Hkd.out.stepm (m := M + 1 + 1) Hsc.out.2.2.1 (by omega) Hsc.out.2.2.2 HVp.out Hol.out Hod.out hq2
                  rw [← hq1] at hst
                  have hg8 : w.heap.size ≤ g3 := by have := Hgg.out.1; omega
                  have Hst := Lib.hid hst; have Hg8 := Lib.hid hg8
                  clear hst hq1 hq2 Hsub hg8
                  go_wp2_with fail
                  rw [Exit.noGoto_normal]
                  go_wp2_with fail
                  go_roundw
                  case rel => exact ⟨j, _, _, by omega, by go_num, Hblk.out.setCell_ne hg13 _ _, Hv7.out.setCell_ne (by have := Hgg.out; omega) _ _, Hq7.out.set j (by rw [Hql.out]; omega) _, Hst.out, Hw7.out.setCell Hg8.out _⟩
                  case measure => simp [intOf]

end Go.Proofs.Ytkfkdkoohnfgaaa
