/-
  DERIVED. Drafts of lenses: the walk of Lens.
-/
import Derived.Test.YthommhfppeonpaaGreatDoorKag
namespace Go.Proofs.YthommhfppeonpaaGreatDoor
open Go.RowKit

theorem prim_in {ws : List Int} {n : Nat} {p : Int} (hn : 1 ≤ n) (h5 : n ≤ 5) (hg : (List.range n).all (wavGood ws) = true) (h0 : 0 ≤ p) (h1 : p < n) : wavesB p ws n = true := by
  unfold wavesB; rw [hg]; simp [bt]; omega
theorem flds_in {far : Int} {zs : List Int} {n : Nat} (hn : 1 ≤ n) (h5 : n ≤ 5) (hg : (List.range n).all (fldGood (fldMost far) zs) = true) : fieldsB far zs n = true := by
  unfold fieldsB; rw [hg]; simp [bt]; omega

set_option maxRecDepth 100000 in
set_option maxHeartbeats 12800000 in
theorem dlens_any (x : DrL) (s f v k : Ptr) (w : World) (hx : DrLAt (fun b => b < w.heap.size) w x s f v k) :
    Calls Tryz.prog 22 #[drlV x s f v k] w (RetDL x w) := by
  obtain ⟨sa, n, sc⟩ := s
  have Hx := Lib.hid hx; clear hx
  obtain ⟨e1, e2⟩ := heap_two w (.cells (cellsDL x ⟨sa, n, sc⟩ f v k).toArray 31) (.cells #[.string emptyS, .int .i64 0, .int .i64 0, .int .i64 0, .int .i64 0, .slice none 0 0, .slice none 0 0, .slice none 0 0, .slice none 0 0] 48)
  have hb := below_two (w := w) (.cells (cellsDL x ⟨sa, n, sc⟩ f v k).toArray 31) (.cells #[.string emptyS, .int .i64 0, .int .i64 0, .int .i64 0, .int .i64 0, .slice none 0 0, .slice none 0 0, .slice none 0 0, .slice none 0 0] 48)
  have E1 := Lib.hid e1; have E2 := Lib.hid e2; have Hb := Lib.hid hb
  clear e1 e2 hb
  go_enter Tryz.func22, Tryz.ntmps22
  go_upto_region 1 with fail
  refine step_world (DLs w x ⟨sa, n, sc⟩ f v k (.slice none 0 0) []) ⟨OwnR.nil _ _ _ _ _, E1.out, E2.out, Hb.out, fun _ h => by cases h⟩ ?_
  clear E1 E2 Hb
  rintro w1 hd
  have Hd := Lib.hid hd; clear hd
  go_wp2_with fail
  go_loopw [3, 4] (fun sv iv wr => ∃ (i : Nat) (l : List SurfC), i ≤ 5 ∧ i ≤ n ∧ l = (x.surfs.take i).map surfOf ∧ l.length = i ∧ iv = .int .i64 (i : Int) ∧ DLs w x ⟨sa, n, sc⟩ f v k sv l wr) (fun _ iv _ => 5 - (intOf iv).toNat)
  case atStart => exact ⟨0, [], by omega, by omega, rfl, rfl, rfl, Hd.out⟩
  case round =>
    clear Hd
    obtain ⟨i, l, hi, hin', hlf, hl, rfl, hd⟩ := hrel
    have Hlf := Lib.hid hlf; clear hlf
    have c0 := hd.d.cells.1
    have hlt := hd.d.lt
    have hsz := hd.size
    have Hd := Lib.hid hd; have Hl := Lib.hid hl
    clear hd hl
    by_cases hin : i < n ∧ i < 5
    · obtain ⟨hin, hi5⟩ := hin
      obtain ⟨bs, so, y, cs, e1, hls, hyx, ⟨ya, yn, yc, rfl, hyf, hyi⟩, hyr⟩ := (Hx.out.kept (keptOn_below Hd.out.b) (fun b h => h)).s.at hin
      try simp only at e1
      subst e1
      have Hyf := Lib.hid hyf; have Hyi := Lib.hid hyi; have Hyr := Lib.hid hyr; have Hyx := Lib.hid hyx
      clear hyf hyi hyr hyx
      go_wp2_with (first
        | (refine wpL_load_drs Hyr.out rfl (.tmp 22) rfl rfl ?_)
        | (go_at_call 47; refine (dsurf_any y ya yn yc _ (Hyf.out.kept (KeptOn.refl _ _) (fun b h => Nat.lt_of_lt_of_le h Hd.out.b.size)) Hyi.out).mono ?_; rintro e w2 ⟨ys, ca, cn, cc, zs, hys, rfl, hir, hcc, hcn, hok, hgs, hb2⟩; have Hys := Lib.hid hys; have Hir := Lib.hid hir; have Hcc := Lib.hid hcc; have Hcn := Lib.hid hcn; have Hok := Lib.hid hok; have Hgs := Lib.hid hgs; have Hb2 := Lib.hid hb2; have Hd2 := Lib.hid (Hd.out.go hb2); have hs2 := hb2.size; clear hys hir hcc hcn hok hgs hb2)
        | (refine wpList_append_rec surfOk Tryz.underlying45 Tryz.infoSurf3 rfl (by omega) (by omega) rfl (.tmp 18) (.tmp 25) rfl (w.heap.size + 2) w2 _ l ⟨ys, zs⟩ (cells22 ys ca cn cc) rfl Hd2.out.o rfl rfl ⟨ca, cn, cc, rfl, Hir.out.kept (KeptOn.refl _ _) (fun b h => ⟨by omega, h.2, Hd.out.o.fresh h.1⟩), by have := Hcn.out; omega, Hcc.out, Hgs.out⟩ (by rw [Hl.out]; omega) (by omega) ?_; intro g3 cap3 w8 ho3 hb4; have Hd3 := Lib.hid (Hd2.out.more (y := ⟨ys, zs⟩) (by unfold okC; rw [← coat_n Hir.out]; exact Hok.out) ho3 hb4); clear ho3 hb4))
      go_roundw
      case rel => exact ⟨i + 1, _, by omega, by omega, by rw [Hlf.out, Hys.out, take_next Hyx.out, List.map_append]; rfl, by rw [List.length_append, Hl.out]; rfl, by go_num, Hd3.out⟩
      case measure => simp [intOf]; omega
    · have hx' : ¬ i < n ∨ (i < n ∧ ¬ i < 5) := by omega
      have hpre : l = preOf x := by
        rw [Hlf.out]
        unfold preOf
        have hn : x.surfs.length = n := Hx.out.s.1
        by_cases h5 : i = 5
        · rw [h5]
        · rw [List.take_of_length_le (by omega : x.surfs.length ≤ i), List.take_of_length_le (by omega : x.surfs.length ≤ 5)]
      have Hpre := Lib.hid hpre; clear hpre
      clear hin
      obtain ⟨oa, oc, rfl⟩ : ∃ oa oc, u3 = .slice oa i oc := by
        obtain ⟨a, c, e, _⟩ := OwnR.sl Hd.out.o
        rw [Hl.out] at e
        exact ⟨a, c, e⟩
      go_upto_region 3 with fail
      go_cut [15] (fun v wx => v = .bool false ∧ wr = wx)
      case first =>
        rcases hx' with hx | ⟨hx, hx4⟩
        all_goals
          go_wp2
          go_meet
          exact ⟨by first | rfl | (simp; omega), rfl⟩
      case rest =>
        obtain ⟨rfl, rfl⟩ := hcut
        clear hx' c0
        go_upto_if 29 with fail
        go_cut [3] (fun sv wx => ∃ (l : List SurfC), 1 ≤ l.length ∧ l.length ≤ 5 ∧ l = firstOf x ∧ DLs w x ⟨sa, n, sc⟩ f v k sv l wx)
        case first =>
          by_cases hi0 : i = 0
          · have hi0' : ((i : Int) == 0) = true := by simp; omega
            have hok : okC ⟨plainS 0 10000000, []⟩ = true := plain_ok (by omega) (by omega)
            have Hok := Lib.hid hok; clear hok
            have hir := IRp.nil (fun b => w.heap.size + 2 ≤ b ∧ b < wr.heap.size ∧ (Value.slice oa i oc).ownBlock ≠ some b) wr 3 none 0
            have Hir := Lib.hid hir
            have hi1 : i + 1 ≤ 5 := by omega
            have hf0 : l ++ [⟨plainS 0 10000000, []⟩] = firstOf x := by
              unfold firstOf
              rw [← Hpre.out, if_pos (by rw [Hl.out]; exact hi0)]
              rw [List.length_eq_zero_iff.1 (by rw [Hl.out]; exact hi0 : l.length = 0)]; rfl
            have Hf0 := Lib.hid hf0
            clear hir hi0 hf0
            go_wp2_with (refine wpList_append_rec surfOk Tryz.underlying45 Tryz.infoSurf3 rfl (by omega) (by omega) rfl (.tmp 30) (.tmp 32) rfl (w.heap.size + 2) wr _ l ⟨plainS 0 10000000, []⟩ (cells22 (plainS 0 10000000) none 0 0) rfl Hd.out.o rfl rfl ⟨none, 0, 0, rfl, Hir.out, by omega, fun _ => rfl, glass_size 0⟩ (by rw [Hl.out]; omega) (by omega) ?_; intro g3 cap3 w8 ho3 hb4; have Hd3 := Lib.hid (Hd.out.more (y := ⟨plainS 0 10000000, []⟩) Hok.out ho3 hb4); clear ho3 hb4)
            go_meet
            exact ⟨_, by rw [List.length_append, Hl.out]; simp, by rw [List.length_append, Hl.out]; simp; omega, Hf0.out, Hd3.out⟩
          · have hi0' : ((i : Int) == 0) = false := by simp; omega
            go_wp2
            go_meet
            exact ⟨l, by rw [Hl.out]; omega, by rw [Hl.out]; omega, (by unfold firstOf; rw [← Hpre.out, if_neg (by rw [Hl.out]; exact hi0)]), Hd.out⟩
        case rest =>
          obtain ⟨l2, h1, h5, hl2, hd⟩ := hcut
          have Hl2 := Lib.hid hl2; clear hl2
          clear Hd Hl hsz hlt
          obtain ⟨g, oc, rfl, hg1, hg2⟩ : ∃ g oc, u3 = .slice (some ⟨g, 0, none⟩) l2.length oc ∧ w.heap.size + 2 ≤ g ∧ g < wc.heap.size := by
            rcases hd.o.form with ⟨_, e2⟩ | ⟨g, cap, e, q1, q2, _⟩
            · rw [e2] at h1; cases h1
            · exact ⟨g, cap, e, q1, q2⟩
          obtain ⟨hst0, hst1⟩ := Hx.out.stop
          obtain ⟨st, est, hst⟩ : ∃ st : Nat, x.stop % (l2.length : Int) = (st : Int) ∧ st < l2.length := by
            have h0 := Int.emod_nonneg x.stop (by omega : (l2.length : Int) ≠ 0)
            have h1 := Int.emod_lt_of_pos x.stop (by omega : (0 : Int) < (l2.length : Int))
            exact ⟨(x.stop % (l2.length : Int)).toNat, by omega, by omega⟩
          have c1 := hd.d.cells.2.1
          have hlt := hd.d.lt
          obtain ⟨ycs, ⟨ya, yn, yc, rfl, hyz, hyn, hyc, hyg⟩, hyr⟩ := hd.o.at surfOk hst
          have hyok := hd.ok l2[st] (List.getElem_mem hst)
          have hyt : -1000000000 ≤ l2[st].s.thick ∧ l2[st].s.thick ≤ 1000000000 := by
            unfold okC at hyok
            rw [← coat_n hyz] at hyok
            exact ok_thick hyz.1 hyok
          have k0 := hyr 0 _ rfl
          have k12 := hyr 12 _ rfl
          rw [Nat.add_zero] at k0
          have hkd : kindAt l2 st = l2[st].s.kind := by unfold kindAt; rw [Int.toNat_natCast, List.getElem?_eq_getElem hst]
          have hth : thickAt l2 st = l2[st].s.thick := by unfold thickAt; rw [List.getElem?_eq_getElem hst]
          have hso : stopOf x = st := by unfold stopOf; rw [← Hl2.out, est]; exact Int.toNat_natCast st
          generalize l2[st].s.kind = kd at *
          generalize l2[st].s.thick = th at *
          have Hd := Lib.hid hd; have Hkd := Lib.hid hkd; have Hyt := Lib.hid hyt; have Hth := Lib.hid hth; have Hso := Lib.hid hso
          clear hth hso hd hyz hyn hyc hyg hyr hyok hkd hyt
          go_upto_if 45 with fail
          go_cut [] (fun wx => ∃ l3 : List SurfC, l3.length = l2.length ∧ kindAt l3 st ≠ 3 ∧ l3 = midOf x ∧ DLs w x ⟨sa, n, sc⟩ f v k (.slice (some ⟨g, 0, none⟩) l2.length oc) l3 wx)
          case first =>
            by_cases hk3 : kd = 3
            · have hk3' : (kd == 3) = true := by simpa using hk3
              clear hk3
              have hok : okC ⟨plainS 0 th, []⟩ = true := plain_ok (by omega) Hyt.out
              have hset := Hd.out.o.set surfOk hst (x := ⟨plainS 0 th, []⟩) (cs := cells22 (plainS 0 th) none 0 0) ⟨none, 0, 0, rfl, IRp.nil _ _ _ _ _, by omega, fun _ => rfl, glass_size 0⟩
              have hkk := keptOn_setCells g (cells22 (plainS 0 th) none 0 0) (st * 22) wc
              have hds : DLs w x ⟨sa, n, sc⟩ f v k (.slice (some ⟨g, 0, none⟩) l2.length oc) (l2.set st ⟨plainS 0 th, []⟩) (wc.setCells g (st * 22) (cells22 (plainS 0 th) none 0 0)) :=
                ⟨hset, (hkk _ (by omega)).trans Hd.out.d, (hkk _ (by omega)).trans Hd.out.z, below_setCells (by omega) _ _ Hd.out.b, fun q hq => by
                  rcases List.mem_or_eq_of_mem_set hq with hq | rfl
                  · exact Hd.out.ok q hq
                  · exact hok⟩
              have hkk2 : kindAt (l2.set st ⟨plainS 0 th, []⟩) st ≠ 3 := by
                unfold kindAt
                rw [Int.toNat_natCast, List.getElem?_set_self hst]
                show (1 : Int) ≠ 3
                omega
              have Hds := Lib.hid hds; have Hkk2 := Lib.hid hkk2
              have hmid : l2.set st ⟨plainS 0 th, []⟩ = midOf x := by
                unfold midOf
                rw [← Hl2.out, Hso.out, Hkd.out, if_pos (by simpa using hk3'), Hth.out]
              have Hmid := Lib.hid hmid; clear hmid
              clear hds hkk2 hset hkk hok
              go_wp2_with (refine wpL_store_at (plainS 0 th) none 0 0 (Hd.out.o.there hst) rfl (.tmp 54) (.tmp 53) rfl rfl rfl ?_)
              go_meet
              exact ⟨_, by simp, Hkk2.out, Hmid.out, Hds.out⟩
            · have hk3' : (kd == 3) = false := by simpa using hk3
              go_wp2
              go_meet
              exact ⟨l2, rfl, by rw [Hkd.out]; exact hk3, (by unfold midOf; rw [← Hl2.out, Hso.out, Hkd.out, if_neg hk3]), Hd.out⟩
          case rest =>
            obtain ⟨l3, hl3, hk3, hmid, hd⟩ := hcut
            have Hmid := Lib.hid hmid; clear hmid
            have Est := Lib.hid est
            clear Hd Hkd Hyt k0 k12 hg2 est hst0 hst1 c1 hlt
            have hsz := hd.size
            have hlt := hd.d.lt
            have c7 := hd.d.cells.2.2.2.2.2.2.2.1
            have hig := Hx.out.image
            unfold i16In at hig
            have Hd := Lib.hid hd; have Hl3 := Lib.hid hl3; have Hk3 := Lib.hid hk3
            clear hd hl3 hk3
            have hok : okC ⟨plainS (1000 * x.image) 0, []⟩ = true := plain_ok (by omega) (by omega)
            have Hok := Lib.hid hok; have Hig := Lib.hid hig; clear hok
            go_upto_region 13 with (first
              | (refine wpList_append_rec surfOk Tryz.underlying45 Tryz.infoSurf3 rfl (by omega) (by omega) rfl (.tmp 55) (.tmp 61) rfl (w.heap.size + 2) wc _ l3 ⟨plainS (1000 * x.image) 0, []⟩ (cells22 (plainS (1000 * x.image) 0) none 0 0) rfl Hd.out.o rfl rfl ⟨none, 0, 0, rfl, IRp.nil _ _ _ _ _, by omega, fun _ => rfl, glass_size 0⟩ (by rw [Hl3.out]; omega) (by omega) ?_; intro g3 cap3 w8 ho3 hb4; have Hd3 := Lib.hid (Hd.out.more (y := ⟨plainS (1000 * x.image) 0, []⟩) Hok.out ho3 hb4); clear ho3 hb4)
              | (refine wpL_load_drl Hd3.out.d.range rfl (.tmp 1) rfl rfl ?_)
              | (go_at_call 48; refine (dwaves_any x ⟨sa, n, sc⟩ f v k _ ((Hx.out.kept (keptOn_below Hd3.out.b) (fun b h => h)).v.kept (KeptOn.refl _ _) (fun b h => Nat.lt_of_lt_of_le h Hd3.out.b.size))).mono ?_; rintro e w9 ⟨va', vn', vc', vz, rfl, hvi, hvc, hv1, hv5, hvg, hb9⟩; have Hvi := Lib.hid hvi; have Hvc := Lib.hid hvc; have Hv1 := Lib.hid hv1; have Hv5 := Lib.hid hv5; have Hvg := Lib.hid hvg; have Hd9 := Lib.hid (Hd3.out.go hb9); have Hb9 := Lib.hid hb9; clear hvi hvc hv1 hv5 hvg hb9))
            obtain ⟨w5, rfl⟩ : ∃ w5 : World, w5 = w9 := ⟨_, rfl⟩
            have hdd := Hd9.out
            have hlt5 := hdd.d.lt
            have hz5 := lt_of_block hdd.z
            have hsz5 := hdd.size
            obtain ⟨-, -, -, c3, -, -, c6, -, -⟩ := hdd.d.cells
            have hpi := Hx.out.pupil; have hpr := Hx.out.prim
            unfold u8In at hpi hpr
            have u0 : IntKind.i64.wrap x.pupil = x.pupil := IntWalk.i64_in _ (by omega)
            have u1 : IntKind.i64.wrap (1 + x.pupil) = 1 + x.pupil := IntWalk.i64_in _ (by omega)
            have u2 : IntKind.i64.wrap (100000 * (1 + x.pupil)) = 100000 * (1 + x.pupil) := IntWalk.i64_in _ (by omega)
            have u3 : IntKind.i64.wrap x.prim = x.prim := IntWalk.i64_in _ (by omega)
            have hvn : ¬ vn' = 0 := by have := Hv1.out; omega
            have hpq : 0 ≤ x.prim.tmod vn' ∧ x.prim.tmod vn' < vn' := by
              have h1 := Hv1.out
              rw [Int.tmod_eq_emod_of_nonneg hpr.1]
              exact ⟨Int.emod_nonneg _ (by omega), Int.emod_lt_of_pos _ (by omega)⟩
            have Hpq := Lib.hid hpq
            clear hdd hpq c7
            refine wp_region_reads (w.heap.size + 1) [0, 2, 3, 4, 5, 6, 7, 8, 9, 10, 11, 12, 13, 14, 16, 17, 18, 19] 5 (by kernel_rfl) rfl (by kernel_rfl) (by kernel_rfl) (fun _ _ o _ _ h => by cases o <;> exact h) ?_
            have hdl : ∀ y : World, Below (w.heap.size + 1) w5.drew y → DrLB y w.heap.size x ⟨sa, n, sc⟩ f v k := fun y hy => (hy.block w.heap.size (Nat.lt_succ_self _)).trans Hd9.out.d
            have Hdl := Lib.hid hdl; clear hdl
            refine wpRd_load_drl rfl (by rfl) Hdl.out _ rfl rfl ?_
            try simp only [Act.put, List.setIfInBounds_toArray, List.set_cons_zero, List.set_cons_succ]
            iterate 12
              refine wpRd_yield (v := ?_) rfl (by rfl) ?_ ?_
              rotate_left
              · intro y hy
                have z3 := (hy.cell (p := ⟨w.heap.size, 3, none⟩) (Nat.lt_succ_self _)).trans c3
                have z6 := (hy.cell (p := ⟨w.heap.size, 6, none⟩) (Nat.lt_succ_self _)).trans c6
                go_simp
                with_reducible rfl
              try simp only [Act.put, List.setIfInBounds_toArray, List.set_cons_zero, List.set_cons_succ]
            refine wpRd_load_drl rfl (by rfl) Hdl.out _ rfl rfl ?_
            try simp only [Act.put, List.setIfInBounds_toArray, List.set_cons_zero, List.set_cons_succ]
            iterate 2
              refine wpRd_yield (v := ?_) rfl (by rfl) ?_ ?_
              rotate_left
              · intro y hy
                go_simp
                with_reducible rfl
              try simp only [Act.put, List.setIfInBounds_toArray, List.set_cons_zero, List.set_cons_succ]
            refine wpRd_load_drl rfl (by rfl) Hdl.out _ rfl rfl ?_
            try simp only [Act.put, List.setIfInBounds_toArray, List.set_cons_zero, List.set_cons_succ]
            iterate 1
              refine wpRd_yield (v := ?_) rfl (by rfl) ?_ ?_
              rotate_left
              · intro y hy
                go_simp
                with_reducible rfl
              try simp only [Act.put, List.setIfInBounds_toArray, List.set_cons_zero, List.set_cons_succ]
            refine wpRd_nil ?_
            clear c3 c6 u0 u1 u2 u3 Hdl
            have hdr : Below w5.heap.size w5 w5.drew := below_dr (Below.refl _ _)
            refine wpR_one (i := 1) (by kernel_rfl) rfl rfl (fun K hK => ?_)
            go_simp
            refine (far_any x ⟨sa, n, sc⟩ f v k _ Hx.out.far).mono ?_
            rintro e wa ⟨rfl, hba⟩
            refine hK _ _ (hba.mono (by show w.heap.size + 1 ≤ w5.heap.size; omega)) ?_
            clear hK K
            try simp only [Act.put, List.setIfInBounds_toArray, List.set_cons_zero, List.set_cons_succ]
            have hba5 : Below w5.heap.size w5 wa := below_undrew (k := 1) hba
            have hsa := hba5.size
            clear hba hdr
            have Hda := Lib.hid (Hd9.out.go hba5)
            have Hva := Lib.hid (Hvi.out.kept ((keptOn_below hba5).mono (fun b h => h.2)) (fun b h => (⟨by have := h.1; have := Hd3.out.size; omega, Nat.lt_of_lt_of_le h.2 hba5.size⟩ : w.heap.size + 1 < b ∧ b < wa.heap.size)))
            clear Hd9 Hvi hba5
            refine wpR_one (i := 15) (by kernel_rfl) rfl rfl (fun K hK => ?_)
            go_simp
            refine (dfields_any x ⟨sa, n, sc⟩ f v k wa ((Hx.out.kept (keptOn_below Hda.out.b) (fun b h => h)).f.kept (KeptOn.refl _ _) (fun b h => Nat.lt_of_lt_of_le h Hda.out.b.size)) Hx.out.far).mono ?_
            rintro e wb ⟨fa', fn', fc', fz, rfl, hfi, hfc, hf1, hf5, hfg, hbb⟩
            refine hK _ _ (hbb.mono (by omega)) ?_
            clear hK K
            try simp only [Act.put, List.setIfInBounds_toArray, List.set_cons_zero, List.set_cons_succ]
            have hsb := hbb.size
            have Hdb := Lib.hid (Hda.out.go hbb)
            have Hvb := Lib.hid (Hva.out.kept ((keptOn_below hbb).mono (fun b h => h.2)) (fun b h => (⟨h.1, Nat.lt_of_lt_of_le h.2 hbb.size⟩ : w.heap.size + 1 < b ∧ b < wb.heap.size)))
            have Hfb := Lib.hid hfi; have Hfc := Lib.hid hfc; have Hf1 := Lib.hid hf1; have Hf5 := Lib.hid hf5; have Hfg := Lib.hid hfg
            clear Hda Hva hbb hfi hfc hf1 hf5 hfg
            refine wpR_one (i := 20) (by kernel_rfl) rfl rfl (fun K hK => ?_)
            go_simp
            have hll : (l3 ++ [(⟨plainS (1000 * x.image) 0, []⟩ : SurfC)]).length = l3.length + 1 := by rw [List.length_append]; rfl
            refine (dconf_any x ⟨sa, n, sc⟩ f v k (l3 ++ [⟨plainS (1000 * x.image) 0, []⟩]) _ (l3.length + 1) cap3 wb ((Hx.out.kept (keptOn_below Hdb.out.b) (fun b h => h)).k.kept putsOk (KeptOn.refl _ _) (fun b h => Nat.lt_of_lt_of_le h Hdb.out.b.size)) (Hdb.out.o.rr surfOk) (by omega) (by rw [Hl3.out]; omega)).mono ?_
            rintro e wc' ⟨ka', kn', kc', cf, rfl, hkr, hkn, hbc⟩
            refine hK _ _ (hbc.mono (by omega)) ?_
            clear hK K
            try simp only [Act.put, List.setIfInBounds_toArray, List.set_cons_zero, List.set_cons_succ]
            have hsc := hbc.size
            have Hdc := Lib.hid (Hdb.out.go hbc)
            have Hvc' := Lib.hid (Hvb.out.kept ((keptOn_below hbc).mono (fun b h => h.2)) (fun b h => (⟨h.1, Nat.lt_of_lt_of_le h.2 hbc.size⟩ : w.heap.size + 1 < b ∧ b < wc'.heap.size)))
            have Hfc' := Lib.hid (Hfb.out.kept ((keptOn_below hbc).mono (fun b h => h.2)) (fun b h => (⟨by have := h.1; omega, Nat.lt_of_lt_of_le h.2 hbc.size⟩ : w.heap.size + 1 < b ∧ b < wc'.heap.size)))
            have Hkr := Lib.hid hkr; have Hkn := Lib.hid hkn
            clear Hdb Hvb Hfb hbc hkr hkn
            refine wpR_one (i := 21) (by kernel_rfl) rfl rfl (fun K hK => ?_)
            go_simp
            refine hK _ _ (Below.refl _ _) ?_
            clear hK K
            try simp only [Act.put, List.setIfInBounds_toArray, List.set_cons_zero, List.set_cons_succ]
            refine wpR_oneL (i := 22) (by kernel_rfl) rfl rfl (fun K hK => ?_)
            refine wpL_store_lens ⟨⟨#[100, 114, 97, 102, 116]⟩, farN x, 100000 * (1 + x.pupil), x.stop % (l2.length : Int), x.prim.tmod vn', fz, vz, l3 ++ [⟨plainS (1000 * x.image) 0, []⟩], cf⟩ ⟨fa', fn', fc'⟩ ⟨va', vn', vc'⟩ ⟨some ⟨g3, 0, none⟩, l3.length + 1, cap3⟩ ⟨ka', kn', kc'⟩ Hdc.out.z rfl rfl (.tmp 2) (.tmp 86) rfl rfl rfl ?_
            intro w7 h7 e7
            refine hK _ _ (by rw [e7]; exact below_setCells (Nat.le_refl _) _ _ (Below.refl _ _)) ?_
            clear hK K
            have H7 := Lib.hid h7; have E7 := Lib.hid e7; clear h7 e7
            refine wpR_end (by kernel_rfl) ?_
            try simp only [Act.put]
            go_wp2_with fail
            refine bodyPost_ret (ret_lens rfl rfl H7.out) rfl ?_
            have hk7 : KeptOn (fun b => b ≠ w.heap.size + 1) wc' w7 := by rw [E7.out]; exact keptOn_setCells _ _ _ _
            have hs7 : w7.heap.size = wc'.heap.size := by rw [E7.out, size_setCells]
            have hall := Hd3.out.ok
            refine ⟨_, _, _, _, _, rfl, ⟨?_, ?_, ?_, ?_, ?_, ?_, ?_, ?_, Hfc.out, Hvc.out, (by decide : (ByteArray.mk #[100, 114, 97, 102, 116]).size ≤ 9223372036854775807)⟩, ?_, (by show _ = listOf x; unfold listOf; rw [← Hmid.out]), rfl, rfl, ?_⟩
            · exact Hfc'.out.kept (hk7.mono (fun b h => by omega)) (fun b h => ⟨by have := h.1; omega, by rw [hs7]; exact h.2⟩)
            · exact Hvc'.out.kept (hk7.mono (fun b h => by omega)) (fun b h => ⟨by have := h.1; omega, by rw [hs7]; exact h.2⟩)
            · exact (OwnR.rr2 surfOk Hdc.out.o).kept surfOk (hk7.mono (fun b h => by omega)) (fun b h => ⟨by have := h.1; omega, by rw [hs7]; exact h.2⟩)
            · exact Hkr.out.kept confOk (hk7.mono (fun b h => by have := h.1; omega)) (fun b h => ⟨by have := h.1; omega, by rw [hs7]; exact h.2⟩)
            · show fn' ≤ 1000000; have := Hf5.out; omega
            · show vn' ≤ 1000000; have := Hv5.out; omega
            · show l3.length + 1 ≤ 1000000; have := Hl3.out; omega
            · show kn' ≤ 1000000; have := Hkn.out; omega
            · refine dl_valid nameB_draft (farN_in Hx.out.far) ⟨by show 1 ≤ 100000 * (1 + x.pupil); omega, by show 100000 * (1 + x.pupil) ≤ 1000000000; omega⟩ ?_ ?_ ?_
              · show fieldsB (farN x) fz (fz.length / 2) = true
                rw [← coat_n2 Hfc'.out]; exact flds_in Hf1.out Hf5.out Hfg.out
              · show wavesB (x.prim.tmod vn') vz (vz.length / 2) = true
                rw [← coat_n2 Hvc'.out]; exact prim_in Hv1.out Hv5.out Hvg.out Hpq.out.1 Hpq.out.2
              · exact dl_surfs (by rw [Hl3.out]; exact h1) (by rw [Hl3.out]; exact h5) (fun q hq => hall q (List.mem_append_left _ hq)) (by omega) (by show 0 ≤ x.stop % (l2.length : Int); rw [Est.out]; omega) (by show x.stop % (l2.length : Int) < _; rw [Est.out, Hl3.out]; omega) (by show kindAt l3 (x.stop % (l2.length : Int)) ≠ 3; rw [Est.out]; exact Hk3.out)
            · rw [E7.out]; exact below_setCells (Nat.le_succ _) _ _ Hdc.out.b

end Go.Proofs.YthommhfppeonpaaGreatDoor
