/-
  DERIVED. The reference of yields: Check.
-/
import Derived.Test.YthommhfppeonpaaGreatDoorKaf
import Derived.Test.YthommhfppeonpaaGreatDoorKae
namespace Go.Proofs.YthommhfppeonpaaGreatDoor
open Go.RowKit

theorem memSp_next {q0 q1 : Int} {ss : List Int} {j : Nat} (h : memSp q0 q1 (keysOf ss j) = false) : memSp q0 q1 (keysOf ss (j + 1)) = ((q0 == ss.getD (j * 4) 0) && (q1 == ss.getD (j * 4 + 1) 0)) := by
  rw [keysOf_next]
  unfold memSp at *
  rw [List.any_append, h]
  simp
theorem memSp_yes {q0 q1 : Int} {ss : List Int} {j i : Nat} (hj : j < i) (h : ((q0 == ss.getD (j * 4) 0) && (q1 == ss.getD (j * 4 + 1) 0)) = true) : memSp q0 q1 (keysOf ss i) = true := by
  unfold memSp keysOf
  rw [List.any_map, List.any_eq_true]
  exact ⟨j, List.mem_range.2 hj, h⟩

set_option maxRecDepth 100000 in
set_option maxHeartbeats 3200000 in
theorem rycheck_any (x : LensD) (f v s k : Ptr) (ss : List Int) (sa : Option Addr) (n sc : Nat) (w : World) (hx : LensAt (fun b => b < w.heap.size) w x f v s k) (hs : IR w.heap.size w 4 sa n sc ss) (hn : n ≤ 1000000) :
    Calls Tryz.prog 12 #[lensV x f v s k, .slice sa n sc] w (RetB w (.int .i64 (ycheckE x ss n))) := by
  have Hx := Lib.hid hx; have Hs := Lib.hid hs
  clear hx hs
  have hb := (Below.refl w.heap.size w).alloc (Nat.le_refl _) (.cells (cells9 x f v s k).toArray 48)
  have he : BenchB (w.alloc (.cells (cells9 x f v s k).toArray 48)) w.heap.size 48 x f v s k := heap_alloc_new w _
  have Hb := Lib.hid hb; have He := Lib.hid he
  clear hb he
  have hcl : x.cf.length = k.n := Hx.out.cf.1
  have Hcl := Lib.hid hcl; clear hcl
  unfold lensV
  go_enter Tryz.func12, Tryz.ntmps12
  go_upto_region 1 with fail
  refine step_world (fun wx => BenchB wx w.heap.size 48 x f v s k ∧ Below w.heap.size w wx) ⟨He.out, Hb.out⟩ ?_
  clear He Hb
  rintro w0 ⟨he, hb⟩
  have He := Lib.hid he; have Hb := Lib.hid hb; clear he hb
  cases hv : validB x with
  | false =>
    have hE : ycheckE x ss n = 120 := by unfold ycheckE; rw [if_neg (by rw [hv]; simp)]
    have Hv := Lib.hid hv; have HE := Lib.hid hE; clear hE hv
    go_wp2_with (first
      | (refine wpL_load_lens He.out rfl (.tmp 2) rfl rfl ?_)
      | (go_at_call 27; refine (rcheck_any x f v s k _ (Hx.out.go Hb.out)).mono ?_; rintro e w1 ⟨he, hb1⟩; rw [Hv.out] at he; unfold err at he; (try simp only [if_false, Bool.false_eq_true] at he); subst he; have Hb1 := Lib.hid (below_chain Hb.out hb1); clear hb1))
    go_ret
    exact ⟨by rw [HE.out]; rfl, Hb1.out⟩
  | true =>
    have Hv := Lib.hid hv
    go_upto_region 4 with (first
      | (refine wpL_load_lens He.out rfl (.tmp 2) rfl rfl ?_)
      | (go_at_call 27; refine (rcheck_any x f v s k _ (Hx.out.go Hb.out)).mono ?_; rintro e w1 ⟨he, hb1⟩; rw [Hv.out] at he; unfold err at he; (try simp only [if_true] at he); subst he; have Hb1 := Lib.hid (below_chain Hb.out hb1); have H1 := Lib.hid (He.out.go hb1); clear hb1))
    clear He Hb
    have hl1 := H1.out.lt
    obtain ⟨_, _, _, _, _, _, _, _, c8⟩ := H1.out.cells
    by_cases hc : 0 < k.n
    · have hE : ycheckE x ss n = 5 := by unfold ycheckE; rw [if_pos hv, if_pos (by rw [Hcl.out]; exact hc)]
      have HE := Lib.hid hE; clear hE hv
      go_wp2
      go_ret
      exact ⟨by rw [HE.out]; rfl, Hb1.out⟩
    by_cases h12 : 12 < n
    · have hE : ycheckE x ss n = 390 := by unfold ycheckE; rw [if_pos hv, if_neg (by rw [Hcl.out]; exact hc), if_pos h12]
      have HE := Lib.hid hE; clear hE hv
      go_wp2
      go_ret
      exact ⟨by rw [HE.out]; rfl, Hb1.out⟩
    have hE : ycheckE x ss n = if (List.range n).all (sprGood x ss) = true then 0 else 390 := by unfold ycheckE; rw [if_pos hv, if_neg (by rw [Hcl.out]; exact hc), if_neg h12]
    have HE := Lib.hid hE; clear hE hv
    go_wp2_with fail
    go_loopw [6] (fun iv wr => ∃ i : Nat, i ≤ n ∧ iv = .int .i64 (i : Int) ∧ (List.range i).all (sprGood x ss) = true ∧ Below w1.heap.size w1 wr) (fun iv _ => n - (intOf iv).toNat)
    case atStart => exact ⟨0, by omega, rfl, rfl, Below.refl _ _⟩
    case round =>
      clear c8
      obtain ⟨i, hi, rfl, ho, hb⟩ := hrel
      have Ho := Lib.hid ho; have Hbr := Lib.hid hb; have Hwr := Lib.hid (below_chain Hb1.out hb)
      have hlr : w.heap.size < wr.heap.size := Nat.lt_of_lt_of_le hl1 hb.size
      have Hr := Lib.hid (H1.out.go hb)
      clear ho hb
      by_cases hin : i < n
      · obtain ⟨b1, off, rfl, hlt, x0, x1, x2, x3⟩ := (Hs.out.go Hwr.out).at4 hin
        have hgood : ∀ b, sprGood x ss i = b → (b = true → (List.range (i + 1)).all (sprGood x ss) = true) ∧ (b = false → ycheckE x ss n = 390) := by
          intro b hb
          refine ⟨fun e => range_all_next Ho.out (hb.trans e), fun e => ?_⟩
          rw [HE.out, range_all_bad hin (hb.trans e)]; rfl
        have hdef : sprGood x ss i = (!memSp (ss.getD (i * 4) 0) (ss.getD (i * 4 + 1) 0) (keysOf ss i) && sprOk x (ss.getD (i * 4) 0) (ss.getD (i * 4 + 1) 0) (ss.getD (i * 4 + 2) 0) (ss.getD (i * 4 + 3) 0)) := rfl
        generalize hq0 : ss.getD (i * 4) 0 = q0 at *
        generalize hq1 : ss.getD (i * 4 + 1) 0 = q1 at *
        generalize hq2 : ss.getD (i * 4 + 2) 0 = q2 at *
        generalize hq3 : ss.getD (i * 4 + 3) 0 = q3 at *
        have Hgood := Lib.hid hgood; have Hdef := Lib.hid hdef
        clear hgood hdef hq0 hq1 hq2 hq3
        have hnb := heap_alloc_new wr (.cells #[.int .i64 q0, .int .i64 q1, .int .i64 q2, .int .i64 q3] 61)
        have Hnb := Lib.hid hnb; clear hnb
        go_upto_region 12 with fail
        refine step_world (fun wx => wx.heap[wr.heap.size]? = some (.cells #[.int .i64 q0, .int .i64 q1, .int .i64 q2, .int .i64 q3] 61 (0, 0)) ∧ Below wr.heap.size wr wx) ⟨Hnb.out, below_al (Below.refl _ _)⟩ ?_
        clear Hnb x0 x1 x2 x3
        rintro w2 ⟨g1, hb2⟩
        obtain ⟨y0, y1, y2, y3⟩ := cells_of_four g1
        have hl2 := lt_of_block g1
        have G1 := Lib.hid g1; have Hb2 := Lib.hid hb2; have Hw2 := Lib.hid (below_chain Hwr.out hb2); have Hr2 := Lib.hid (Hr.out.go hb2)
        clear g1 hb2
        cases hha : lHasB x q0 q1 with
        | false =>
          have Hha := Lib.hid hha; clear hha
          go_wp2_with (first
            | (refine wpL_load_lens Hr2.out rfl (.tmp 2) rfl rfl ?_)
            | (go_at_call 24; refine (rHas_any x f v s k q0 q1 _ (Hx.out.go Hw2.out)).mono ?_; rintro e w3 ⟨he, hb3⟩; rw [Hha.out] at he; subst he; have Hb3 := Lib.hid hb3; clear hb3))
          go_ret
          refine ⟨?_, below_chain Hw2.out Hb3.out⟩
          rw [(Hgood.out false (by rw [Hdef.out]; unfold sprOk; rw [Hha.out]; simp)).2 rfl]; rfl
        | true =>
          have Hha := Lib.hid hha; clear hha
          have hways : q2 < -1000000 ∨ (¬ q2 < -1000000 ∧ 1000000 < q3) ∨ (¬ q2 < -1000000 ∧ ¬ 1000000 < q3 ∧ q3 < q2) ∨ (¬ q2 < -1000000 ∧ ¬ 1000000 < q3 ∧ ¬ q3 < q2) := by omega
          rcases hways with h1 | ⟨h1, h2⟩ | ⟨h1, h2, h3⟩ | ⟨h1, h2, h3⟩
          iterate 3
            · go_wp2_with (first
                | (refine wpL_load_lens Hr2.out rfl (.tmp 2) rfl rfl ?_)
                | (go_at_call 24; refine (rHas_any x f v s k q0 q1 _ (Hx.out.go Hw2.out)).mono ?_; rintro e w3 ⟨he, hb3⟩; rw [Hha.out] at he; subst he; replace y2 := (hb3.cell (p := ⟨wr.heap.size, 2, none⟩) hl2).trans y2; replace y3 := (hb3.cell (p := ⟨wr.heap.size, 3, none⟩) hl2).trans y3; have Hb3 := Lib.hid hb3; clear hb3))
              go_ret
              refine ⟨?_, below_chain Hw2.out Hb3.out⟩
              rw [(Hgood.out false (by rw [Hdef.out]; unfold sprOk; rw [Hha.out]; simp; omega)).2 rfl]; rfl
          go_wp2_with (first
            | (refine wpL_load_lens Hr2.out rfl (.tmp 2) rfl rfl ?_)
            | (go_at_call 24; refine (rHas_any x f v s k q0 q1 _ (Hx.out.go Hw2.out)).mono ?_; rintro e w3 ⟨he, hb3⟩; rw [Hha.out] at he; subst he; replace y2 := (hb3.cell (p := ⟨wr.heap.size, 2, none⟩) hl2).trans y2; replace y3 := (hb3.cell (p := ⟨wr.heap.size, 3, none⟩) hl2).trans y3; have Hb3 := Lib.hid (below_chain Hb2.out hb3); have G3 := Lib.hid ((hb3.block _ hl2).trans G1.out); clear hb3))
          have hok : sprOk x q0 q1 q2 q3 = true := by unfold sprOk; rw [Hha.out]; simp; omega
          have Hok := Lib.hid hok
          clear y0 y1 y2 y3 hok h1 h2 h3
          go_loopw [8] (fun iv wq => ∃ j : Nat, j ≤ i ∧ iv = .int .i64 (j : Int) ∧ memSp q0 q1 (keysOf ss j) = false ∧ wq.heap[wr.heap.size]? = some (.cells #[.int .i64 q0, .int .i64 q1, .int .i64 q2, .int .i64 q3] 61 (0, 0)) ∧ Below wr.heap.size wr wq) (fun iv _ => i - (intOf iv).toNat)
          case atStart => exact ⟨0, by omega, rfl, rfl, G3.out, Hb3.out⟩
          case round =>
            obtain ⟨j, hj, rfl, hm, g4, hb4⟩ := hrel
            obtain ⟨y0, y1, _, _⟩ := cells_of_four g4
            have hl4 := lt_of_block g4
            have Hm := Lib.hid hm; have G4 := Lib.hid g4; have Hb4 := Lib.hid hb4
            have Hw4 := Lib.hid (below_chain Hwr.out hb4)
            clear hm g4 hb4
            by_cases hji : j < i
            · obtain ⟨b2, o2, e2, hlt2, z0, z1, _, _⟩ := (Hs.out.go Hw4.out).at4 (k := j) (by omega)
              cases e2
              have hmn := memSp_next Hm.out
              have hmy := fun h => memSp_yes (q0 := q0) (q1 := q1) (ss := ss) hji h
              generalize ss.getD (j * 4) 0 = r0 at *
              generalize ss.getD (j * 4 + 1) 0 = r1 at *
              have Hmn := Lib.hid hmn; have Hmy := Lib.hid hmy; clear hmn hmy
              have hways : (r0 = q0 ∧ r1 = q1) ∨ (((r0 == q0) = false) ∨ (r0 = q0 ∧ (r1 == q1) = false)) ∧ ((q0 == r0) && (q1 == r1)) = false := by
                simp only [beq_eq_false_iff_ne, Bool.and_eq_false_iff]; omega
              rcases hways with ⟨rfl, rfl⟩ | ⟨hw, hno⟩
              · go_wp2_with fail
                go_quiet (fail)
                go_wp2_with fail
                go_ret
                refine ⟨?_, below_chain Hwr.out (below_drewN Hb4.out _)⟩
                rw [(Hgood.out false (by rw [Hdef.out, Hmy.out (by simp)]; rfl)).2 rfl]; rfl
              · have Hno := Lib.hid hno; clear hno
                rcases hw with hw | ⟨rfl, hw⟩
                all_goals
                  go_wp2_with fail
                  go_quiet (fail)
                  go_wp2_with fail
                  go_roundw
                  case rel => exact ⟨j + 1, by omega, by go_num, Hmn.out.trans Hno.out, G4.out, below_drewN Hb4.out _⟩
                  case measure => simp [intOf]; omega
            · obtain rfl : j = i := by omega
              go_wp2
              go_roundw
              case rel => exact ⟨j + 1, by omega, by go_num, (Hgood.out true (by rw [Hdef.out, Hm.out, Hok.out]; rfl)).1 rfl, below_chain Hbr.out Hb4.out⟩
              case measure => simp [intOf]; omega
      · obtain rfl : i = n := by omega
        go_wp2
        go_ret
        exact ⟨by rw [HE.out, if_pos Ho.out]; rfl, Hwr.out⟩

end Go.Proofs.YthommhfppeonpaaGreatDoor
