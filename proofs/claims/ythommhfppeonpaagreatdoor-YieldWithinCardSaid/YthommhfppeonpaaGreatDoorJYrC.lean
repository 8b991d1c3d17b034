/-
  DERIVED. The reference of yields: sample.
-/
import Derived.Test.YthommhfppeonpaaGreatDoorKaf
namespace Go.Proofs.YthommhfppeonpaaGreatDoor
open Go.RowKit

def offL (ss : List Int) (st : Int) (i : Nat) : List Int := (List.range i).map (offAt ss st)
theorem offL_next (ss : List Int) (st : Int) (i : Nat) : offL ss st i ++ [offAt ss st i] = offL ss st (i + 1) := by unfold offL; rw [List.range_succ, List.map_append]; rfl
theorem offL_get (ss : List Int) (st : Int) {i j : Nat} (h : j < i) : (offL ss st i).getD j 0 = offAt ss st j := by
  simp [offL, List.getD_eq_getElem?_getD, h]

/-- what sample gives back -/
def RetRSmp (D : Nat → Prop) (w : World) (x : LensD) (ss : List Int) (st : Int) (n : Nat) (e : Ending) (w' : World) : Prop :=
  Below w.heap.size w w' ∧
  ((∃ y f v s k, smpN x ss st n = .ok y ∧ e = .returned (.tuple #[lensV y f v s k, .int .u64 (stN st n), .int .i64 0]) ∧ LensAt (fun b => (D b ∨ w.heap.size ≤ b) ∧ b < w'.heap.size) w' y f v s k) ∨
   (∃ er, smpN x ss st n = .error er ∧ er ≠ 0 ∧ e = .returned (.tuple #[lensV lens0 ptr0 ptr0 ptr0 ptr0, .int .u64 (stN st n), .int .i64 er])))

set_option maxRecDepth 100000 in
set_option maxHeartbeats 6400000 in
theorem rysample_any (D : Nat → Prop) (x : LensD) (f v s k : Ptr) (ss : List Int) (sa : Option Addr) (n sc : Nat) (st : Int) (w : World) (hD : ∀ b, D b → b < w.heap.size) (hx0 : LensAt D w x f v s k) (hs : IR w.heap.size w 4 sa n sc ss) (hn : n ≤ 12)
    (hin : SprIn ss n) (hhas : ∀ i, i < n → lHasB x (ss.getD (i * 4) 0) (ss.getD (i * 4 + 1) 0) = true) :
    Calls Tryz.prog 29 #[lensV x f v s k, .slice sa n sc, .int .u64 st] w (RetRSmp D w x ss st n) := by
  have hx : LensAt (fun b => b < w.heap.size) w x f v s k := hx0.kept (KeptOn.refl _ _) hD
  have Hx0 := Lib.hid hx0; have HD := Lib.hid hD; clear hx0 hD
  have Hx := Lib.hid hx; have Hs := Lib.hid hs; have Hin := Lib.hid hin; have Hhas := Lib.hid hhas
  clear hx hs hin hhas
  obtain ⟨e1, e2⟩ := heap_two w (.cells (cells9 x f v s k).toArray 48) (.cells #[.string emptyS, .int .i64 0, .int .i64 0, .int .i64 0, .int .i64 0, .slice none 0 0, .slice none 0 0, .slice none 0 0, .slice none 0 0] 48)
  have hb := below_two (w := w) (.cells (cells9 x f v s k).toArray 48) (.cells #[.string emptyS, .int .i64 0, .int .i64 0, .int .i64 0, .int .i64 0, .slice none 0 0, .slice none 0 0, .slice none 0 0, .slice none 0 0] 48)
  have E1 := Lib.hid e1; have E2 := Lib.hid e2; have Hb := Lib.hid hb
  clear e1 e2 hb
  unfold lensV
  go_enter Tryz.func29, Tryz.ntmps29
  go_upto_region 1 with fail
  refine step_world (fun wx => BenchB wx w.heap.size 48 x f v s k ∧ wx.heap[w.heap.size + 1]? = some (.cells #[.string emptyS, .int .i64 0, .int .i64 0, .int .i64 0, .int .i64 0, .slice none 0 0, .slice none 0 0, .slice none 0 0, .slice none 0 0] 48 (0, 0)) ∧ Below w.heap.size w wx) ⟨E1.out, E2.out, Hb.out⟩ ?_
  clear E1 E2 Hb
  rintro w1 ⟨h1, h2, hb⟩
  have hl2 := lt_of_block h2
  have H1 := Lib.hid h1; have H2 := Lib.hid h2; have Hb := Lib.hid hb
  clear h1 h2 hb
  go_wp2_with fail
  go_loopw [2, 9, 10] (fun sv ov iv wr => ∃ i : Nat, i ≤ n ∧ iv = .int .i64 (i : Int) ∧ sv = .int .u64 (stN st i) ∧ wr.ownsRow (w.heap.size + 2) 3 1 ov i ((offL ss st i).map (Value.int .i64)) ∧ BenchB wr w.heap.size 48 x f v s k ∧ wr.heap[w.heap.size + 1]? = some (.cells #[.string emptyS, .int .i64 0, .int .i64 0, .int .i64 0, .int .i64 0, .slice none 0 0, .slice none 0 0, .slice none 0 0, .slice none 0 0] 48 (0, 0)) ∧ Below w.heap.size w wr) (fun _ _ iv _ => n - (intOf iv).toNat)
  case atStart => exact ⟨0, by omega, rfl, rfl, ⟨rfl, Or.inl ⟨rfl, rfl⟩⟩, H1.out, H2.out, Hb.out⟩
  case round =>
    clear H1 H2 Hb hl2
    obtain ⟨i, hi, rfl, rfl, ho, h1, h2, hb⟩ := hrel
    have hl2 := lt_of_block h2
    have Ho := Lib.hid ho; have H1 := Lib.hid h1; have H2 := Lib.hid h2; have Hb := Lib.hid hb
    clear ho h1 h2 hb
    by_cases hin' : i < n
    · obtain ⟨b1, off, rfl, hlt, x0, x1, x2, x3⟩ := (Hs.out.go Hb.out).at4 hin'
      have hoff : offAt ss st i = ss.getD (i * 4 + 2) 0 + pickS (nextS (stN st i)) (ss.getD (i * 4 + 3) 0 - ss.getD (i * 4 + 2) 0 + 1) := rfl
      have hb3 := Hin.out i hin'
      generalize hq2 : ss.getD (i * 4 + 2) 0 = q2 at *
      generalize hq3 : ss.getD (i * 4 + 3) 0 = q3 at *
      clear hq2 hq3 x0 x1
      have hpr := pickS_range (stN st i) (q3 - q2 + 1) (by omega)
      have hw1 : IntKind.i64.wrap (q3 - q2) = q3 - q2 := IntWalk.i64_in _ (by omega)
      have hw2 : IntKind.i64.wrap (q3 - q2 + 1) = q3 - q2 + 1 := IntWalk.i64_in _ (by omega)
      have hw3 : IntKind.i64.wrap (q2 + pickS (nextS (stN st i)) (q3 - q2 + 1)) = q2 + pickS (nextS (stN st i)) (q3 - q2 + 1) := IntWalk.i64_in _ (by omega)
      have hr1 : 1 ≤ q3 - q2 + 1 := by omega
      have hr2 : q3 - q2 + 1 ≤ 2147483648 := by omega
      have Hoff := Lib.hid hoff; have Hr1 := Lib.hid hr1; have Hr2 := Lib.hid hr2; have Hw3 := Lib.hid hw3
      clear hpr hb3 hoff hr1 hr2
      obtain ⟨oa, oc, rfl⟩ := owns_slice Ho.out
      go_upto_region 5 with fail
      refine wp_region_floats 18 [16, 17] [] [(0, true), (1, true), (2, true), (3, true), (4, true), (5, true), (6, true), (7, true), (8, true), (9, true), (10, true), (11, true), (12, true), (13, false), (14, true), (15, true), (16, true), (17, true)] (by kernel_rfl) (by kernel_rfl) ⟨by simp, by simp, fun _ h => by cases h⟩ (fun _ _ _ _ _ h => h) (fun _ _ o _ _ h => by cases o <;> exact h) ?_
      iterate 13
        refine wpG_yield (v := ?_) rfl rfl (by rfl) ?_ ?_
        rotate_left
        · intro y hy
          have z2 := (hy.cell (p := ⟨b1, off + i * 4 + 2, none⟩) hlt).trans x2
          have z3 := (hy.cell (p := ⟨b1, off + i * 4 + 3, none⟩) hlt).trans x3
          go_simp
          with_reducible rfl
        try simp only [Act.put, List.setIfInBounds_toArray, List.set_cons_zero, List.set_cons_succ]
      refine wpG_step rfl rfl (fun xa hxa K hK => ?_)
      go_simp
      refine (rdraw_any (stN st i) (q3 - q2 + 1) _ Hr1.out Hr2.out).mono ?_
      rintro e wb ⟨rfl, hbb⟩
      refine hK _ _ hbb ?_
      clear hK K
      iterate 4
        refine wpG_pure (v := ?_) rfl (by rfl) ?_ ?_
        rotate_left
        · intro y
          go_simp
          with_reducible rfl
        try simp only [Act.put, List.setIfInBounds_toArray, List.set_cons_zero, List.set_cons_succ]
      refine wpG_nil0 (l := [_, _, _]) rfl (fun w3 hbc => ?_)
      try simp only [Act.put, List.setIfInBounds_toArray, List.set_cons_zero, List.set_cons_succ]
      have h3 : Below wr.heap.size wr w3 := below_chain (below_undrew (k := 1) hxa) (below_chain hbb hbc)
      clear hxa hbb hbc
      have y2 := (h3.cell (p := ⟨b1, off + i * 4 + 2, none⟩) hlt).trans x2
      have hlt3 : b1 < w3.heap.size := Nat.lt_of_lt_of_le hlt h3.size
      have Ho3 := Lib.hid (ownsRow_below Ho.out h3)
      have G1 := Lib.hid (H1.out.go h3); have G2 := Lib.hid ((h3.block _ hl2).trans H2.out)
      have Hb3 := Lib.hid (below_chain Hb.out h3)
      have hsz : w.heap.size + 2 ≤ w3.heap.size := by have := h3.size; omega
      clear h3 x2 x3 Ho H1 H2 Hb
      go_wp2_with (refine wpList_append_ints rfl (.tmp 45) (.tmp 53) 108 rfl Tryz.underlying108 (w.heap.size + 2) _ _ (offL ss st i) rfl (Ho3.out.alloc _) _ _ 1 1 [_] rfl (SL.one w3 _ _) (by simp) (by omega) (by simp; omega) ?_; intro v' w4 hown4 hgrow; have Hown4 := Lib.hid hown4; have Hgrow := Lib.hid hgrow; clear hown4 hgrow)
      have hgrow := Hgrow.out
      have e1 := (grown_old (base := w.heap.size + 2) Ho3.out hgrow (b := w.heap.size) (by omega) hsz).trans G1.out
      have e2 := (grown_old (base := w.heap.size + 2) Ho3.out hgrow (b := w.heap.size + 1) (by omega) hsz).trans G2.out
      have e3 := grown_below Hb3.out Ho3.out hgrow (by omega) hsz
      have hown := Hown4.out
      rw [← Hoff.out, offL_next] at hown
      have Ho4 := Lib.hid hown; have E1 := Lib.hid e1; have E2 := Lib.hid e2; have E3 := Lib.hid e3
      clear hown e1 e2 e3 hgrow Hgrow Hown4
      go_roundw
      case rel => exact ⟨i + 1, by omega, by go_num, rfl, Ho4.out, E1.out, E2.out, E3.out⟩
      case measure => simp [intOf]; omega
    · obtain rfl : i = n := by omega
      obtain ⟨oa, oc, rfl, _, hir⟩ := own_irp Ho.out
      have Hir := Lib.hid hir; clear hir Ho
      have hbk := heap_alloc_new wr (.cells #[.string emptyS, .int .i64 0, .int .i64 0, .int .i64 0, .int .i64 0, .slice none 0 0, .slice none 0 0, .slice none 0 0, .slice none 0 0] 48)
      have Hbk := Lib.hid hbk; clear hbk
      go_upto_region 9 with (first
        | (refine wpL_load_lens H1.out rfl _ rfl rfl ?_)
        | (refine wpL_store_lens x f v s k Hbk.out rfl rfl (.tmp 14) (.tmp 55) rfl rfl rfl ?_; intro w2 h2' e2; have He2 := Lib.hid e2; have H2' := Lib.hid h2'; clear h2' e2 Hbk))
      have hk2 : KeptOn (fun b => b < wr.heap.size) wr w2 := by
        rw [He2.out]
        intro b hb
        exact (keptOn_setCells wr.heap.size _ 0 _ b (Nat.ne_of_lt hb)).trans (Below.heap_alloc _ _ _ hb)
      have hs2 : w2.heap.size = wr.heap.size + 1 := by rw [He2.out, size_setCells]; simp
      have hb2 : Below wr.heap.size wr w2 := by rw [He2.out]; exact below_setCells (Nat.le_refl _) _ _ (below_al (Below.refl _ _))
      refine step_world (fun wx => BenchB wx w.heap.size 48 x f v s k ∧ wx.heap[w.heap.size + 1]? = some (.cells #[.string emptyS, .int .i64 0, .int .i64 0, .int .i64 0, .int .i64 0, .slice none 0 0, .slice none 0 0, .slice none 0 0, .slice none 0 0] 48 (0, 0)) ∧ BenchB wx wr.heap.size 48 x f v s k ∧ IRp (fun b => w.heap.size + 2 ≤ b ∧ b < wr.heap.size) wx 1 oa i oc (offL ss st i) ∧ Below w.heap.size w wx ∧ LensAt (fun b => (D b ∨ w.heap.size ≤ b) ∧ b ≠ w.heap.size + 1 ∧ b ≠ wr.heap.size ∧ b < wx.heap.size) wx x f v s k)
        ⟨H1.out.go hb2, (hb2.block _ hl2).trans H2.out, H2'.out, Hir.out.kept (hk2.mono (fun b h => h.2)) (fun b h => h), below_chain Hb.out hb2, Hx0.out.kept ((keptOn_below (below_chain Hb.out hb2)).mono HD.out) (fun b h => ⟨Or.inl h, by have := HD.out b h; omega, by have := HD.out b h; have := Hb.out.size; omega, by have := HD.out b h; have := Hb.out.size; omega⟩)⟩ ?_
      clear H1 H2 H2' Hir Hb He2 hk2 hs2 hb2
      generalize hdd : wr.heap.size = d at *
      clear hdd
      rintro w3 ⟨h1, h2, h3, hir, hb, hx3⟩
      have H1 := Lib.hid h1; have H2 := Lib.hid h2; have H3 := Lib.hid h3; have Hir := Lib.hid hir; have Hb := Lib.hid hb; have Hx3 := Lib.hid hx3
      clear h1 h2 h3 hir hb hx3
      go_wp2_with fail
      go_loopw [15] (fun iv wr => ∃ (j : Nat) (y : LensD) (f' v' s' k' : Ptr), j ≤ i ∧ iv = .int .i64 (j : Int) ∧ smpN x ss st j = .ok y ∧ BenchB wr w.heap.size 48 x f v s k ∧ wr.heap[w.heap.size + 1]? = some (.cells #[.string emptyS, .int .i64 0, .int .i64 0, .int .i64 0, .int .i64 0, .slice none 0 0, .slice none 0 0, .slice none 0 0, .slice none 0 0] 48 (0, 0)) ∧ BenchB wr d 48 y f' v' s' k' ∧ IRp (fun b => w.heap.size + 2 ≤ b ∧ b < d) wr 1 oa i oc (offL ss st i) ∧ Below w.heap.size w wr ∧ LensAt (fun b => (D b ∨ w.heap.size ≤ b) ∧ b ≠ w.heap.size + 1 ∧ b ≠ d ∧ b < wr.heap.size) wr y f' v' s' k') (fun iv _ => i - (intOf iv).toNat)
      case atStart => exact ⟨0, x, f, v, s, k, by omega, rfl, rfl, H1.out, H2.out, H3.out, Hir.out, Hb.out, Hx3.out⟩
      case round =>
        clear H1 H2 H3 Hir Hb Hx3
        obtain ⟨j, y, f', v', s', k', hj, rfl, hy, h1, h2, h3, hir, hb, hx3⟩ := hrel
        have hdw : d < wr.heap.size := h3.lt
        have hl2q := lt_of_block h2
        have H1 := Lib.hid h1; have H2 := Lib.hid h2; have H3 := Lib.hid h3; have Hir := Lib.hid hir; have Hb := Lib.hid hb; have Hx3 := Lib.hid hx3; have Hy := Lib.hid hy
        clear h1 h2 h3 hir hb hx3 hy
        by_cases hji : j < i
        · obtain ⟨b1, off, rfl, hlt, x0, x1, x2, x3⟩ := (Hs.out.go Hb.out).at4 hji
          obtain ⟨b2, o2, rfl, hb2, hoc⟩ := Hir.out.2.2 (by omega)
          have x4 := hoc j (by omega)
          rw [offL_get ss st hji] at x4
          have hb2q : b2 < wr.heap.size := by omega
          have hnx : ∀ va, va = IntKind.i64.wrap (getAt x.l (ss.getD (j * 4) 0) (ss.getD (j * 4 + 1) 0) + offAt ss st j) → smpN x ss st (j + 1) = (if lsetE y (ss.getD (j * 4) 0) (ss.getD (j * 4 + 1) 0) va = 0 then .ok (lsetX y (ss.getD (j * 4) 0) (ss.getD (j * 4 + 1) 0) va) else .error (lsetE y (ss.getD (j * 4) 0) (ss.getD (j * 4 + 1) 0) va)) := fun va e => by
            subst e; rw [smpN, Hy.out]
          have hh := Hhas.out j hji
          generalize hq0 : ss.getD (j * 4) 0 = q0 at *
          generalize hq1 : ss.getD (j * 4 + 1) 0 = q1 at *
          generalize offAt ss st j = oj at *
          clear hq0 hq1 x2 x3 hoc
          have hE : lgetE x q0 q1 = 0 := by
            unfold lHasB at hh
            simp only [Bool.and_eq_true] at hh
            unfold lgetE; rw [if_pos hh.1, if_pos hh.2]
          have HE := Lib.hid hE; have Hnx := Lib.hid hnx; have X4 := Lib.hid x4
          clear hE hnx hh x4
          go_upto_region 12 with fail
          refine wp_region_floats 15 [14] [] [(0, true), (1, true), (2, true), (3, true), (4, true), (5, true), (6, true), (7, true), (8, true), (9, true), (10, true), (11, false), (12, true), (13, true), (14, true)] (by kernel_rfl) (by kernel_rfl) ⟨by simp, by simp, fun _ h => by cases h⟩ (fun _ _ _ _ _ h => h) (fun _ _ o _ _ h => by cases o <;> exact h) ?_
          refine wpG_load_lens rfl rfl (by rfl) (fun y hy => BenchB.go H1.out (below_undrew (k := 1) hy)) _ rfl rfl ?_
          try simp only [Act.put, List.setIfInBounds_toArray, List.set_cons_zero, List.set_cons_succ]
          iterate 10
            refine wpG_yield (v := ?_) rfl rfl (by rfl) ?_ ?_
            rotate_left
            · intro y hy
              have z0 := (hy.cell (p := ⟨b1, off + j * 4, none⟩) hlt).trans x0
              have z1 := (hy.cell (p := ⟨b1, off + j * 4 + 1, none⟩) hlt).trans x1
              go_simp
              with_reducible rfl
            try simp only [Act.put, List.setIfInBounds_toArray, List.set_cons_zero, List.set_cons_succ]
          refine wpG_step rfl rfl (fun xa hxa K hK => ?_)
          go_simp
          have hxa' : Below wr.heap.size wr xa := below_undrew (k := 1) hxa
          refine (rGet_any x f v s k q0 q1 _ (Hx.out.kept (keptOn_below (below_chain Hb.out hxa')) (fun b h => by have := Hb.out.size; have := hxa'.size; omega))).mono ?_
          rintro e wb ⟨he, hbb⟩
          unfold lgetV at he
          rw [HE.out, if_pos rfl] at he
          subst he
          refine hK _ _ hbb ?_
          clear hK K
          iterate 3
            refine wpG_pure (v := ?_) rfl (by rfl) ?_ ?_
            rotate_left
            · intro y
              go_simp
              with_reducible rfl
            try simp only [Act.put, List.setIfInBounds_toArray, List.set_cons_zero, List.set_cons_succ]
          refine wpG_nil0 (l := [_, _]) rfl (fun w4 hbc => ?_)
          try simp only [Act.put, List.setIfInBounds_toArray, List.set_cons_zero, List.set_cons_succ]
          have h4 : Below wr.heap.size wr w4 := below_chain hxa' (below_chain hbb hbc)
          clear hxa hxa' hbb hbc
          replace x0 := (h4.cell (p := ⟨b1, off + j * 4, none⟩) hlt).trans x0
          replace x1 := (h4.cell (p := ⟨b1, off + j * 4 + 1, none⟩) hlt).trans x1
          have x4 := (h4.cell (p := ⟨b2, o2 + j, none⟩) hb2q).trans X4.out
          replace hlt := Nat.lt_of_lt_of_le hlt h4.size
          replace hb2q := Nat.lt_of_lt_of_le hb2q h4.size
          have L1 := Lib.hid (H1.out.go h4); have L2 := Lib.hid ((h4.block _ hl2q).trans H2.out); have L3 := Lib.hid (H3.out.go h4)
          have L5 := Lib.hid (Hir.out.kept ((keptOn_below h4).mono (fun b h => by omega)) (fun b h => h))
          have Lb := Lib.hid (below_chain Hb.out h4)
          have L6 := Lib.hid (Hx3.out.kept ((keptOn_below h4).mono (fun b h => h.2.2.2)) (fun b h => (⟨h.1, h.2.1, h.2.2.1, Nat.lt_of_lt_of_le h.2.2.2 h4.size⟩ : (D b ∨ w.heap.size ≤ b) ∧ b ≠ w.heap.size + 1 ∧ b ≠ d ∧ b < w4.heap.size)))
          have hdw4 := Nat.lt_of_lt_of_le hdw h4.size
          have hl24 := Nat.lt_of_lt_of_le hl2q h4.size
          clear h4 H1 H2 H3 Hir Hb Hx3 X4 hdw hl2q
          go_upto_region 13 with fail
          refine wp_region_floats 22 [20] [(21, 18, .cells #[.string emptyS, .int .i64 0, .int .i64 0, .int .i64 0, .int .i64 0, .slice none 0 0, .slice none 0 0, .slice none 0 0, .slice none 0 0] 48)] [(0, true), (1, true), (2, true), (3, true), (4, true), (5, true), (6, true), (7, true), (8, true), (9, true), (10, true), (11, true), (12, true), (13, true), (14, true), (15, true), (16, true), (17, false), (18, true), (19, true), (20, true)] (by kernel_rfl) (by kernel_rfl) ⟨by simp, by simp, by (simp only [List.forall_mem_cons]; exact ⟨⟨by omega, _, rfl, rfl, rfl, fun _ _ => rfl⟩, fun _ h => by cases h⟩)⟩ (fun _ _ _ _ _ h => h) (fun _ _ o _ _ h => by cases o <;> exact h) ?_
          refine wpG_load_lens rfl rfl (by rfl) (fun y hy => BenchB.go L3.out (below_undrew (k := 1) hy)) _ rfl rfl ?_
          try simp only [Act.put, List.setIfInBounds_toArray, List.set_cons_zero, List.set_cons_succ]
          iterate 16
            refine wpG_yield (v := ?_) rfl rfl (by rfl) ?_ ?_
            rotate_left
            · intro y hy
              have z0 := (hy.cell (p := ⟨b1, off + j * 4, none⟩) hlt).trans x0
              have z1 := (hy.cell (p := ⟨b1, off + j * 4 + 1, none⟩) hlt).trans x1
              have z4 := (hy.cell (p := ⟨b2, o2 + j, none⟩) hb2q).trans x4
              go_simp
              with_reducible rfl
            try simp only [Act.put, List.setIfInBounds_toArray, List.set_cons_zero, List.set_cons_succ]
          refine wpG_step rfl rfl (fun x1' hx1 K hK => ?_)
          go_simp
          have hx1' : Below w4.heap.size w4 x1' := below_undrew (k := 1) hx1
          refine (rSet_any (fun b => (D b ∨ w.heap.size ≤ b) ∧ b ≠ w.heap.size + 1 ∧ b ≠ d ∧ b < w4.heap.size) y f' v' s' k' q0 q1 (IntKind.i64.wrap (getAt x.l q0 q1 + oj)) x1' (fun b h => Nat.lt_of_lt_of_le h.2.2.2 hx1'.size) (L6.out.kept ((keptOn_below hx1').mono (fun b h => h.2.2.2)) (fun b h => h))).mono ?_
          rintro e w5 (⟨h1, rfl, hb5⟩ | ⟨h1, f2, v2, s2, k2, rfl, hl5, hb5⟩)
          · refine hK _ _ hb5 ?_
            clear hK K
            iterate 3
              refine wpG_pure (v := ?_) rfl (by rfl) ?_ ?_
              rotate_left
              · intro y
                go_simp
                with_reducible rfl
              try simp only [Act.put, List.setIfInBounds_toArray, List.set_cons_zero, List.set_cons_succ]
            refine wpG_nil1 (l := [_, _]) rfl (fun bb w6 hC hb6 hbl => ?_)
            try simp only [Act.put, List.setIfInBounds_toArray, List.set_cons_zero, List.set_cons_succ]
            have h46 := below_chain hx1' (below_chain hb5 hb6)
            have hbb : bb ≠ w.heap.size + 1 := by have := hC.1; omega
            have hbb' : w.heap.size + 1 ≠ bb := fun e => hbb e.symm
            have hbw : w.heap.size ≤ bb := by have := hC.1; have := Lb.out.size; omega
            have M2 := Lib.hid ((h46.block _ hl24).trans L2.out)
            have Mb := Lib.hid (below_chain Lb.out h46)
            have Hbl := Lib.hid hbl
            have hne : (lsetE y q0 q1 (IntKind.i64.wrap (getAt x.l q0 q1 + oj)) != 0) = true := by simpa using h1
            have Her := Lib.hid h1
            have hsm := Lib.hid (smpN_err (n := i) ((Hnx.out (IntKind.i64.wrap (getAt x.l q0 q1 + oj)) rfl).trans (if_neg h1)) (by omega))
            clear h1 hb5 hb6 hx1 hx1' h46 x0 x1 x4 L1 L2 L3 L5 L6 Lb Hnx hbl hC
            generalize lsetE y q0 q1 (IntKind.i64.wrap (getAt x.l q0 q1 + oj)) = er at *
            go_wp2_with (first
              | (refine wpL_store_lens lens0 ptr0 ptr0 ptr0 ptr0 Hbl.out rfl rfl (.tmp 18) (.tmp 96) rfl rfl rfl ?_; intro w7 h7 e7; have He7 := Lib.hid e7; have N2 := Lib.hid ((keptOn_setCells bb (cells9 lens0 ptr0 ptr0 ptr0 ptr0) 0 w6 (w.heap.size + 1) hbb').trans M2.out); rw [← e7] at N2; clear h7 e7 Hbl)
              | (refine wpL_store_lens lens0 ptr0 ptr0 ptr0 ptr0 N2.out rfl rfl (.tmp 6) (.tmp 100) rfl rfl rfl ?_; intro w8 h8 e8; have H8 := Lib.hid h8; have He8 := Lib.hid e8; clear h8 e8 N2))
            refine bodyPost_ret (ret_lens_tmp2 rfl rfl rfl rfl H8.out) rfl ?_
            refine ⟨by rw [He8.out, He7.out]; exact below_setCells (Nat.le_succ _) _ _ (below_setCells hbw _ _ Mb.out), Or.inr ⟨er, hsm.out, Her.out, rfl⟩⟩
          · refine hK _ _ hb5 ?_
            clear hK K
            iterate 3
              refine wpG_pure (v := ?_) rfl (by rfl) ?_ ?_
              rotate_left
              · intro y
                go_simp
                with_reducible rfl
              try simp only [Act.put, List.setIfInBounds_toArray, List.set_cons_zero, List.set_cons_succ]
            refine wpG_nil1 (l := [_, _]) rfl (fun bb w6 hC hb6 hbl => ?_)
            try simp only [Act.put, List.setIfInBounds_toArray, List.set_cons_zero, List.set_cons_succ]
            have h46 := below_chain hx1' (below_chain hb5 hb6)
            have hbb : w4.heap.size ≤ bb := hC.1
            have hbw : w.heap.size ≤ bb := by have := hC.1; have := Lb.out.size; omega
            have hbl6 := lt_of_block hbl
            have M1 := Lib.hid (L1.out.go h46)
            have M2 := Lib.hid ((h46.block _ hl24).trans L2.out)
            have M3 := Lib.hid (L3.out.go h46)
            have M5 := Lib.hid (L5.out.kept ((keptOn_below h46).mono (fun b h => by omega)) (fun b h => h))
            have M6 := Lib.hid (hl5.kept ((keptOn_below hb6).mono (fun b h => h.2)) (fun b h => (⟨by rcases h.1 with h1 | h1; exact h1.1; exact Or.inr (by have := hx1'.size; omega), by have := hx1'.size; omega, by have := hx1'.size; omega, by have := hx1'.size; have := hC.2; omega, Nat.lt_of_lt_of_le h.2 hb6.size⟩ : (D b ∨ w.heap.size ≤ b) ∧ b ≠ w.heap.size + 1 ∧ b ≠ d ∧ b ≠ bb ∧ b < w6.heap.size)))
            have Mb := Lib.hid (below_chain Lb.out h46)
            have Hbl := Lib.hid hbl
            have hsm := Lib.hid ((Hnx.out (IntKind.i64.wrap (getAt x.l q0 q1 + oj)) rfl).trans (if_pos h1))
            have hne : (lsetE y q0 q1 (IntKind.i64.wrap (getAt x.l q0 q1 + oj)) != 0) = false := by simpa using h1
            have hdl : d < w4.heap.size := hdw4
            have hww : w.heap.size + 1 < w4.heap.size := hl24
            clear h1 hb5 hb6 hx1 hx1' x0 x1 x4 L1 L2 L3 L5 L6 Lb Hnx hbl hC hl5
            generalize hz : lsetX y q0 q1 (IntKind.i64.wrap (getAt x.l q0 q1 + oj)) = z at *
            clear hz
            have hdbb : d ≠ bb := by omega
            go_wp2_with (first
              | (refine wpL_store_lens z f2 v2 s2 k2 Hbl.out rfl rfl (.tmp 18) (.tmp 96) rfl rfl rfl ?_; intro w7 h7 e7; have He7 := Lib.hid e7; have H7 := Lib.hid h7; have N3 := Lib.hid ((keptOn_setCells bb (cells9 z f2 v2 s2 k2) 0 w6 d hdbb).trans M3.out); rw [← e7] at N3; clear h7 e7 Hbl)
              | (refine wpL_load_lens H7.out rfl _ rfl rfl ?_)
              | (refine wpL_store_lens z f2 v2 s2 k2 N3.out rfl rfl (.tmp 14) (.tmp 103) rfl rfl rfl ?_; intro w8 h8 e8; have H8 := Lib.hid h8; have He8 := Lib.hid e8; clear h8 e8 N3))
            have hk8 : KeptOn (fun b => b ≠ d ∧ b ≠ bb) w6 w8 := by rw [He8.out, He7.out]; exact ((keptOn_setCells bb _ 0 w6).mono (fun b h => h.2)).trans ((keptOn_setCells d _ 0 _).mono (fun b h => h.1))
            have hs8 : w8.heap.size = w6.heap.size := by rw [He8.out, He7.out, size_setCells, size_setCells]
            have Hk8 := Lib.hid hk8; have Hs8 := Lib.hid hs8
            have hdw0 : w.heap.size ≤ d := by omega
            clear hk8 hs8
            go_roundw
            case rel => exact ⟨j + 1, z, f2, v2, s2, k2, by omega, by go_num, hsm.out, (Hk8.out _ ⟨by omega, by omega⟩).trans M1.out, (Hk8.out _ ⟨by omega, by omega⟩).trans M2.out, H8.out, M5.out.kept (Hk8.out.mono (fun b h => ⟨by omega, by omega⟩)) (fun b h => h), by rw [He8.out, He7.out]; exact below_setCells hdw0 _ _ (below_setCells hbw _ _ Mb.out), M6.out.kept (Hk8.out.mono (fun b h => ⟨h.2.2.1, h.2.2.2.1⟩)) (fun b h => ⟨h.1, h.2.1, h.2.2.1, by rw [Hs8.out]; exact h.2.2.2.2⟩)⟩
            case measure => simp [intOf]; omega
        · obtain rfl : j = i := by omega
          go_wp2_with (first
            | (refine wpL_load_lens H3.out rfl _ rfl rfl ?_)
            | (refine wpL_store_lens y f' v' s' k' H2.out rfl rfl _ _ rfl rfl rfl ?_; intro w4 h4' e4; have He4 := Lib.hid e4; have H4' := Lib.hid h4'; clear h4' e4 H2))
          refine bodyPost_ret (ret_lens_tmp2 rfl rfl rfl rfl H4'.out) rfl ?_
          have hk4 : KeptOn (fun b => b ≠ w.heap.size + 1) wr w4 := by rw [He4.out]; exact keptOn_setCells _ _ _ _
          have hs4 : w4.heap.size = wr.heap.size := by rw [He4.out, size_setCells]
          exact ⟨by rw [He4.out]; exact below_setCells (Nat.le_succ _) _ _ Hb.out, Or.inl ⟨y, f', v', s', k', Hy.out, rfl, Hx3.out.kept (hk4.mono (fun b h => h.2.1)) (fun b h => ⟨h.1, by rw [hs4]; exact h.2.2.2⟩)⟩⟩

end Go.Proofs.YthommhfppeonpaaGreatDoor
