/-
  DERIVED. sequence.Text. (printed by wip/mkSqTe.py)
-/
import Derived.Test.YtgohdcccfkjooaaGreatDoorGaj
namespace Go.Proofs.YtgohdcccfkjooaaGreatDoor
open Go.RowKit

def objT (x : LensD) : List UInt8 := if x.dist = 0 then wInfinity else numT x.dist 6
/-- the parts of a lens's text -/
def textP (x : LensD) : Nat → List UInt8
  | 0 => lineS [wLens, listB x.nm]
  | 1 => lineS [wObject, objT x]
  | 2 => lineS [wPupil, numT x.pupil 6]
  | 3 => lineS [wStop, numT x.stop 0]
  | 4 => lineS [wPrimary, numT x.prim 0]
  | 5 => ((List.range (x.fs.length / 2)).map (fieldT x.fs)).flatten
  | 6 => ((List.range (x.ws.length / 2)).map (waveT x.ws)).flatten
  | 7 => (x.l.map surfT).flatten
  | 8 => (x.cf.map confT).flatten
  | _ => lineS [wEnd]
theorem lensT_parts (x : LensD) : lensT x = textP x 0 ++ textP x 1 ++ textP x 2 ++ textP x 3 ++ textP x 4 ++ textP x 5 ++ textP x 6 ++ textP x 7 ++ textP x 8 ++ textP x 9 := rfl
structure TSt (B : Nat) (x : LensD) (f v s k : Ptr) (l : List UInt8) (w W : World) : Prop where
  l9 : BenchB W w.heap.size 37 x f v s k
  b : Lib.IsBuilder 108 5 B B (Lib.byteCells l) W
  be : Below w.heap.size w W
  lo : w.heap.size < B
  hi : B < W.heap.size
theorem TSt.next {B : Nat} {x : LensD} {f v s k : Ptr} {l l' : List UInt8} {w W W1 W2 : World} (h : TSt B x f v s k l w W) (hal : Below W.heap.size W W1) (h2 : RetW B B l' W1 (.returned (.tuple #[])) W2) : TSt B x f v s k l' w W2 := by
  obtain ⟨_, h3, h4, _⟩ := h2
  have hs := hal.size; have hs2 := h4.size; have hlo := h.lo; have hhi := h.hi
  exact ⟨(h4.block _ hlo).trans ((hal.block _ h.l9.lt).trans h.l9), h3, (h.be.trans (hal.mono (by omega))).trans (h4.mono (by omega)), hlo, by omega⟩
theorem TSt.go {B : Nat} {x : LensD} {f v s k : Ptr} {l : List UInt8} {w W W1 : World} (h : TSt B x f v s k l w W) (hal : Below W.heap.size W W1) : TSt B x f v s k l w W1 := by
  have hs := hal.size; have hhi := h.hi; have hlo := h.lo
  exact ⟨(hal.block _ h.l9.lt).trans h.l9, isBuilderW_below h.b hal, h.be.trans (hal.mono (by omega)), hlo, by omega⟩
theorem flat_lenL {α : Type} (f : α → List UInt8) (l : List α) {k : Nat} {y : α} (h : l[k]? = some y) : (((l.take k).map f).flatten).length + (f y).length ≤ ((l.map f).flatten).length := by
  have hs : l = l.take k ++ y :: l.drop (k + 1) := by
    have := drop_at h
    rw [← this, List.take_append_drop]
  have e : ((l.map f).flatten).length = (((l.take k).map f).flatten).length + ((f y).length + (((l.drop (k + 1)).map f).flatten).length) := by
    conv => lhs; rw [hs]
    simp
  omega
theorem flat_take {α : Type} (f : α → List UInt8) (l : List α) {k : Nat} {y : α} (h : l[k]? = some y) : ((l.take (k + 1)).map f).flatten = ((l.take k).map f).flatten ++ f y := by
  rw [take_next h, List.map_append, List.flatten_append]; simp
def textV (x : LensD) : Value := .tuple #[.string (bs (if validB x = true then lensT x else [])), .int .i64 (if validB x = true then 0 else 120)]
set_option maxRecDepth 100000 in
set_option maxHeartbeats 6400000 in
theorem stext_any (x : LensD) (f v s k : Ptr) (w : World) (hx : LensAt (fun b => b < w.heap.size) w x f v s k) (hg : GW w) (hP : Places w.heap.size w) (hT : TW w.heap.size w) (hlen : validB x = true → (lensT x).length ≤ 1000000) :
    Calls Tryz.prog 11 #[lensV x f v s k] w (RetB w (textV x)) := by
  obtain ⟨fa, fn, fc⟩ := f
  obtain ⟨va, vn, vc⟩ := v
  obtain ⟨sa, sn, sc⟩ := s
  obtain ⟨ka, kn, kc⟩ := k
  have hal := (Below.refl w.heap.size w).alloc (Nat.le_refl _) (.cells (cells9 x ⟨fa, fn, fc⟩ ⟨va, vn, vc⟩ ⟨sa, sn, sc⟩ ⟨ka, kn, kc⟩).toArray 37)
  have hnew : BenchB (w.alloc (.cells (cells9 x ⟨fa, fn, fc⟩ ⟨va, vn, vc⟩ ⟨sa, sn, sc⟩ ⟨ka, kn, kc⟩).toArray 37)) w.heap.size 37 x ⟨fa, fn, fc⟩ ⟨va, vn, vc⟩ ⟨sa, sn, sc⟩ ⟨ka, kn, kc⟩ := heap_alloc_new w _
  have Hx := Lib.hid hx; have Hg := Lib.hid hg; have HP := Lib.hid hP; have HT := Lib.hid hT; have Hlen := Lib.hid hlen; have Hal := Lib.hid hal; have Hnew := Lib.hid hnew
  clear hx hg hP hT hlen hal hnew
  unfold lensV
  go_enter Tryz.func11, Tryz.ntmps11
  go_upto_region 1 with fail
  refine step_world (fun wx => BenchB wx w.heap.size 37 x ⟨fa, fn, fc⟩ ⟨va, vn, vc⟩ ⟨sa, sn, sc⟩ ⟨ka, kn, kc⟩ ∧ Below w.heap.size w wx) ⟨Hnew.out, Hal.out⟩ ?_
  clear Hnew Hal
  rintro w1 ⟨h9, hb1⟩
  have H9 := Lib.hid h9; have Hb1 := Lib.hid hb1; have hl1 := h9.lt
  clear h9 hb1
  have hck := lcheck_any x ⟨fa, fn, fc⟩ ⟨va, vn, vc⟩ ⟨sa, sn, sc⟩ ⟨ka, kn, kc⟩ w1 (Hx.out.go Hb1.out) ((HP.out.below Hb1.out).mono Hb1.out.size)
  unfold lensV at hck
  have Hck := Lib.hid hck; clear hck
  cases hv : validB x with
  | false =>
    have hr : textV x = .tuple #[.string { data := #[] }, .int .i64 120] := by unfold textV; rw [hv]; rfl
    have he : err (validB x) 120 = .int .i64 120 := by rw [hv]; rfl
    have Hr := Lib.hid hr; have He := Lib.hid he
    clear hr he hv
    go_wp2_with (first
      | (refine wpL_load_lens H9.out rfl (.tmp 1) rfl rfl ?_)
      | (refine Hck.out.mono ?_; rintro e w2 ⟨rfl, hb2⟩; rw [He.out]; have Hb2 := Lib.hid hb2; clear hb2))
    go_ret2
    exact ⟨by rw [Hr.out]; rfl, below_chain Hb1.out Hb2.out⟩
  | true =>
    have hr : textV x = .tuple #[.string (bs (lensT x)), .int .i64 0] := by unfold textV; rw [hv]; rfl
    have he : err (validB x) 120 = .int .i64 0 := by rw [hv]; rfl
    have hrng := valid_rng hv
    have hl := Hlen.out hv
    have hsum : (textP x 0).length + (textP x 1).length + (textP x 2).length + (textP x 3).length + (textP x 4).length + (textP x 5).length + (textP x 6).length + (textP x 7).length + (textP x 8).length + (textP x 9).length ≤ 1000000 := by
      rw [lensT_parts] at hl
      simp only [List.length_append] at hl
      omega
    have Hr := Lib.hid hr; have He := Lib.hid he; have Hrng := Lib.hid hrng; have Hsum := Lib.hid hsum
    clear hr he hrng hl hsum hv Hlen
    go_upto_region 4 with (first
      | (refine wpL_load_lens H9.out rfl (.tmp 1) rfl rfl ?_)
      | (refine Hck.out.mono ?_; rintro e w2 ⟨rfl, hb2⟩; rw [He.out]; have Hb2 := Lib.hid hb2; clear hb2))
    have hw : TSt w2.heap.size x ⟨fa, fn, fc⟩ ⟨va, vn, vc⟩ ⟨sa, sn, sc⟩ ⟨ka, kn, kc⟩ [] w (w2.alloc (.cells #[.pointer none, .slice none 0 0] 108)) := by
      have hb12 := below_chain Hb1.out Hb2.out
      have hs := Hb2.out.size
      refine ⟨((Below.refl w2.heap.size w2).alloc (Nat.le_refl _) _ |>.block _ (by omega)).trans ((Hb2.out.block _ hl1).trans H9.out), Or.inl ⟨Nat.le_refl _, .slice none 0 0, heap_alloc_new w2 _, World.ownsRow_nil _ _ _ _, by intro e; cases e⟩, below_al hb12, by omega, by simp⟩
    have Hw := Lib.hid hw; clear hw
    go_upto_region 5 with fail
    refine step_world (fun wx => TSt w2.heap.size x ⟨fa, fn, fc⟩ ⟨va, vn, vc⟩ ⟨sa, sn, sc⟩ ⟨ka, kn, kc⟩ [] w wx) Hw.out ?_
    clear Hw H9 Hb2 Hb1 Hck HP He
    rintro w3 hst
    have Hst := Lib.hid hst; clear hst
    -- the name
    obtain ⟨nmL, hnm⟩ : ∃ nmL, listB x.nm = nmL := ⟨_, rfl⟩
    have hnm2 : x.nm = bs nmL := by rw [← hnm, bs_listB]
    have cc0 : w3.cell? ⟨w.heap.size, 0, none⟩ = some (.string (bs nmL)) := by rw [← hnm2]; exact obj_cell Hst.out.l9 0
    have hp0 : textP x 0 = lineS [wLens, nmL] := by show lineS [wLens, listB x.nm] = _; rw [hnm]
    have HP0 := Lib.hid hp0
    clear hp0 hnm hnm2
    go_wp2_with fail
    have hal : Below w3.heap.size w3 (w3.alloc (.cells (strCs [wLens, nmL]).toArray 9)) := (Below.refl _ _).alloc (Nat.le_refl _) _
    clear cc0
    refine (lineR_any [wLens, nmL] w3.heap.size 2 w2.heap.size w2.heap.size ([]) _ (heap_alloc_new w3 _) (by simp) (by simp) (by have := Hsum.out; have := congrArg List.length HP0.out; (try simp only [List.length_nil]); omega) (isBuilderW_below Hst.out.b hal) (by have := Hst.out.hi; have := (hal).size; omega)).mono ?_
    rintro ee w4 h2
    obtain rfl := retW_ends h2
    have hst2 := Hst.out.next hal h2
    rw [← HP0.out] at hst2
    have Hst1 := Lib.hid (show TSt w2.heap.size x ⟨fa, fn, fc⟩ ⟨va, vn, vc⟩ ⟨sa, sn, sc⟩ ⟨ka, kn, kc⟩ (textP x 0) w w4 from hst2)
    clear h2 hst2 Hst HP0
    clear hal
    -- the object
    have cc1 : w4.cell? ⟨w.heap.size, 1, none⟩ = some (.int .i64 x.dist) := obj_cell Hst1.out.l9 1
    have hrg := Hrng.out.dist
    go_upto_if 32 with fail
    go_cut [6] (fun v6 wx => v6 = .string (bs (objT x)) ∧ TSt w2.heap.size x ⟨fa, fn, fc⟩ ⟨va, vn, vc⟩ ⟨sa, sn, sc⟩ ⟨ka, kn, kc⟩ (textP x 0) w wx)
    case first =>
      by_cases hd0 : x.dist = 0
      · have ho : objT x = wInfinity := by unfold objT; rw [if_pos hd0]
        have hdb : ¬ (0 : Int) < x.dist := by omega
        have Ho := Lib.hid ho
        clear ho hd0
        go_wp2_with fail
        go_meet
        exact ⟨by rw [Ho.out]; rfl, Hst1.out⟩
      · have ho : objT x = numT x.dist 6 := by unfold objT; rw [if_neg hd0]
        have hdb : (0 : Int) < x.dist := by omega
        have Ho := Lib.hid ho
        clear ho hd0
        go_wp2_with (refine (numberS_any x.dist 6 w4 (by omega) (by omega) (by omega) (Hg.out.of Hst1.out.be HT.out.glo)).mono ?_; rintro ee wa ⟨rfl, hba⟩; have Hba := Lib.hid hba; clear hba)
        go_meet
        exact ⟨by rw [Ho.out], Hst1.out.go Hba.out⟩
    case rest =>
      obtain ⟨rfl, hst⟩ := hcut
      have Hst1' := Lib.hid hst
      clear hst cc1 hrg Hst1
      have hp1 : textP x 1 = lineS [wObject, objT x] := rfl
      have HP1 := Lib.hid hp1; clear hp1
      go_wp2_with fail
      have hal : Below wc.heap.size wc (wc.alloc (.cells (strCs [wObject, objT x]).toArray 9)) := (Below.refl _ _).alloc (Nat.le_refl _) _
      refine (lineR_any [wObject, objT x] wc.heap.size 2 w2.heap.size w2.heap.size (textP x 0) _ (heap_alloc_new wc _) (by simp) (by simp) (by have := Hsum.out; have := congrArg List.length HP1.out; (try simp only [List.length_append, List.length_nil]); omega) (isBuilderW_below Hst1'.out.b hal) (by have := Hst1'.out.hi; have := (hal).size; omega)).mono ?_
      rintro ee w5 h2
      obtain rfl := retW_ends h2
      have hst2 := Hst1'.out.next hal h2
      rw [← HP1.out] at hst2
      have Hst2 := Lib.hid (show TSt w2.heap.size x ⟨fa, fn, fc⟩ ⟨va, vn, vc⟩ ⟨sa, sn, sc⟩ ⟨ka, kn, kc⟩ (textP x 0 ++ textP x 1) w w5 from hst2)
      clear h2 hst2 Hst1' HP1
      clear hal
      have cc2 : w5.cell? ⟨w.heap.size, 2, none⟩ = some (.int .i64 x.pupil) := obj_cell Hst2.out.l9 2
      have hp2 : textP x 2 = lineS [wPupil, numT x.pupil 6] := rfl
      have HP2 := Lib.hid hp2; clear hp2
      have hrg := Hrng.out.pupil
      go_wp2_with (refine (numberS_any x.pupil 6 w5 (by omega) (by omega) (by omega) (Hg.out.of Hst2.out.be HT.out.glo)).mono ?_; rintro ee wa ⟨rfl, hba⟩; have Hba := Lib.hid hba; clear hba)
      have hal : Below w5.heap.size w5 (wa.alloc (.cells (strCs [wPupil, numT x.pupil 6]).toArray 9)) := Hba.out.alloc Hba.out.size _
      clear cc2 hrg
      refine (lineR_any [wPupil, numT x.pupil 6] wa.heap.size 2 w2.heap.size w2.heap.size (textP x 0 ++ textP x 1) _ (heap_alloc_new wa _) (by simp) (by simp) (by have := Hsum.out; have := congrArg List.length HP2.out; (try simp only [List.length_append]); omega) (isBuilderW_below Hst2.out.b hal) (by have := Hst2.out.hi; have := (hal).size; omega)).mono ?_
      rintro ee w6 h2
      obtain rfl := retW_ends h2
      have hst2 := Hst2.out.next hal h2
      rw [← HP2.out] at hst2
      have Hst3 := Lib.hid (show TSt w2.heap.size x ⟨fa, fn, fc⟩ ⟨va, vn, vc⟩ ⟨sa, sn, sc⟩ ⟨ka, kn, kc⟩ (textP x 0 ++ textP x 1 ++ textP x 2) w w6 from hst2)
      clear h2 hst2 Hst2 HP2
      clear hal Hba
      have cc3 : w6.cell? ⟨w.heap.size, 3, none⟩ = some (.int .i64 x.stop) := obj_cell Hst3.out.l9 3
      have hp3 : textP x 3 = lineS [wStop, numT x.stop 0] := rfl
      have HP3 := Lib.hid hp3; clear hp3
      have hrg := Hrng.out.stop
      go_wp2_with (refine (numberS_any x.stop 0 w6 (by omega) (by omega) (by omega) (Hg.out.of Hst3.out.be HT.out.glo)).mono ?_; rintro ee wa ⟨rfl, hba⟩; have Hba := Lib.hid hba; clear hba)
      have hal : Below w6.heap.size w6 (wa.alloc (.cells (strCs [wStop, numT x.stop 0]).toArray 9)) := Hba.out.alloc Hba.out.size _
      clear cc3 hrg
      refine (lineR_any [wStop, numT x.stop 0] wa.heap.size 2 w2.heap.size w2.heap.size (textP x 0 ++ textP x 1 ++ textP x 2) _ (heap_alloc_new wa _) (by simp) (by simp) (by have := Hsum.out; have := congrArg List.length HP3.out; (try simp only [List.length_append]); omega) (isBuilderW_below Hst3.out.b hal) (by have := Hst3.out.hi; have := (hal).size; omega)).mono ?_
      rintro ee w7 h2
      obtain rfl := retW_ends h2
      have hst2 := Hst3.out.next hal h2
      rw [← HP3.out] at hst2
      have Hst4 := Lib.hid (show TSt w2.heap.size x ⟨fa, fn, fc⟩ ⟨va, vn, vc⟩ ⟨sa, sn, sc⟩ ⟨ka, kn, kc⟩ (textP x 0 ++ textP x 1 ++ textP x 2 ++ textP x 3) w w7 from hst2)
      clear h2 hst2 Hst3 HP3
      clear hal Hba
      have cc4 : w7.cell? ⟨w.heap.size, 4, none⟩ = some (.int .i64 x.prim) := obj_cell Hst4.out.l9 4
      have hp4 : textP x 4 = lineS [wPrimary, numT x.prim 0] := rfl
      have HP4 := Lib.hid hp4; clear hp4
      have hrg := Hrng.out.prim
      go_wp2_with (refine (numberS_any x.prim 0 w7 (by omega) (by omega) (by omega) (Hg.out.of Hst4.out.be HT.out.glo)).mono ?_; rintro ee wa ⟨rfl, hba⟩; have Hba := Lib.hid hba; clear hba)
      have hal : Below w7.heap.size w7 (wa.alloc (.cells (strCs [wPrimary, numT x.prim 0]).toArray 9)) := Hba.out.alloc Hba.out.size _
      clear cc4 hrg
      refine (lineR_any [wPrimary, numT x.prim 0] wa.heap.size 2 w2.heap.size w2.heap.size (textP x 0 ++ textP x 1 ++ textP x 2 ++ textP x 3) _ (heap_alloc_new wa _) (by simp) (by simp) (by have := Hsum.out; have := congrArg List.length HP4.out; (try simp only [List.length_append]); omega) (isBuilderW_below Hst4.out.b hal) (by have := Hst4.out.hi; have := (hal).size; omega)).mono ?_
      rintro ee w8 h2
      obtain rfl := retW_ends h2
      have hst2 := Hst4.out.next hal h2
      rw [← HP4.out] at hst2
      have Hst5 := Lib.hid (show TSt w2.heap.size x ⟨fa, fn, fc⟩ ⟨va, vn, vc⟩ ⟨sa, sn, sc⟩ ⟨ka, kn, kc⟩ (textP x 0 ++ textP x 1 ++ textP x 2 ++ textP x 3 ++ textP x 4) w w8 from hst2)
      clear h2 hst2 Hst4 HP4
      clear hal Hba
      -- wField
      have cl : w8.cell? ⟨w.heap.size, 5, none⟩ = some (.slice fa fn fc) := obj_cell Hst5.out.l9 5
      have hnl0 : x.fs.length = fn * 2 := Hx.out.fs.1
      have hnl : x.fs.length / 2 = fn := by omega
      have hnc : fn ≤ fc := Hx.out.fs.2.1
      clear hnl0
      have hn6 : fn ≤ 1000000 := Hx.out.fn
      have Hnl := Lib.hid hnl; clear hnl
      go_wp2_with fail
      go_loopw [8, 61] (fun v8 iv wr => ∃ j : Nat, j ≤ fn ∧ iv = .int .i64 (j : Int) ∧ TSt w2.heap.size x ⟨fa, fn, fc⟩ ⟨va, vn, vc⟩ ⟨sa, sn, sc⟩ ⟨ka, kn, kc⟩ (textP x 0 ++ textP x 1 ++ textP x 2 ++ textP x 3 ++ textP x 4 ++ ((List.range j).map (fieldT x.fs)).flatten) w wr) (fun _ iv _ => fn - (intOf iv).toNat)
      case atStart => exact ⟨0, Nat.zero_le _, rfl, by simpa using Hst5.out⟩
      case round =>
        obtain ⟨j, hj, rfl, hsk⟩ := hrel
        have Hsk := Lib.hid hsk; clear hsk cl
        by_cases hjn : j < fn
        · obtain ⟨b, off, rfl, hbl, z0, z1⟩ := ((Hx.out.fs.ir (N := w.heap.size) (fun _ h => h)).below Hsk.out.be (Nat.le_refl _)).at2 hjn
          have hrg := Hrng.out.fs j (by have := Hnl.out; omega)
          have hft : fieldT x.fs j = lineS [wField, numT (x.fs.getD (j * 2) 0) 6, numT (x.fs.getD (j * 2 + 1) 0) 6] := rfl
          have hfl := flat_len (fieldT x.fs) (k := j) (n := fn) hjn
          have Hft := Lib.hid hft; have Hfl := Lib.hid hfl; clear hft hfl
          generalize x.fs.getD (j * 2) 0 = q0 at *
          generalize x.fs.getD (j * 2 + 1) 0 = q1 at *
          go_wp2_with fail
          have hnb := heap_alloc_new wr (.cells #[.int .i64 q0, .int .i64 q1] 112)
          have hal : Below wr.heap.size wr (wr.alloc (.cells #[.int .i64 q0, .int .i64 q1] 112)) := (Below.refl _ _).alloc (Nat.le_refl _) _
          have e0 := obj_cell hnb 0
          have e1 := obj_cell hnb 1
          have hlp := lt_of_block hnb
          have Hal := Lib.hid hal
          clear hnb hal z0 z1
          go_upto_region 16 with fail
          have hgr : GW wr := Hg.out.of Hsk.out.be HT.out.glo
          have Hgr := Lib.hid hgr; clear hgr
          refine wp_region_eager 8 [(0, true), (1, true), (2, true), (4, true), (5, true), (3, false), (6, false), (7, false)] (by kernel_rfl) (by kernel_rfl) ?_
          iterate 5
            refine wpOrd_yield (v := ?_) rfl (fun _ _ _ h => h) (by rfl) ?_ ?_
            rotate_left
            · intro y hy
              have k1 := (hy.cell (p := ⟨wr.heap.size, 0, none⟩) hlp).trans e0
              have k2 := (hy.cell (p := ⟨wr.heap.size, 1, none⟩) hlp).trans e1
              go_simp
              with_reducible rfl
            try simp only [Act.put, List.setIfInBounds_toArray, List.set_cons_zero, List.set_cons_succ]
          clear e0 e1
          refine wpOrd_step rfl rfl (fun KK hKK => ?_)
          go_simp
          refine (numberS_any q0 6 _ (by omega) (by omega) (by omega) (Hgr.out.below Hal.out.drew)).mono ?_
          rintro ee wa ⟨rfl, hba⟩
          refine hKK _ _ hba ?_
          clear hKK KK
          have hbA := Hal.out.drew.trans (hba.mono Hal.out.drew.size)
          try simp only [Act.put, List.setIfInBounds_toArray, List.set_cons_zero, List.set_cons_succ]
          refine wpOrd_step rfl rfl (fun KK hKK => ?_)
          go_simp
          refine (numberS_any q1 6 wa (by omega) (by omega) (by omega) (Hgr.out.below hbA)).mono ?_
          rintro ee wb ⟨rfl, hbb⟩
          refine hKK _ _ hbb ?_
          clear hKK KK
          have hbB2 := below_chain hbA hbb
          try simp only [Act.put, List.setIfInBounds_toArray, List.set_cons_zero, List.set_cons_succ]
          refine wpOrd_step rfl rfl (fun KK hKK => ?_)
          go_simp
          refine hKK _ _ ((Below.refl _ _).alloc (Nat.le_refl _) _) ?_
          clear hKK KK
          try simp only [Act.put, List.setIfInBounds_toArray, List.set_cons_zero, List.set_cons_succ]
          refine wpOrd_nil rfl ?_
          have hbD : Below wr.heap.size wr (wb.alloc (.cells (strCs [wField, numT q0 6, numT q1 6]).toArray 9)) := hbB2.alloc hbB2.size _
          have hlen : (textP x 0 ++ textP x 1 ++ textP x 2 ++ textP x 3 ++ textP x 4 ++ ((List.range j).map (fieldT x.fs)).flatten).length + (lineS [wField, numT q0 6, numT q1 6]).length ≤ 1000000 := by
            have h8 : (textP x 5).length = (((List.range fn).map (fieldT x.fs)).flatten).length := by show (((List.range (x.fs.length / 2)).map (fieldT x.fs)).flatten).length = _; rw [Hnl.out]
            have h9 := Hfl.out
            have h10 := Hsum.out
            rw [Hft.out] at h9
            simp only [List.length_append]
            omega
          have HbD := Lib.hid hbD
          clear hbD hbA hbB2 hba hbb
          go_wp2_with fail
          refine (lineR_any [wField, numT q0 6, numT q1 6] wb.heap.size 3 w2.heap.size w2.heap.size (textP x 0 ++ textP x 1 ++ textP x 2 ++ textP x 3 ++ textP x 4 ++ ((List.range j).map (fieldT x.fs)).flatten) _ (heap_alloc_new wb _) (by simp) (by simp) hlen (isBuilderW_below Hsk.out.b HbD.out) (Nat.le_trans (Nat.le_of_lt Hsk.out.hi) HbD.out.size)).mono ?_
          rintro ee w9 h2
          obtain rfl := retW_ends h2
          have hst2 := Hsk.out.next HbD.out h2
          rw [← Hft.out, List.append_assoc, ← flat_succ] at hst2
          have Hst9 := Lib.hid hst2
          clear hst2 h2
          go_wp2_with fail
          go_roundw
          case rel => exact ⟨j + 1, by omega, by go_num, Hst9.out⟩
          case measure => simp [intOf]; omega
        · obtain rfl : fn = j := by omega
          have hsk := Hsk.out
          have e : textP x 5 = ((List.range fn).map (fieldT x.fs)).flatten := by show ((List.range (x.fs.length / 2)).map (fieldT x.fs)).flatten = _; rw [Hnl.out]
          have Hst6 := Lib.hid (show TSt w2.heap.size x ⟨fa, fn, fc⟩ ⟨va, vn, vc⟩ ⟨sa, sn, sc⟩ ⟨ka, kn, kc⟩ (textP x 0 ++ textP x 1 ++ textP x 2 ++ textP x 3 ++ textP x 4 ++ textP x 5) w wr by rw [e]; exact hsk)
          clear e
          clear hsk Hsk
          -- wWave
          have cl : wr.cell? ⟨w.heap.size, 6, none⟩ = some (.slice va vn vc) := obj_cell Hst6.out.l9 6
          have hnl0 : x.ws.length = vn * 2 := Hx.out.ws.1
          have hnl : x.ws.length / 2 = vn := by omega
          have hnc : vn ≤ vc := Hx.out.ws.2.1
          clear hnl0
          have hn6 : vn ≤ 1000000 := Hx.out.wn
          have Hnl := Lib.hid hnl; clear hnl
          go_wp2_with fail
          go_loopw [10, 78] (fun v8 iv wr => ∃ j : Nat, j ≤ vn ∧ iv = .int .i64 (j : Int) ∧ TSt w2.heap.size x ⟨fa, fn, fc⟩ ⟨va, vn, vc⟩ ⟨sa, sn, sc⟩ ⟨ka, kn, kc⟩ (textP x 0 ++ textP x 1 ++ textP x 2 ++ textP x 3 ++ textP x 4 ++ textP x 5 ++ ((List.range j).map (waveT x.ws)).flatten) w wr) (fun _ iv _ => vn - (intOf iv).toNat)
          case atStart => exact ⟨0, Nat.zero_le _, rfl, by simpa using Hst6.out⟩
          case round =>
            obtain ⟨j, hj, rfl, hsk⟩ := hrel
            have Hsk := Lib.hid hsk; clear hsk cl
            by_cases hjn : j < vn
            · obtain ⟨b, off, rfl, hbl, z0, z1⟩ := ((Hx.out.ws.ir (N := w.heap.size) (fun _ h => h)).below Hsk.out.be (Nat.le_refl _)).at2 hjn
              have hrg := Hrng.out.ws j (by have := Hnl.out; omega)
              have hft : waveT x.ws j = lineS [wWave, numT (x.ws.getD (j * 2) 0) 3, numT (x.ws.getD (j * 2 + 1) 0) 0] := rfl
              have hfl := flat_len (waveT x.ws) (k := j) (n := vn) hjn
              have Hft := Lib.hid hft; have Hfl := Lib.hid hfl; clear hft hfl
              generalize x.ws.getD (j * 2) 0 = q0 at *
              generalize x.ws.getD (j * 2 + 1) 0 = q1 at *
              go_wp2_with fail
              have hnb := heap_alloc_new wr (.cells #[.int .i64 q0, .int .i64 q1] 63)
              have hal : Below wr.heap.size wr (wr.alloc (.cells #[.int .i64 q0, .int .i64 q1] 63)) := (Below.refl _ _).alloc (Nat.le_refl _) _
              have e0 := obj_cell hnb 0
              have e1 := obj_cell hnb 1
              have hlp := lt_of_block hnb
              have Hal := Lib.hid hal
              clear hnb hal z0 z1
              go_upto_region 21 with fail
              have hgr : GW wr := Hg.out.of Hsk.out.be HT.out.glo
              have Hgr := Lib.hid hgr; clear hgr
              refine wp_region_eager 8 [(0, true), (1, true), (2, true), (4, true), (5, true), (3, false), (6, false), (7, false)] (by kernel_rfl) (by kernel_rfl) ?_
              iterate 5
                refine wpOrd_yield (v := ?_) rfl (fun _ _ _ h => h) (by rfl) ?_ ?_
                rotate_left
                · intro y hy
                  have k1 := (hy.cell (p := ⟨wr.heap.size, 0, none⟩) hlp).trans e0
                  have k2 := (hy.cell (p := ⟨wr.heap.size, 1, none⟩) hlp).trans e1
                  go_simp
                  with_reducible rfl
                try simp only [Act.put, List.setIfInBounds_toArray, List.set_cons_zero, List.set_cons_succ]
              clear e0 e1
              refine wpOrd_step rfl rfl (fun KK hKK => ?_)
              go_simp
              refine (numberS_any q0 3 _ (by omega) (by omega) (by omega) (Hgr.out.below Hal.out.drew)).mono ?_
              rintro ee wa ⟨rfl, hba⟩
              refine hKK _ _ hba ?_
              clear hKK KK
              have hbA := Hal.out.drew.trans (hba.mono Hal.out.drew.size)
              try simp only [Act.put, List.setIfInBounds_toArray, List.set_cons_zero, List.set_cons_succ]
              refine wpOrd_step rfl rfl (fun KK hKK => ?_)
              go_simp
              refine (numberS_any q1 0 wa (by omega) (by omega) (by omega) (Hgr.out.below hbA)).mono ?_
              rintro ee wb ⟨rfl, hbb⟩
              refine hKK _ _ hbb ?_
              clear hKK KK
              have hbB2 := below_chain hbA hbb
              try simp only [Act.put, List.setIfInBounds_toArray, List.set_cons_zero, List.set_cons_succ]
              refine wpOrd_step rfl rfl (fun KK hKK => ?_)
              go_simp
              refine hKK _ _ ((Below.refl _ _).alloc (Nat.le_refl _) _) ?_
              clear hKK KK
              try simp only [Act.put, List.setIfInBounds_toArray, List.set_cons_zero, List.set_cons_succ]
              refine wpOrd_nil rfl ?_
              have hbD : Below wr.heap.size wr (wb.alloc (.cells (strCs [wWave, numT q0 3, numT q1 0]).toArray 9)) := hbB2.alloc hbB2.size _
              have hlen : (textP x 0 ++ textP x 1 ++ textP x 2 ++ textP x 3 ++ textP x 4 ++ textP x 5 ++ ((List.range j).map (waveT x.ws)).flatten).length + (lineS [wWave, numT q0 3, numT q1 0]).length ≤ 1000000 := by
                have h8 : (textP x 6).length = (((List.range vn).map (waveT x.ws)).flatten).length := by show (((List.range (x.ws.length / 2)).map (waveT x.ws)).flatten).length = _; rw [Hnl.out]
                have h9 := Hfl.out
                have h10 := Hsum.out
                rw [Hft.out] at h9
                simp only [List.length_append]
                omega
              have HbD := Lib.hid hbD
              clear hbD hbA hbB2 hba hbb
              go_wp2_with fail
              refine (lineR_any [wWave, numT q0 3, numT q1 0] wb.heap.size 3 w2.heap.size w2.heap.size (textP x 0 ++ textP x 1 ++ textP x 2 ++ textP x 3 ++ textP x 4 ++ textP x 5 ++ ((List.range j).map (waveT x.ws)).flatten) _ (heap_alloc_new wb _) (by simp) (by simp) hlen (isBuilderW_below Hsk.out.b HbD.out) (Nat.le_trans (Nat.le_of_lt Hsk.out.hi) HbD.out.size)).mono ?_
              rintro ee w9 h2
              obtain rfl := retW_ends h2
              have hst2 := Hsk.out.next HbD.out h2
              rw [← Hft.out, List.append_assoc, ← flat_succ] at hst2
              have Hst9 := Lib.hid hst2
              clear hst2 h2
              go_wp2_with fail
              go_roundw
              case rel => exact ⟨j + 1, by omega, by go_num, Hst9.out⟩
              case measure => simp [intOf]; omega
            · obtain rfl : vn = j := by omega
              have hsk := Hsk.out
              have e : textP x 6 = ((List.range vn).map (waveT x.ws)).flatten := by show ((List.range (x.ws.length / 2)).map (waveT x.ws)).flatten = _; rw [Hnl.out]
              have Hst7 := Lib.hid (show TSt w2.heap.size x ⟨fa, fn, fc⟩ ⟨va, vn, vc⟩ ⟨sa, sn, sc⟩ ⟨ka, kn, kc⟩ (textP x 0 ++ textP x 1 ++ textP x 2 ++ textP x 3 ++ textP x 4 ++ textP x 5 ++ textP x 6) w wr by rw [e]; exact hsk)
              clear e
              clear hsk Hsk
              -- the surfaces
              have cl : wr.cell? ⟨w.heap.size, 7, none⟩ = some (.slice sa sn sc) := obj_cell Hst7.out.l9 7
              have hnl : x.l.length = sn := Hx.out.l.1
              have hnc : sn ≤ sc := Hx.out.l.2.1
              have hn6 : sn ≤ 1000000 := Hx.out.sn
              have Hnl := Lib.hid hnl; clear hnl
              go_wp2_with fail
              go_loopw [12, 95] (fun v8 iv wr => ∃ j : Nat, j ≤ sn ∧ iv = .int .i64 (j : Int) ∧ TSt w2.heap.size x ⟨fa, fn, fc⟩ ⟨va, vn, vc⟩ ⟨sa, sn, sc⟩ ⟨ka, kn, kc⟩ (textP x 0 ++ textP x 1 ++ textP x 2 ++ textP x 3 ++ textP x 4 ++ textP x 5 ++ textP x 6 ++ ((x.l.take j).map surfT).flatten) w wr) (fun _ iv _ => sn - (intOf iv).toNat)
              case atStart => exact ⟨0, Nat.zero_le _, rfl, by simpa using Hst7.out⟩
              case round =>
                obtain ⟨j, hj, rfl, hsk⟩ := hrel
                have Hsk := Lib.hid hsk; clear hsk cl
                by_cases hjn : j < sn
                · obtain ⟨b, off, y, cs, hsa, hlt, hy, ⟨a2, n2, c2, rfl, hz, hn2, hc2, hg2⟩, hr⟩ := Hx.out.l.at hjn
                  simp only at hsa
                  subst hsa
                  have hr2 := rangeAt_kept (S := fun b => b < w.heap.size) hr (keptOn_below Hsk.out.be) hlt
                  have hok := Hrng.out.l y (List.mem_of_getElem? hy)
                  have hfl := flat_lenL surfT x.l hy
                  have hlen : (textP x 0 ++ textP x 1 ++ textP x 2 ++ textP x 3 ++ textP x 4 ++ textP x 5 ++ textP x 6 ++ ((x.l.take j).map surfT).flatten).length + (surfT y).length ≤ 1000000 := by
                    have h8 : (textP x 7).length = ((x.l.map surfT).flatten).length := rfl
                    have h10 := Hsum.out
                    simp only [List.length_append]
                    omega
                  have Hr := Lib.hid hr2; have Hok := Lib.hid hok; have Hy := Lib.hid hy; have Hz := Lib.hid (hz.ir (N := w.heap.size) (fun _ h => h)); have Hlen2 := Lib.hid hlen
                  clear hr hr2 hok hy hz hfl hlen hc2 hg2
                  go_wp2_with (first
                    | (refine wpL_load_at Hr.out rfl (.tmp 97) rfl rfl ?_)
                    | (refine wpL_store_new y.s a2 n2 c2 _ rfl rfl (.tmp 12) (.tmp 98) rfl rfl rfl ?_)
                    | (refine wpL_load_surf (SurfB.new _ y.s a2 n2 c2) rfl (.tmp 12) rfl rfl ?_))
                  have hal : Below wr.heap.size wr (wr.alloc (.cells #[.int .i64 y.s.kind, .int .i64 y.s.curv, .int .i64 y.s.conic, .int .i64 y.s.curvX, .int .i64 y.s.conicX, .int .i64 y.s.a0, .int .i64 y.s.a1, .int .i64 y.s.a2, .int .i64 y.s.a3, .int .i64 y.s.p0, .int .i64 y.s.p1, .int .i64 y.s.order, .int .i64 y.s.thick, .string y.s.glass, .int .i64 y.s.semi, .int .i64 y.s.hole, .int .i64 y.s.dx, .int .i64 y.s.dy, .int .i64 y.s.ax, .int .i64 y.s.ay, .int .i64 y.s.az, .slice a2 n2 c2] 70)) := (Below.refl _ _).alloc (Nat.le_refl _) _
                  have hs4 := Hsk.out.go hal
                  refine (wsurface_any y a2 n2 c2 w2.heap.size w2.heap.size w.heap.size (textP x 0 ++ textP x 1 ++ textP x 2 ++ textP x 3 ++ textP x 4 ++ textP x 5 ++ textP x 6 ++ ((x.l.take j).map surfT).flatten) _ Hok.out ((Hz.out.below hs4.be (Nat.le_refl _)).mono (Nat.le_of_lt hs4.lo)) hn2 hs4.b (Nat.le_of_lt hs4.hi) Hlen2.out (Hg.out.of hs4.be HT.out.glo) (HT.out.below hs4.be) (Nat.le_of_lt hs4.lo)).mono ?_
                  rintro ee w9 h2
                  obtain rfl := retW_ends h2
                  have hst2 := Hsk.out.next hal h2
                  rw [List.append_assoc, ← flat_take surfT x.l Hy.out] at hst2
                  have Hst9 := Lib.hid hst2
                  clear hst2 h2 hs4 hal
                  go_wp2_with fail
                  go_roundw
                  case rel => exact ⟨j + 1, by omega, by go_num, Hst9.out⟩
                  case measure => simp [intOf]; omega
                · obtain rfl : sn = j := by omega
                  have hsk := Hsk.out
                  rw [List.take_of_length_le (by rw [Hnl.out]; exact Nat.le_refl _)] at hsk
                  have Hst8 := Lib.hid (show TSt w2.heap.size x ⟨fa, fn, fc⟩ ⟨va, vn, vc⟩ ⟨sa, sn, sc⟩ ⟨ka, kn, kc⟩ (textP x 0 ++ textP x 1 ++ textP x 2 ++ textP x 3 ++ textP x 4 ++ textP x 5 ++ textP x 6 ++ textP x 7) w wr from hsk)
                  clear hsk Hsk
                  -- the configurations
                  have cl : wr.cell? ⟨w.heap.size, 8, none⟩ = some (.slice ka kn kc) := obj_cell Hst8.out.l9 8
                  have hnl : x.cf.length = kn := Hx.out.cf.1
                  have hnc2 : kn ≤ kc := Hx.out.cf.2.1
                  have hn7 : kn ≤ 1000000 := Hx.out.kn
                  have Hnl := Lib.hid hnl; clear hnl
                  go_wp2_with fail
                  go_loopw [14, 16, 17, 106] (fun v8 v16 v17 iv wr => ∃ j : Nat, j ≤ kn ∧ iv = .int .i64 (j : Int) ∧ TSt w2.heap.size x ⟨fa, fn, fc⟩ ⟨va, vn, vc⟩ ⟨sa, sn, sc⟩ ⟨ka, kn, kc⟩ (textP x 0 ++ textP x 1 ++ textP x 2 ++ textP x 3 ++ textP x 4 ++ textP x 5 ++ textP x 6 ++ textP x 7 ++ ((x.cf.take j).map confT).flatten) w wr) (fun _ _ _ iv _ => kn - (intOf iv).toNat)
                  case atStart => exact ⟨0, Nat.zero_le _, rfl, by simpa using Hst8.out⟩
                  case round =>
                    obtain ⟨j, hj, rfl, hsk⟩ := hrel
                    have Hsk := Lib.hid hsk; clear hsk cl
                    by_cases hjn : j < kn
                    · obtain ⟨b, off, y, cs, hka, hlt, hy, ⟨a2, n2, c2, rfl, hz, hn2, hc2, hg2⟩, hr⟩ := Hx.out.cf.at hjn
                      simp only at hka
                      subst hka
                      obtain ⟨nmL, hnm⟩ : ∃ nmL, listB y.nm = nmL := ⟨_, rfl⟩
                      have hnm2 : y.nm = bs nmL := by rw [← hnm, bs_listB]
                      have r0 : wr.cell? ⟨b, off + j * 2, none⟩ = some (.string (bs nmL)) := by rw [← hnm2]; exact (Hsk.out.be.cell (p := ⟨b, off + j * 2, none⟩) hlt).trans (hr 0 _ rfl)
                      have r1 : wr.cell? ⟨b, off + j * 2 + 1, none⟩ = some (.slice a2 n2 c2) := (Hsk.out.be.cell (p := ⟨b, off + j * 2 + 1, none⟩) hlt).trans (hr 1 _ rfl)
                      have hcl : y.zs.length / 3 = n2 := by have h1 : y.zs.length = n2 * 3 := hz.1; omega
                      have hnc3 : n2 ≤ c2 := hz.2.1
                      have hrg := Hrng.out.cf y (List.mem_of_getElem? hy)
                      have hfl := flat_lenL confT x.cf hy
                      have hct : confT y = lineS [wConfig, nmL] ++ ((List.range n2).map (changeT y.zs)).flatten := by
                        show lineS [wConfig, listB y.nm] ++ ((List.range (y.zs.length / 3)).map (changeT y.zs)).flatten = _
                        rw [hnm, hcl]
                      have hlen : (textP x 0 ++ textP x 1 ++ textP x 2 ++ textP x 3 ++ textP x 4 ++ textP x 5 ++ textP x 6 ++ textP x 7 ++ ((x.cf.take j).map confT).flatten).length + (lineS [wConfig, nmL]).length + (((List.range n2).map (changeT y.zs)).flatten).length ≤ 1000000 := by
                        have h8 : (textP x 8).length = ((x.cf.map confT).flatten).length := rfl
                        have h10 := Hsum.out
                        rw [hct, List.length_append] at hfl
                        simp only [List.length_append]
                        omega
                      have Hct := Lib.hid hct; have Hy := Lib.hid hy; have Hz := Lib.hid (hz.ir (N := w.heap.size) (fun _ h => h)); have Hlen2 := Lib.hid hlen; have Hrg := Lib.hid hrg; have Hcl := Lib.hid hcl
                      clear hr hy hz hfl hlen hc2 hg2 hct hrg hnm hnm2 hcl
                      go_wp2_with fail
                      have hp1 := heap_alloc_new wr (.cells #[.string (bs nmL), .slice a2 n2 c2] 75)
                      have hal : Below wr.heap.size wr ((wr.alloc (.cells #[.string (bs nmL), .slice a2 n2 c2] 75)).alloc (.cells (strCs [wConfig, nmL]).toArray 9)) := ((Below.refl _ _).alloc (Nat.le_refl _) _).alloc (by simp) _
                      have hp2 : ((wr.alloc (.cells #[.string (bs nmL), .slice a2 n2 c2] 75)).alloc (.cells (strCs [wConfig, nmL]).toArray 9)).heap[wr.heap.size]? = some (.cells #[.string (bs nmL), .slice a2 n2 c2] 75 (0, 0)) := (alloc_old (by simp)).trans hp1
                      refine (lineR_any [wConfig, nmL] (wr.heap.size + 1) 2 w2.heap.size w2.heap.size (textP x 0 ++ textP x 1 ++ textP x 2 ++ textP x 3 ++ textP x 4 ++ textP x 5 ++ textP x 6 ++ textP x 7 ++ ((x.cf.take j).map confT).flatten) _ (alloc_at (by simp)) (by simp) (by simp) (by have := Hlen2.out; omega) (isBuilderW_below Hsk.out.b hal) (Nat.le_trans (Nat.le_of_lt Hsk.out.hi) hal.size)).mono ?_
                      rintro ee w9 h2
                      obtain rfl := retW_ends h2
                      have hst2 := Hsk.out.next hal h2
                      have hhi := Hsk.out.hi
                      have hp9 : w9.heap[wr.heap.size]? = some (.cells #[.string (bs nmL), .slice a2 n2 c2] 75 (0, 0)) := h2.2.2.2 _ _ _ _ hp2 (by decide) (by omega)
                      have q1 : w9.cell? ⟨wr.heap.size, 1, none⟩ = some (.slice a2 n2 c2) := obj_cell hp9 1
                      have Hs9 := Lib.hid hst2
                      clear hst2 h2 hp1 hp2 hp9 hal r0 r1
                      go_wp2_with fail
                      go_loopw [16, 17, 118] (fun v16 v17 iv wi => ∃ i : Nat, i ≤ n2 ∧ iv = .int .i64 (i : Int) ∧ TSt w2.heap.size x ⟨fa, fn, fc⟩ ⟨va, vn, vc⟩ ⟨sa, sn, sc⟩ ⟨some ⟨b, off, none⟩, kn, kc⟩ (textP x 0 ++ textP x 1 ++ textP x 2 ++ textP x 3 ++ textP x 4 ++ textP x 5 ++ textP x 6 ++ textP x 7 ++ ((x.cf.take j).map confT).flatten ++ lineS [wConfig, nmL] ++ ((List.range i).map (changeT y.zs)).flatten) w wi) (fun _ _ iv _ => n2 - (intOf iv).toNat)
                      case atStart => exact ⟨0, Nat.zero_le _, rfl, by simpa using Hs9.out⟩
                      case round =>
                        obtain ⟨i, hi, rfl, hsi⟩ := hrel
                        have Hsi := Lib.hid hsi; clear hsi q1
                        by_cases hin : i < n2
                        · obtain ⟨b3, off3, hb3a, hb3l, z0, z1, z2⟩ := (Hz.out.below Hsi.out.be (Nat.le_refl _)).at3 hin
                          subst hb3a
                          obtain ⟨g0, g1, g2⟩ := Hrg.out i (by have := Hcl.out; omega)
                          obtain ⟨pi, hpi⟩ : ∃ pi : Nat, y.zs.getD (i * 3 + 1) 0 = (pi : Int) + 1 := ⟨(y.zs.getD (i * 3 + 1) 0 - 1).toNat, by omega⟩
                          have hpi17 : pi < 17 := by omega
                          have hft : changeT y.zs i = lineS [wChange, numT (y.zs.getD (i * 3) 0) 0, pNames.getD pi [], numT (y.zs.getD (i * 3 + 2) 0) (digP (pi + 1))] := by
                            unfold changeT nameP
                            rw [hpi, show ((pi : Int) + 1).toNat = pi + 1 by omega, Nat.add_sub_cancel]
                          have hfl := flat_len (changeT y.zs) (k := i) (n := n2) hin
                          rw [hpi] at z1
                          have hpar := (HT.out.below (Hsi.out.go ((Below.refl wr.heap.size wr).alloc (Nat.le_refl _) (.cells #[.int .i64 (y.zs.getD (i * 3) 0), .int .i64 ((pi : Int) + 1), .int .i64 (y.zs.getD (i * 3 + 2) 0)] 72))).be).par pi hpi17
                          have hd18 := digP_le (pi + 1)
                          have hpi' : (pi : Int) < 17 := by omega
                          have hpi0 : (0 : Int) ≤ (pi : Int) := by omega
                          have Hft := Lib.hid hft; have Hfl := Lib.hid hfl; have Hpar := Lib.hid hpar
                          clear hft hfl hpar hpi g1
                          generalize y.zs.getD (i * 3) 0 = q0 at *
                          generalize y.zs.getD (i * 3 + 2) 0 = q2 at *
                          generalize pNames.getD pi [] = nmP at *
                          generalize digP (pi + 1) = dg at *
                          go_wp2_with (first
                            | (refine wpL_load_par (.tmp 125) rfl rfl rfl Hpar.out ?_)
                            | (refine wpL_store_par (alloc_at (by simp)) rfl rfl (.tmp 17) (.tmp 126) rfl rfl rfl ?_; intro w5 hb5 hbe5; have hcb : w5.heap[wr.heap.size]? = some (.cells #[.int .i64 q0, .int .i64 ((pi : Int) + 1), .int .i64 q2] 72 (0, 0)) := ((hbe5 (wr.heap.size + 1) _ (Nat.le_refl _) ((Below.refl _ _).alloc (by simp) _)).block _ (by omega)).trans (heap_alloc_new wr _); have hbw5 := hbe5 wr.heap.size wr (by omega) (((Below.refl _ _).alloc (Nat.le_refl _) _).alloc (by simp) _); have Hb5 := Lib.hid hb5; have Hcb := Lib.hid hcb; have Hbw5 := Lib.hid hbw5; clear hb5 hbe5 hcb hbw5))
                          clear z0 z1 z2
                          have e0 := obj_cell Hcb.out 0
                          have e2 := obj_cell Hcb.out 2
                          have p0 := obj_cell Hb5.out 0
                          have p1 := obj_cell Hb5.out 1
                          have hlc := lt_of_block Hcb.out
                          have hlp := lt_of_block Hb5.out
                          change w5.cell? ⟨wr.heap.size, 0, none⟩ = some (.int .i64 q0) at e0
                          change w5.cell? ⟨wr.heap.size, 2, none⟩ = some (.int .i64 q2) at e2
                          change w5.cell? ⟨wr.heap.size + 1, 0, none⟩ = some (.string (bs nmP)) at p0
                          change w5.cell? ⟨wr.heap.size + 1, 1, none⟩ = some (.int .i64 (dg : Int)) at p1
                          go_upto_region 36 with fail
                          have hgr : GW wr := Hg.out.of Hsi.out.be HT.out.glo
                          have Hgr := Lib.hid hgr; clear hgr
                          refine wp_region_eager 12 [(0, true), (1, true), (2, true), (4, true), (5, true), (6, true), (7, true), (8, true), (9, true), (3, false), (10, false), (11, false)] (by kernel_rfl) (by kernel_rfl) ?_
                          iterate 9
                            refine wpOrd_yield (v := ?_) rfl (fun _ _ _ h => h) (by rfl) ?_ ?_
                            rotate_left
                            · intro y hy
                              have k1 := (hy.cell (p := ⟨wr.heap.size, 0, none⟩) hlc).trans e0
                              have k2 := (hy.cell (p := ⟨wr.heap.size, 2, none⟩) hlc).trans e2
                              have k3 := (hy.cell (p := ⟨wr.heap.size + 1, 0, none⟩) hlp).trans p0
                              have k4 := (hy.cell (p := ⟨wr.heap.size + 1, 1, none⟩) hlp).trans p1
                              go_simp
                              with_reducible rfl
                            try simp only [Act.put, List.setIfInBounds_toArray, List.set_cons_zero, List.set_cons_succ]
                          clear e0 e2 p0 p1
                          refine wpOrd_step rfl rfl (fun KK hKK => ?_)
                          go_simp
                          refine (numberS_any q0 0 _ (by omega) (by omega) (by omega) (Hgr.out.below Hbw5.out.drew)).mono ?_
                          rintro ee wa ⟨rfl, hba⟩
                          refine hKK _ _ hba ?_
                          clear hKK KK
                          have hbA := Hbw5.out.drew.trans (hba.mono Hbw5.out.drew.size)
                          try simp only [Act.put, List.setIfInBounds_toArray, List.set_cons_zero, List.set_cons_succ]
                          refine wpOrd_step rfl rfl (fun KK hKK => ?_)
                          go_simp
                          refine (numberS_any q2 dg wa (by omega) (by omega) hd18 (Hgr.out.below hbA)).mono ?_
                          rintro ee wb ⟨rfl, hbb⟩
                          refine hKK _ _ hbb ?_
                          clear hKK KK
                          have hbB2 := below_chain hbA hbb
                          try simp only [Act.put, List.setIfInBounds_toArray, List.set_cons_zero, List.set_cons_succ]
                          refine wpOrd_step rfl rfl (fun KK hKK => ?_)
                          go_simp
                          refine hKK _ _ ((Below.refl _ _).alloc (Nat.le_refl _) _) ?_
                          clear hKK KK
                          try simp only [Act.put, List.setIfInBounds_toArray, List.set_cons_zero, List.set_cons_succ]
                          refine wpOrd_nil rfl ?_
                          have hbD : Below wr.heap.size wr (wb.alloc (.cells (strCs [wChange, numT q0 0, nmP, numT q2 dg]).toArray 9)) := hbB2.alloc hbB2.size _
                          have hlen3 : (textP x 0 ++ textP x 1 ++ textP x 2 ++ textP x 3 ++ textP x 4 ++ textP x 5 ++ textP x 6 ++ textP x 7 ++ ((x.cf.take j).map confT).flatten ++ lineS [wConfig, nmL] ++ ((List.range i).map (changeT y.zs)).flatten).length + (lineS [wChange, numT q0 0, nmP, numT q2 dg]).length ≤ 1000000 := by
                            have h9 := Hfl.out
                            have h10 := Hlen2.out
                            rw [Hft.out] at h9
                            simp only [List.length_append] at *
                            omega
                          have HbD := Lib.hid hbD
                          clear hbD hbA hbB2 hba hbb
                          go_wp2_with fail
                          refine (lineR_any [wChange, numT q0 0, nmP, numT q2 dg] wb.heap.size 4 w2.heap.size w2.heap.size (textP x 0 ++ textP x 1 ++ textP x 2 ++ textP x 3 ++ textP x 4 ++ textP x 5 ++ textP x 6 ++ textP x 7 ++ ((x.cf.take j).map confT).flatten ++ lineS [wConfig, nmL] ++ ((List.range i).map (changeT y.zs)).flatten) _ (heap_alloc_new wb _) (by simp) (by simp) hlen3 (isBuilderW_below Hsi.out.b HbD.out) (Nat.le_trans (Nat.le_of_lt Hsi.out.hi) HbD.out.size)).mono ?_
                          rintro ee w10 h2
                          obtain rfl := retW_ends h2
                          have hst2 := Hsi.out.next HbD.out h2
                          rw [← Hft.out, List.append_assoc, ← flat_succ] at hst2
                          have Hst11 := Lib.hid hst2
                          clear hst2 h2
                          go_wp2_with fail
                          go_roundw
                          case rel => exact ⟨i + 1, by omega, by go_num, Hst11.out⟩
                          case measure => simp [intOf]; omega
                        · obtain rfl : n2 = i := by omega
                          go_wp2_with fail
                          go_roundw
                          case rel =>
                            refine ⟨j + 1, by omega, by go_num, ?_⟩
                            have h5 := Hsi.out
                            rw [List.append_assoc, List.append_assoc, ← Hct.out, ← List.append_assoc] at h5
                            rw [flat_take confT x.cf Hy.out, ← List.append_assoc]
                            exact h5
                          case measure => simp [intOf]; omega
                    · obtain rfl : kn = j := by omega
                      have hsk := Hsk.out
                      rw [List.take_of_length_le (by rw [Hnl.out]; exact Nat.le_refl _)] at hsk
                      have Hst9 := Lib.hid (show TSt w2.heap.size x ⟨fa, fn, fc⟩ ⟨va, vn, vc⟩ ⟨sa, sn, sc⟩ ⟨ka, kn, kc⟩ (textP x 0 ++ textP x 1 ++ textP x 2 ++ textP x 3 ++ textP x 4 ++ textP x 5 ++ textP x 6 ++ textP x 7 ++ textP x 8) w wr from hsk)
                      clear hsk Hsk
                      -- the end
                      have hp9 : textP x 9 = lineS [wEnd] := rfl
                      have HP9 := Lib.hid hp9; clear hp9
                      go_wp2_with fail
                      have hal : Below wr.heap.size wr (wr.alloc (.cells (strCs [wEnd]).toArray 9)) := (Below.refl _ _).alloc (Nat.le_refl _) _
                      refine (lineR_any [wEnd] wr.heap.size 1 w2.heap.size w2.heap.size (textP x 0 ++ textP x 1 ++ textP x 2 ++ textP x 3 ++ textP x 4 ++ textP x 5 ++ textP x 6 ++ textP x 7 ++ textP x 8) _ (heap_alloc_new wr _) (by simp) (by simp) (by have := Hsum.out; have := congrArg List.length HP9.out; (try simp only [List.length_append]); omega) (isBuilderW_below Hst9.out.b hal) (by have := Hst9.out.hi; have := (hal).size; omega)).mono ?_
                      rintro ee w9 h2
                      obtain rfl := retW_ends h2
                      have hst2 := Hst9.out.next hal h2
                      rw [← HP9.out] at hst2
                      have Hst10 := Lib.hid (show TSt w2.heap.size x ⟨fa, fn, fc⟩ ⟨va, vn, vc⟩ ⟨sa, sn, sc⟩ ⟨ka, kn, kc⟩ (textP x 0 ++ textP x 1 ++ textP x 2 ++ textP x 3 ++ textP x 4 ++ textP x 5 ++ textP x 6 ++ textP x 7 ++ textP x 8 ++ textP x 9) w w9 from hst2)
                      clear h2 hst2 Hst9 HP9
                      go_wp2_with (refine (stringW_any w2.heap.size w2.heap.size (textP x 0 ++ textP x 1 ++ textP x 2 ++ textP x 3 ++ textP x 4 ++ textP x 5 ++ textP x 6 ++ textP x 7 ++ textP x 8 ++ textP x 9) _ Hst10.out.b (by intro e; have h0 := congrArg List.length e; simp only [List.length_append, List.length_nil] at h0; have h1 : (textP x 9).length = 4 := rfl; omega)).mono ?_; rintro ee wz ⟨rfl, hbz⟩; have Hbz := Lib.hid hbz; clear hbz)
                      have hassoc : lensT x = textP x 0 ++ (textP x 1 ++ (textP x 2 ++ (textP x 3 ++ (textP x 4 ++ (textP x 5 ++ (textP x 6 ++ (textP x 7 ++ (textP x 8 ++ textP x 9)))))))) := by rw [lensT_parts]; simp only [List.append_assoc]
                      have Has := Lib.hid hassoc; clear hassoc
                      go_ret2
                      exact ⟨by rw [Hr.out, Has.out]; rfl, Hst10.out.be.trans (Hbz.out.mono (Nat.le_of_lt Hst10.out.lo))⟩
end Go.Proofs.YtgohdcccfkjooaaGreatDoor
