/-
  DERIVED. The walk of monocleref33's Read. (printed by wip/mkRfG.py)
-/
import Derived.Test.YtpicmhbjiaegpaaGreatDoorQRfF
import Derived.Test.YtpicmhbjiaegpaaGreatDoorGag
namespace Go.Proofs.YtpicmhbjiaegpaaGreatDoor
open Go.RowKit

theorem ret_opd_tmp {fn : Func} {p u : Tmp} {tmps : Array Value} {w : World} {g : Nat} {e : Value} {nm : List UInt8} {a0 a1 a2 a3 a4 rel tg wt : Int} (h : fn.results = #[.cell p 50, .tmp u]) (hp : tmps.getD p undef = .pointer (some ⟨g, 0, none⟩)) (hu : tmps.getD u undef = e) (hs : OpdB w g nm a0 a1 a2 a3 a4 rel tg wt) :
    (results fn tmps).run Tryz.prog w = .ok (.tuple #[.agg #[.string (bs nm), .int .i64 a0, .int .i64 a1, .int .i64 a2, .int .i64 a3, .int .i64 a4, .int .i64 rel, .int .i64 tg, .int .i64 wt], e]) w := by
  rw [results_cell_tmp h, hp, hu]
  simp only [asAddr, Sem.run_pure, Result.andThen_ok]
  rw [run_loadVar_row w g 50 50 _ (0, 0) _ hs Tryz.underlying50 rfl Tryz.infoOpd]
  rfl
def zeroX : Opd := ⟨[], [0, 0, 0, 0, 0], 0, 0, 0⟩
def rdX (r : Option Opd) : Opd := r.getD zeroX
def RetRead (w : World) (r : Option Opd) (e : Ending) (w' : World) : Prop := e = .returned (.tuple #[opV (rdX r), .bool r.isSome]) ∧ Below w.heap.size w w'
theorem argsOf_len : ∀ (ks : List Nat) (ws : List (List UInt8)) (q : List Int × List (List UInt8)), argsOf ks ws = some q → q.2.length + ks.length = ws.length ∧ q.1.length = ks.length
  | [], ws, q, h => by cases h; simp
  | k :: ks, [], q, h => by cases h
  | k :: ks, y :: ws, q, h => by
    rw [argsOf] at h
    split at h
    · cases h
    · obtain ⟨r, hr, rfl⟩ := Option.map_eq_some_iff.1 h
      obtain ⟨h1, h2⟩ := argsOf_len ks ws r hr
      simp only [List.length_cons]; omega
theorem tailOf_short {ws : List (List UInt8)} (h : ws.length < 2) : tailOf ws = none := by
  match ws, h with
  | [], _ => rfl
  | [a], _ => rfl
theorem read_short {nm : List UInt8} {rest : List (List UInt8)} {ks : List Nat} (hk : kindsOf nm = some ks) (h : rest.length < ks.length + 2) : readOf (nm :: rest) = none := by
  rw [readOf_kind hk]
  cases ha : argsOf ks rest with
  | none => rfl
  | some q =>
    have := argsOf_len ks rest q ha
    simp only [tailOf_short (show q.2.length < 2 by omega)]; rfl
theorem args_step {ks : List Nat} {rest : List (List UInt8)} {i : Nat} {vals : List Int} {y : List UInt8} (hil : i < ks.length) (hy : rest[i]? = some y) (h : argsOf ks rest = (argsOf (ks.drop i) (rest.drop i)).map fun r => (vals ++ r.1, r.2)) :
    (numOf y (rangeOf (ks.getD i 0)).1 (rangeOf (ks.getD i 0)).2.1 (digitsOf (ks.getD i 0)) = none → argsOf ks rest = none) ∧
    (∀ n, numOf y (rangeOf (ks.getD i 0)).1 (rangeOf (ks.getD i 0)).2.1 (digitsOf (ks.getD i 0)) = some n → argsOf ks rest = (argsOf (ks.drop (i + 1)) (rest.drop (i + 1))).map fun r => ((vals ++ [n]) ++ r.1, r.2)) := by
  obtain ⟨hyl, hye⟩ := List.getElem?_eq_some_iff.1 hy
  have e1 : ks.drop i = ks.getD i 0 :: ks.drop (i + 1) := by
    rw [List.drop_eq_getElem_cons hil, List.getD_eq_getElem?_getD, List.getElem?_eq_getElem hil]; rfl
  have e2 : rest.drop i = y :: rest.drop (i + 1) := by rw [List.drop_eq_getElem_cons hyl, hye]
  rw [e1, e2, argsOf] at h
  constructor
  · intro hn
    rw [hn] at h; exact h
  · intro n hn
    rw [hn] at h
    rw [h]
    simp only [Option.map_map]
    congr 1
    funext r
    simp [Function.comp]
theorem read_of {nm : List UInt8} {rest : List (List UInt8)} {ks : List Nat} {vals : List Int} (hk : kindsOf nm = some ks) (h : argsOf ks rest = (argsOf (ks.drop ks.length) (rest.drop ks.length)).map fun r => (vals ++ r.1, r.2)) :
    readOf (nm :: rest) = (tailOf (rest.drop ks.length)).map fun t => ⟨nm, pad5 vals, t.1, t.2.1, t.2.2⟩ := by
  rw [readOf_kind hk, h, List.drop_length, argsOf]
  simp only [Option.map_some, List.append_nil]
theorem read_noargs {nm : List UInt8} {rest : List (List UInt8)} {ks : List Nat} (hk : kindsOf nm = some ks) (h : argsOf ks rest = none) : readOf (nm :: rest) = none := by
  rw [readOf_kind hk, h]
theorem xb_zero {w : World} {X : Nat} {nm : List UInt8} (h : OpdB w X nm 0 0 0 0 0 0 0 0) : XB w X nm [] 0 0 0 := h
set_option maxRecDepth 100000 in
set_option maxHeartbeats 6400000 in
theorem read33_any (nm : List UInt8) (rest : List (List UInt8)) (g c : Nat) (w : World) (hc : ∀ (j : Nat) y, (nm :: rest)[j]? = some y → w.cell? ⟨g, j, none⟩ = some (.string (bs y))) (hg : g < w.heap.size) (hl : ∀ y ∈ nm :: rest, y.length ≤ 5000) (_hn : rest.length ≤ 10000) :
    Calls Tryz.prog 38 #[.slice (some ⟨g, 0, none⟩) (rest.length + 1) c] w (RetRead w (readOf (nm :: rest))) := by
  have hD := heap_alloc_new w (.cells #[.string { data := #[] }, .int .i64 0, .int .i64 0, .int .i64 0, .int .i64 0, .int .i64 0, .int .i64 0, .int .i64 0, .int .i64 0] 50)
  have hbD := (Below.refl w.heap.size w).alloc (Nat.le_refl _) (.cells #[.string { data := #[] }, .int .i64 0, .int .i64 0, .int .i64 0, .int .i64 0, .int .i64 0, .int .i64 0, .int .i64 0, .int .i64 0] 50)
  have hsD : (w.alloc (.cells #[.string { data := #[] }, .int .i64 0, .int .i64 0, .int .i64 0, .int .i64 0, .int .i64 0, .int .i64 0, .int .i64 0, .int .i64 0] 50)).heap.size = w.heap.size + 1 := by simp
  have hX := heap_alloc_new (w.alloc (.cells #[.string { data := #[] }, .int .i64 0, .int .i64 0, .int .i64 0, .int .i64 0, .int .i64 0, .int .i64 0, .int .i64 0, .int .i64 0] 50)) (.cells #[.string { data := #[] }, .int .i64 0, .int .i64 0, .int .i64 0, .int .i64 0, .int .i64 0, .int .i64 0, .int .i64 0, .int .i64 0] 50)
  rw [hsD] at hX
  have hD2 := (Below.heap_alloc (w.alloc (.cells #[.string { data := #[] }, .int .i64 0, .int .i64 0, .int .i64 0, .int .i64 0, .int .i64 0, .int .i64 0, .int .i64 0, .int .i64 0] 50)) (.cells #[.string { data := #[] }, .int .i64 0, .int .i64 0, .int .i64 0, .int .i64 0, .int .i64 0, .int .i64 0, .int .i64 0, .int .i64 0] 50) w.heap.size (by omega)).trans hD
  have hb2 := hbD.alloc (by omega) (.cells #[.string { data := #[] }, .int .i64 0, .int .i64 0, .int .i64 0, .int .i64 0, .int .i64 0, .int .i64 0, .int .i64 0, .int .i64 0] 50)
  have c0 : (w.alloc (.cells #[.string { data := #[] }, .int .i64 0, .int .i64 0, .int .i64 0, .int .i64 0, .int .i64 0, .int .i64 0, .int .i64 0, .int .i64 0] 50)).cell? ⟨g, 0, none⟩ = some (.string (bs nm)) := (hbD.cell (p := ⟨g, 0, none⟩) hg).trans (hc 0 nm rfl)
  have S1 := Lib.hid (opd_stored (nm := nm) (a0 := 0) (a1 := 0) (a2 := 0) (a3 := 0) (a4 := 0) (rel := 0) (tg := 0) (wt := 0) hX)
  have S2 := Lib.hid (other_stored (nm := nm) (a0 := 0) (a1 := 0) (a2 := 0) (a3 := 0) (a4 := 0) (rel := 0) (tg := 0) (wt := 0) hD2 (show w.heap.size + 1 ≠ w.heap.size by omega))
  have S3 := Lib.hid (below_stored (nm := nm) (a0 := 0) (a1 := 0) (a2 := 0) (a3 := 0) (a4 := 0) (rel := 0) (tg := 0) (wt := 0) hb2 (show w.heap.size ≤ w.heap.size + 1 by omega))
  have HX := Lib.hid hX
  have Hc := Lib.hid hc; have Hl := Lib.hid hl
  clear hD hbD hX hD2 hb2 hsD hc hl
  go_enter Tryz.func38, Tryz.ntmps38
  go_upto_region 2 with (refine wpL_store_op (nm := nm) (a0 := 0) (a1 := 0) (a2 := 0) (a3 := 0) (a4 := 0) (rel := 0) (tg := 0) (wt := 0) HX.out rfl rfl (.tmp 4) (.tmp 19) rfl rfl rfl ?_)
  refine step_world (fun wx => XB wx (w.heap.size + 1) nm [] 0 0 0 ∧ wx.heap[w.heap.size]? = some (.cells #[.string { data := #[] }, .int .i64 0, .int .i64 0, .int .i64 0, .int .i64 0, .int .i64 0, .int .i64 0, .int .i64 0, .int .i64 0] 50) ∧ Below w.heap.size w wx) ⟨xb_zero S1.out, S2.out, S3.out⟩ ?_
  rintro w5 ⟨s1, s2, s3⟩
  clear S1 S2 S3 HX c0
  have hlX := lt_of_block s1
  have cnm : w5.cell? ⟨w.heap.size + 1, 0, none⟩ = some (.string (bs nm)) := obj_cell s1 0
  have HX := Lib.hid s1; have HT := Lib.hid s2; have Hb := Lib.hid s3
  clear s1 s2 s3
  go_wp2_with fail
  refine (kinds33_any nm w5).mono ?_
  rintro e w6 ⟨rfl, rfl⟩
  clear cnm
  cases hk : kindsOf nm with
  | none =>
    rw [show kLet nm = [] by unfold kLet; rw [hk]; rfl]
    have hno : readOf (nm :: rest) = none := readOf_noKind hk
    have Hno := Lib.hid hno; clear hno
    go_wp2_with (refine wpL_store_op (nm := []) (a0 := 0) (a1 := 0) (a2 := 0) (a3 := 0) (a4 := 0) (rel := 0) (tg := 0) (wt := 0) HT.out rfl rfl (.tmp 2) (.tmp 37) rfl rfl rfl ?_)
    exact bodyPost_ret (ret_opd_tmp rfl rfl rfl (opd_stored HT.out)) rfl ⟨by rw [Hno.out]; rfl, below_stored Hb.out (Nat.le_refl _)⟩
  | some ks =>
    rw [show kLet nm = ks.map letOf by unfold kLet; rw [hk]; rfl]
    have hks5 := (kinds_small hk).1
    have hk18 := kinds_18 hk
    have Hk := Lib.hid hk; have Hk18 := Lib.hid hk18
    clear hk hk18
    by_cases hsh : rest.length < ks.length + 2
    · have hsh' : (rest.length : Int) + 1 < (ks.length : Int) + 3 := by omega
      have hno : readOf (nm :: rest) = none := read_short Hk.out hsh
      have Hno := Lib.hid hno; clear hno
      go_wp2_with (refine wpL_store_op (nm := []) (a0 := 0) (a1 := 0) (a2 := 0) (a3 := 0) (a4 := 0) (rel := 0) (tg := 0) (wt := 0) HT.out rfl rfl (.tmp 2) (.tmp 37) rfl rfl rfl ?_)
      exact bodyPost_ret (ret_opd_tmp rfl rfl rfl (opd_stored HT.out)) rfl ⟨by rw [Hno.out]; rfl, below_stored Hb.out (Nat.le_refl _)⟩
    have hsh' : ¬ (rest.length : Int) + 1 < (ks.length : Int) + 3 := by omega
    go_wp2_with fail
    go_loopw [8] (fun iv wr => ∃ (i : Nat) (vals : List Int), i ≤ ks.length ∧ vals.length = i ∧ iv = .int .i64 (i : Int) ∧ (argsOf ks rest = (argsOf (ks.drop i) (rest.drop i)).map fun r => (vals ++ r.1, r.2)) ∧ XB wr (w.heap.size + 1) nm vals 0 0 0 ∧ wr.heap[w.heap.size]? = some (.cells #[.string { data := #[] }, .int .i64 0, .int .i64 0, .int .i64 0, .int .i64 0, .int .i64 0, .int .i64 0, .int .i64 0, .int .i64 0] 50) ∧ Below w.heap.size w wr) (fun iv _ => ks.length - (intOf iv).toNat)
    case atStart => exact ⟨0, [], Nat.zero_le _, rfl, rfl, by show argsOf ks rest = (argsOf ks rest).map fun r => ([] ++ r.1, r.2); cases argsOf ks rest <;> rfl, HX.out, HT.out, Hb.out⟩
    case round =>
      obtain ⟨i, vals, hi, hvl, rfl, hspec, hx, ht, hb⟩ := hrel
      have hlX6 := lt_of_block hx
      have Hspec := Lib.hid hspec; have HXr := Lib.hid hx; have HTr := Lib.hid ht; have Hbr := Lib.hid hb; have Hvl := Lib.hid hvl
      clear hspec hx ht hb hvl HX HT Hb
      by_cases hil : i < ks.length
      · have hi5 : i < 5 := by omega
        obtain ⟨y, hy⟩ : ∃ y, rest[i]? = some y := ⟨_, List.getElem?_eq_getElem (by omega)⟩
        have hst := args_step hil hy Hspec.out
        have cy : wr.cell? ⟨g, 1 + i, none⟩ = some (.string (bs y)) := by
          rw [Hbr.out.cell (p := ⟨g, 1 + i, none⟩) hg, Nat.add_comm 1 i]
          exact Hc.out (i + 1) y (by simpa using hy)
        have hyl : y.length ≤ 5000 := Hl.out y (List.mem_cons_of_mem _ (List.mem_of_getElem? hy))
        have hkk := Hk18.out i hil
        have hget := hget_let hil
        have hbsz : i < (bs (ks.map letOf)).size := by show i < (ks.map letOf).length; simpa using hil
        have hcx := HXr.out.cell (by rw [Hvl.out]; omega) i hi5
        have hfx := obj_free HXr.out (1 + i)
        have Hget := Lib.hid hget; have Hst := Lib.hid hst; have Hkk := Lib.hid hkk
        clear hget hst hy hkk Hspec
        go_wp2_with fail
        simp only [Hget.out]
        clear Hget hbsz
        generalize ks.getD i 0 = kk at *
        refine (limits33_any kk Hkk.out.1 Hkk.out.2 wr).mono ?_
        rintro e w7 ⟨rfl, rfl⟩
        have hd18 : digitsOf kk ≤ 18 := by unfold digitsOf; split <;> omega
        go_wp2_with fail
        refine (number33_any y (rangeOf kk).1 (rangeOf kk).2.1 (digitsOf kk) wr hyl hd18).mono ?_
        rintro e w8 ⟨rfl, hb8⟩
        have hne := numOf_eq y (rangeOf kk).1 (rangeOf kk).2.1 (digitsOf kk)
        have HX8 := Lib.hid (HXr.out.below hb8); have HT8 := Lib.hid ((hb8.block w.heap.size (by omega)).trans HTr.out); have Hb8 := Lib.hid (Hbr.out.trans (hb8.mono Hbr.out.size))
        clear hb8 HXr HTr Hbr cy hcx hfx
        cases hnb : numB y (rangeOf kk).1 (rangeOf kk).2.1 (digitsOf kk) with
        | false =>
          rw [hnb, if_neg (by simp)] at hne
          have hna := Hst.out.1 hne
          clear hne hnb
          have hno : readOf (nm :: rest) = none := read_noargs Hk.out hna
          have Hno := Lib.hid hno; clear hno
          go_wp2_with (refine wpL_store_op (nm := []) (a0 := 0) (a1 := 0) (a2 := 0) (a3 := 0) (a4 := 0) (rel := 0) (tg := 0) (wt := 0) HT8.out rfl rfl (.tmp 2) (.tmp 66) rfl rfl rfl ?_)
          exact bodyPost_ret (ret_opd_tmp rfl rfl rfl (opd_stored HT8.out)) rfl ⟨by rw [Hno.out]; rfl, below_stored Hb8.out (Nat.le_refl _)⟩
        | true =>
          rw [hnb, if_pos rfl] at hne
          have hnx := Hst.out.2 _ hne
          have hcx := HX8.out.cell (by rw [Hvl.out]; omega) i hi5
          have hfx := obj_free HX8.out (1 + i)
          have hs := HX8.out.store (by rw [Hvl.out]; exact hi5) (parN y (digitsOf kk))
          rw [Hvl.out] at hs
          have Hs := Lib.hid hs; have Hnx := Lib.hid hnx
          clear hs hnx hne hnb Hst
          generalize parN y (digitsOf kk) = pn at *
          go_wp2_with fail
          go_roundw
          case rel => exact ⟨i + 1, vals ++ [pn], by omega, by rw [List.length_append, Hvl.out]; rfl, by go_num, Hnx.out, Hs.out, obj_other HT8.out ⟨w.heap.size + 1, 1 + i, none⟩ (by show w.heap.size + 1 ≠ w.heap.size; omega) _, Hb8.out.setCell (p := ⟨w.heap.size + 1, 1 + i, none⟩) (by show w.heap.size ≤ w.heap.size + 1; omega) _⟩
          case measure => simp [intOf]; omega
      · obtain rfl : i = ks.length := by omega
        have hread := read_of Hk.out Hspec.out
        obtain ⟨a0, a1, a2, a3, a4, h5'⟩ := five (pad5_len (done := vals) (by rw [Hvl.out]; omega))
        have hx6 : wr.heap[w.heap.size + 1]? = some (.cells #[.string (bs nm), .int .i64 a0, .int .i64 a1, .int .i64 a2, .int .i64 a3, .int .i64 a4, .int .i64 0, .int .i64 0, .int .i64 0] 50 (0, 0)) := by
          have := HXr.out
          unfold XB xCells at this
          rw [h5'] at this
          exact this
        rw [h5'] at hread
        obtain ⟨r, t, tl, htl⟩ : ∃ r t tl, rest.drop ks.length = r :: t :: tl := by
          have hdl : (rest.drop ks.length).length = rest.length - ks.length := List.length_drop
          match hd : rest.drop ks.length with
          | [] => rw [hd] at hdl; simp at hdl; omega
          | [a] => rw [hd] at hdl; simp at hdl; omega
          | a :: b :: l => exact ⟨a, b, l, rfl⟩
        rw [htl] at hread
        have hrl : rest.length = ks.length + 2 + tl.length := by
          have hdl : (rest.drop ks.length).length = rest.length - ks.length := List.length_drop
          rw [htl] at hdl; simp at hdl; omega
        have hat : ∀ j y, (r :: t :: tl)[j]? = some y → wr.cell? ⟨g, ks.length + 1 + j, none⟩ = some (.string (bs y)) ∧ y.length ≤ 5000 := by
          intro j y hj
          rw [← htl, List.getElem?_drop] at hj
          refine ⟨?_, Hl.out y (List.mem_cons_of_mem _ (List.mem_of_getElem? hj))⟩
          rw [Hbr.out.cell (p := ⟨g, ks.length + 1 + j, none⟩) hg]
          exact Hc.out (ks.length + 1 + j) y (by rw [show ks.length + 1 + j = (ks.length + j) + 1 by omega]; simpa using hj)
        obtain ⟨cr, hrlen⟩ := hat 0 r rfl
        have Hread := Lib.hid hread; have Hx6 := Lib.hid hx6; have Hat := Lib.hid hat; have Hrl := Lib.hid hrl
        clear hread hx6 hat hrl htl Hspec HXr h5'
        have cr' : wr.cell? ⟨g, ks.length + 1, none⟩ = some (.string (bs r)) := cr
        clear cr
        have c6 : wr.cell? ⟨w.heap.size + 1, 6, none⟩ = some (.int .i64 0) := obj_cell Hx6.out 6
        have f6 := obj_free Hx6.out 6
        have hrc : r = [61] ∨ (r ≠ [61] ∧ r = [60]) ∨ (r ≠ [61] ∧ r ≠ [60] ∧ r = [62]) ∨ (r ≠ [61] ∧ r ≠ [60] ∧ r ≠ [62]) := by
          by_cases q1 : r = [61]
          · exact Or.inl q1
          · by_cases q2 : r = [60]
            · exact Or.inr (Or.inl ⟨q1, q2⟩)
            · by_cases q3 : r = [62]
              · exact Or.inr (Or.inr (Or.inl ⟨q1, q2, q3⟩))
              · exact Or.inr (Or.inr (Or.inr ⟨q1, q2, q3⟩))
        have e3 : (ks.length : Int) + 3 - 2 = ((ks.length + 1 : Nat) : Int) := by omega
        have hatw : ∀ wx : World, Below w.heap.size w wx → ∀ j y, (r :: t :: tl)[j]? = some y → wx.cell? ⟨g, ks.length + 1 + j, none⟩ = some (.string (bs y)) ∧ y.length ≤ 5000 := by
          intro wx hbx j y hj
          have h1 := Hat.out j y hj
          refine ⟨?_, h1.2⟩
          rw [hbx.cell (p := ⟨g, ks.length + 1 + j, none⟩) hg, ← Hbr.out.cell (p := ⟨g, ks.length + 1 + j, none⟩) hg]
          exact h1.1
        have Hatw := Lib.hid hatw
        clear hatw Hat
        rcases hrc with q1 | ⟨q1, q2⟩ | ⟨q1, q2, q3⟩ | ⟨q1, q2, q3⟩
        · have g1 : (r == [61]) = true := by rw [q1]; rfl
          have hrk : relOf r = some 1 := by rw [q1]; rfl
          have hrl := Hrl.out
          have Hrk := Lib.hid hrk; clear hrk
          go_upto_region 22 with fail
          clear cr' c6 f6 q1
          have s1 := obj_setCell Hx6.out 6 (.int .i64 1)
          simp only [List.setIfInBounds_toArray, List.set_cons_zero, List.set_cons_succ] at s1
          have s2 := obj_other HTr.out ⟨w.heap.size + 1, 6, none⟩ (by show w.heap.size + 1 ≠ w.heap.size; omega) (.int .i64 1)
          have s3 := Hbr.out.setCell (p := ⟨w.heap.size + 1, 6, none⟩) (by show w.heap.size ≤ w.heap.size + 1; omega) (.int .i64 1)
          refine step_world (fun wx => OpdB wx (w.heap.size + 1) nm a0 a1 a2 a3 a4 1 0 0 ∧ wx.heap[w.heap.size]? = some (.cells #[.string { data := #[] }, .int .i64 0, .int .i64 0, .int .i64 0, .int .i64 0, .int .i64 0, .int .i64 0, .int .i64 0, .int .i64 0] 50) ∧ Below w.heap.size w wx) ⟨s1, s2, s3⟩ ?_
          clear s1 s2 s3
          rintro w7 ⟨x', t', b'⟩
          have HX7 := Lib.hid x'; have HT7 := Lib.hid t'; have Hb7 := Lib.hid b'
          clear x' t' b'
          have hl7 := lt_of_block HX7.out
          have d6 : w7.cell? ⟨w.heap.size + 1, 6, none⟩ = some (.int .i64 1) := obj_cell HX7.out 6
          by_cases htl : tl.length = 1
          · have hne : ((rest.length : Int) + 1 != (ks.length : Int) + 3 + 1) = false := by rw [bne_eq_false_iff_eq]; omega
            obtain ⟨ct, hlt⟩ := Hatw.out w7 Hb7.out 1 t rfl
            have ct' : w7.cell? ⟨g, ks.length + 2, none⟩ = some (.string (bs t)) := ct
            clear ct
            obtain ⟨y, rfl⟩ : ∃ y, tl = [y] := by
              match tl, htl with
              | [y], _ => exact ⟨y, rfl⟩
            go_wp2_with fail
            refine (number33_any t (-1000000000000) 1000000000000 6 w7 hlt (by omega)).mono ?_
            rintro e w8 ⟨rfl, hb8⟩
            have hnt := numOf_eq t (-1000000000000) 1000000000000 6
            have HX8 := Lib.hid ((hb8.block (w.heap.size + 1) hl7).trans HX7.out); have HT8 := Lib.hid ((hb8.block w.heap.size (by omega)).trans HT7.out); have Hb8 := Lib.hid (Hb7.out.trans (hb8.mono (by omega)))
            have hs8 := hb8.size
            clear hb8 d6 ct' HX7 HT7 Hb7
            have d7 : w8.cell? ⟨w.heap.size + 1, 7, none⟩ = some (.int .i64 0) := obj_cell HX8.out 7
            have f7 := obj_free HX8.out 7
            generalize parN t 6 = pn at *
            cases hnb : numB t (-1000000000000) 1000000000000 6 with
            | false =>
              rw [hnb, if_neg (by simp)] at hnt
              have Hnt := Lib.hid hnt; clear hnt hnb
              go_upto_region 26 with fail
              clear d7 f7
              have s1 := obj_setCell HX8.out 7 (.int .i64 pn)
              simp only [List.setIfInBounds_toArray, List.set_cons_zero, List.set_cons_succ] at s1
              have s2 := obj_other HT8.out ⟨w.heap.size + 1, 7, none⟩ (by show w.heap.size + 1 ≠ w.heap.size; omega) (.int .i64 pn)
              have s3 := Hb8.out.setCell (p := ⟨w.heap.size + 1, 7, none⟩) (by show w.heap.size ≤ w.heap.size + 1; omega) (.int .i64 pn)
              refine step_world (fun wx => OpdB wx (w.heap.size + 1) nm a0 a1 a2 a3 a4 1 pn 0 ∧ wx.heap[w.heap.size]? = some (.cells #[.string { data := #[] }, .int .i64 0, .int .i64 0, .int .i64 0, .int .i64 0, .int .i64 0, .int .i64 0, .int .i64 0, .int .i64 0] 50) ∧ Below w.heap.size w wx) ⟨s1, s2, s3⟩ ?_
              clear s1 s2 s3
              rintro w9 ⟨x', t', b'⟩
              have HX9 := Lib.hid x'; have HT9 := Lib.hid t'; have Hb9 := Lib.hid b'
              clear x' t' b'
              have d6 : w9.cell? ⟨w.heap.size + 1, 6, none⟩ = some (.int .i64 1) := obj_cell HX9.out 6
              have hno : readOf (nm :: rest) = none := by rw [Hread.out]; unfold tailOf; simp only [Hrk.out, Hnt.out]; rfl
              have Hno := Lib.hid hno; clear hno
              go_wp2_with (refine wpL_store_op (nm := []) (a0 := 0) (a1 := 0) (a2 := 0) (a3 := 0) (a4 := 0) (rel := 0) (tg := 0) (wt := 0) HT9.out rfl rfl (.tmp 2) (.tmp 128) rfl rfl rfl ?_)
              exact bodyPost_ret (ret_opd_tmp rfl rfl rfl (opd_stored HT9.out)) rfl ⟨by rw [Hno.out]; rfl, below_stored Hb9.out (Nat.le_refl _)⟩
            | true =>
              rw [hnb, if_pos rfl] at hnt
              have Hnt := Lib.hid hnt; clear hnt hnb
              go_upto_region 26 with fail
              clear d7 f7
              have s1 := obj_setCell HX8.out 7 (.int .i64 pn)
              simp only [List.setIfInBounds_toArray, List.set_cons_zero, List.set_cons_succ] at s1
              have s2 := obj_other HT8.out ⟨w.heap.size + 1, 7, none⟩ (by show w.heap.size + 1 ≠ w.heap.size; omega) (.int .i64 pn)
              have s3 := Hb8.out.setCell (p := ⟨w.heap.size + 1, 7, none⟩) (by show w.heap.size ≤ w.heap.size + 1; omega) (.int .i64 pn)
              refine step_world (fun wx => OpdB wx (w.heap.size + 1) nm a0 a1 a2 a3 a4 1 pn 0 ∧ wx.heap[w.heap.size]? = some (.cells #[.string { data := #[] }, .int .i64 0, .int .i64 0, .int .i64 0, .int .i64 0, .int .i64 0, .int .i64 0, .int .i64 0, .int .i64 0] 50) ∧ Below w.heap.size w wx) ⟨s1, s2, s3⟩ ?_
              clear s1 s2 s3
              rintro w9 ⟨x', t', b'⟩
              have HX9 := Lib.hid x'; have HT9 := Lib.hid t'; have Hb9 := Lib.hid b'
              clear x' t' b'
              have d6 : w9.cell? ⟨w.heap.size + 1, 6, none⟩ = some (.int .i64 1) := obj_cell HX9.out 6
              have hl9 := lt_of_block HX9.out
              obtain ⟨cy, hly⟩ := Hatw.out w9 Hb9.out 2 y rfl
              have cy' : w9.cell? ⟨g, ks.length + 3, none⟩ = some (.string (bs y)) := cy
              clear cy
              have e4 : (ks.length : Int) + 3 + 1 - 1 = ((ks.length + 3 : Nat) : Int) := by omega
              go_wp2_with fail
              refine (number33_any y 1 1000 0 w9 hly (by omega)).mono ?_
              rintro e wA ⟨rfl, hbA⟩
              have hny := numOf_eq y 1 1000 0
              have HXA := Lib.hid ((hbA.block (w.heap.size + 1) hl9).trans HX9.out); have HTA := Lib.hid ((hbA.block w.heap.size (by omega)).trans HT9.out); have HbA := Lib.hid (Hb9.out.trans (hbA.mono (by omega)))
              clear hbA d6 cy' HX9 HT9 Hb9
              have d8 : wA.cell? ⟨w.heap.size + 1, 8, none⟩ = some (.int .i64 0) := obj_cell HXA.out 8
              have f8 := obj_free HXA.out 8
              generalize parN y 0 = pm at *
              cases hmb : numB y 1 1000 0 with
              | false =>
                rw [hmb, if_neg (by simp)] at hny
                have Hny := Lib.hid hny; clear hny hmb
                go_upto_region 29 with fail
                clear d8 f8
                have s1 := obj_setCell HXA.out 8 (.int .i64 pm)
                simp only [List.setIfInBounds_toArray, List.set_cons_zero, List.set_cons_succ] at s1
                have s2 := obj_other HTA.out ⟨w.heap.size + 1, 8, none⟩ (by show w.heap.size + 1 ≠ w.heap.size; omega) (.int .i64 pm)
                have s3 := HbA.out.setCell (p := ⟨w.heap.size + 1, 8, none⟩) (by show w.heap.size ≤ w.heap.size + 1; omega) (.int .i64 pm)
                refine step_world (fun wx => OpdB wx (w.heap.size + 1) nm a0 a1 a2 a3 a4 1 pn pm ∧ wx.heap[w.heap.size]? = some (.cells #[.string { data := #[] }, .int .i64 0, .int .i64 0, .int .i64 0, .int .i64 0, .int .i64 0, .int .i64 0, .int .i64 0, .int .i64 0] 50) ∧ Below w.heap.size w wx) ⟨s1, s2, s3⟩ ?_
                clear s1 s2 s3
                rintro wB ⟨x', t', b'⟩
                have HXB := Lib.hid x'; have HTB := Lib.hid t'; have HbB := Lib.hid b'
                clear x' t' b'
                have hno : readOf (nm :: rest) = none := by rw [Hread.out]; unfold tailOf; simp only [Hrk.out, Hnt.out, Hny.out]; rfl
                have Hno := Lib.hid hno; clear hno
                go_wp2_with (refine wpL_store_op (nm := []) (a0 := 0) (a1 := 0) (a2 := 0) (a3 := 0) (a4 := 0) (rel := 0) (tg := 0) (wt := 0) HTB.out rfl rfl (.tmp 2) (.tmp 128) rfl rfl rfl ?_)
                exact bodyPost_ret (ret_opd_tmp rfl rfl rfl (opd_stored HTB.out)) rfl ⟨by rw [Hno.out]; rfl, below_stored HbB.out (Nat.le_refl _)⟩
              | true =>
                rw [hmb, if_pos rfl] at hny
                have Hny := Lib.hid hny; clear hny hmb
                go_upto_region 29 with fail
                clear d8 f8
                have s1 := obj_setCell HXA.out 8 (.int .i64 pm)
                simp only [List.setIfInBounds_toArray, List.set_cons_zero, List.set_cons_succ] at s1
                have s2 := obj_other HTA.out ⟨w.heap.size + 1, 8, none⟩ (by show w.heap.size + 1 ≠ w.heap.size; omega) (.int .i64 pm)
                have s3 := HbA.out.setCell (p := ⟨w.heap.size + 1, 8, none⟩) (by show w.heap.size ≤ w.heap.size + 1; omega) (.int .i64 pm)
                refine step_world (fun wx => OpdB wx (w.heap.size + 1) nm a0 a1 a2 a3 a4 1 pn pm ∧ wx.heap[w.heap.size]? = some (.cells #[.string { data := #[] }, .int .i64 0, .int .i64 0, .int .i64 0, .int .i64 0, .int .i64 0, .int .i64 0, .int .i64 0, .int .i64 0] 50) ∧ Below w.heap.size w wx) ⟨s1, s2, s3⟩ ?_
                clear s1 s2 s3
                rintro wB ⟨x', t', b'⟩
                have HXB := Lib.hid x'; have HTB := Lib.hid t'; have HbB := Lib.hid b'
                clear x' t' b'
                have hyes : readOf (nm :: rest) = some ⟨nm, [a0, a1, a2, a3, a4], 1, pn, pm⟩ := by rw [Hread.out]; unfold tailOf; simp only [Hrk.out, Hnt.out, Hny.out]; rfl
                have Hyes := Lib.hid hyes; clear hyes
                have hrg : wB.rangeAt (w.heap.size + 1) 0 (opCells ⟨nm, [a0, a1, a2, a3, a4], 1, pn, pm⟩ a0 a1 a2 a3 a4) := by
                  intro j v hv
                  rw [Nat.zero_add, obj_cell HXB.out j]
                  simpa [opCells] using hv
                have Hrg := Lib.hid hrg; clear hrg
                go_wp2_with (first
                  | (refine wpL_load_op Hrg.out rfl (.tmp 4) rfl rfl ?_)
                  | (refine wpL_store_op (nm := nm) (a0 := a0) (a1 := a1) (a2 := a2) (a3 := a3) (a4 := a4) (rel := 1) (tg := pn) (wt := pm) HTB.out rfl rfl (.tmp 2) (.tmp 129) rfl rfl rfl ?_))
                exact bodyPost_ret (ret_opd_tmp rfl rfl rfl (opd_stored HTB.out)) rfl ⟨by rw [Hyes.out]; rfl, below_stored HbB.out (Nat.le_refl _)⟩
          · have hne : ((rest.length : Int) + 1 != (ks.length : Int) + 3 + 1) = true := by rw [bne_iff_ne]; omega
            have hno : readOf (nm :: rest) = none := by
              rw [Hread.out]; unfold tailOf
              match tl, htl with
              | [], _ => simp only [Hrk.out]; cases numOf t (-1000000000000) 1000000000000 6 <;> rfl
              | a :: b :: l', _ => simp only [Hrk.out]; cases numOf t (-1000000000000) 1000000000000 6 <;> rfl
            have Hno := Lib.hid hno; clear hno
            go_wp2_with (refine wpL_store_op (nm := []) (a0 := 0) (a1 := 0) (a2 := 0) (a3 := 0) (a4 := 0) (rel := 0) (tg := 0) (wt := 0) HT7.out rfl rfl (.tmp 2) (.tmp 96) rfl rfl rfl ?_)
            exact bodyPost_ret (ret_opd_tmp rfl rfl rfl (opd_stored HT7.out)) rfl ⟨by rw [Hno.out]; rfl, below_stored Hb7.out (Nat.le_refl _)⟩
        · have g1 : (r == [61]) = false := by simpa using q1
          have g2 : (r == [60]) = true := by rw [q2]; rfl
          have hrk : relOf r = some 2 := by rw [q2]; rfl
          have hrl := Hrl.out
          have Hrk := Lib.hid hrk; clear hrk
          go_upto_region 22 with fail
          clear cr' c6 f6 q1 q2
          have s1 := obj_setCell Hx6.out 6 (.int .i64 2)
          simp only [List.setIfInBounds_toArray, List.set_cons_zero, List.set_cons_succ] at s1
          have s2 := obj_other HTr.out ⟨w.heap.size + 1, 6, none⟩ (by show w.heap.size + 1 ≠ w.heap.size; omega) (.int .i64 2)
          have s3 := Hbr.out.setCell (p := ⟨w.heap.size + 1, 6, none⟩) (by show w.heap.size ≤ w.heap.size + 1; omega) (.int .i64 2)
          refine step_world (fun wx => OpdB wx (w.heap.size + 1) nm a0 a1 a2 a3 a4 2 0 0 ∧ wx.heap[w.heap.size]? = some (.cells #[.string { data := #[] }, .int .i64 0, .int .i64 0, .int .i64 0, .int .i64 0, .int .i64 0, .int .i64 0, .int .i64 0, .int .i64 0] 50) ∧ Below w.heap.size w wx) ⟨s1, s2, s3⟩ ?_
          clear s1 s2 s3
          rintro w7 ⟨x', t', b'⟩
          have HX7 := Lib.hid x'; have HT7 := Lib.hid t'; have Hb7 := Lib.hid b'
          clear x' t' b'
          have hl7 := lt_of_block HX7.out
          have d6 : w7.cell? ⟨w.heap.size + 1, 6, none⟩ = some (.int .i64 2) := obj_cell HX7.out 6
          by_cases htl : tl.length = 0
          · have hne : ((rest.length : Int) + 1 != (ks.length : Int) + 3) = false := by rw [bne_eq_false_iff_eq]; omega
            obtain ⟨ct, hlt⟩ := Hatw.out w7 Hb7.out 1 t rfl
            have ct' : w7.cell? ⟨g, ks.length + 2, none⟩ = some (.string (bs t)) := ct
            clear ct
            obtain rfl : tl = [] := List.length_eq_zero_iff.1 htl
            go_wp2_with fail
            refine (number33_any t (-1000000000000) 1000000000000 6 w7 hlt (by omega)).mono ?_
            rintro e w8 ⟨rfl, hb8⟩
            have hnt := numOf_eq t (-1000000000000) 1000000000000 6
            have HX8 := Lib.hid ((hb8.block (w.heap.size + 1) hl7).trans HX7.out); have HT8 := Lib.hid ((hb8.block w.heap.size (by omega)).trans HT7.out); have Hb8 := Lib.hid (Hb7.out.trans (hb8.mono (by omega)))
            have hs8 := hb8.size
            clear hb8 d6 ct' HX7 HT7 Hb7
            have d7 : w8.cell? ⟨w.heap.size + 1, 7, none⟩ = some (.int .i64 0) := obj_cell HX8.out 7
            have f7 := obj_free HX8.out 7
            generalize parN t 6 = pn at *
            cases hnb : numB t (-1000000000000) 1000000000000 6 with
            | false =>
              rw [hnb, if_neg (by simp)] at hnt
              have Hnt := Lib.hid hnt; clear hnt hnb
              go_upto_region 26 with fail
              clear d7 f7
              have s1 := obj_setCell HX8.out 7 (.int .i64 pn)
              simp only [List.setIfInBounds_toArray, List.set_cons_zero, List.set_cons_succ] at s1
              have s2 := obj_other HT8.out ⟨w.heap.size + 1, 7, none⟩ (by show w.heap.size + 1 ≠ w.heap.size; omega) (.int .i64 pn)
              have s3 := Hb8.out.setCell (p := ⟨w.heap.size + 1, 7, none⟩) (by show w.heap.size ≤ w.heap.size + 1; omega) (.int .i64 pn)
              refine step_world (fun wx => OpdB wx (w.heap.size + 1) nm a0 a1 a2 a3 a4 2 pn 0 ∧ wx.heap[w.heap.size]? = some (.cells #[.string { data := #[] }, .int .i64 0, .int .i64 0, .int .i64 0, .int .i64 0, .int .i64 0, .int .i64 0, .int .i64 0, .int .i64 0] 50) ∧ Below w.heap.size w wx) ⟨s1, s2, s3⟩ ?_
              clear s1 s2 s3
              rintro w9 ⟨x', t', b'⟩
              have HX9 := Lib.hid x'; have HT9 := Lib.hid t'; have Hb9 := Lib.hid b'
              clear x' t' b'
              have d6 : w9.cell? ⟨w.heap.size + 1, 6, none⟩ = some (.int .i64 2) := obj_cell HX9.out 6
              have hno : readOf (nm :: rest) = none := by rw [Hread.out]; unfold tailOf; simp only [Hrk.out, Hnt.out]; rfl
              have Hno := Lib.hid hno; clear hno
              go_wp2_with (refine wpL_store_op (nm := []) (a0 := 0) (a1 := 0) (a2 := 0) (a3 := 0) (a4 := 0) (rel := 0) (tg := 0) (wt := 0) HT9.out rfl rfl (.tmp 2) (.tmp 128) rfl rfl rfl ?_)
              exact bodyPost_ret (ret_opd_tmp rfl rfl rfl (opd_stored HT9.out)) rfl ⟨by rw [Hno.out]; rfl, below_stored Hb9.out (Nat.le_refl _)⟩
            | true =>
              rw [hnb, if_pos rfl] at hnt
              have Hnt := Lib.hid hnt; clear hnt hnb
              go_upto_region 26 with fail
              clear d7 f7
              have s1 := obj_setCell HX8.out 7 (.int .i64 pn)
              simp only [List.setIfInBounds_toArray, List.set_cons_zero, List.set_cons_succ] at s1
              have s2 := obj_other HT8.out ⟨w.heap.size + 1, 7, none⟩ (by show w.heap.size + 1 ≠ w.heap.size; omega) (.int .i64 pn)
              have s3 := Hb8.out.setCell (p := ⟨w.heap.size + 1, 7, none⟩) (by show w.heap.size ≤ w.heap.size + 1; omega) (.int .i64 pn)
              refine step_world (fun wx => OpdB wx (w.heap.size + 1) nm a0 a1 a2 a3 a4 2 pn 0 ∧ wx.heap[w.heap.size]? = some (.cells #[.string { data := #[] }, .int .i64 0, .int .i64 0, .int .i64 0, .int .i64 0, .int .i64 0, .int .i64 0, .int .i64 0, .int .i64 0] 50) ∧ Below w.heap.size w wx) ⟨s1, s2, s3⟩ ?_
              clear s1 s2 s3
              rintro w9 ⟨x', t', b'⟩
              have HX9 := Lib.hid x'; have HT9 := Lib.hid t'; have Hb9 := Lib.hid b'
              clear x' t' b'
              have d6 : w9.cell? ⟨w.heap.size + 1, 6, none⟩ = some (.int .i64 2) := obj_cell HX9.out 6
              have hyes : readOf (nm :: rest) = some ⟨nm, [a0, a1, a2, a3, a4], 2, pn, 0⟩ := by rw [Hread.out]; unfold tailOf; simp only [Hrk.out, Hnt.out]; rfl
              have Hyes := Lib.hid hyes; clear hyes
              have hrg : w9.rangeAt (w.heap.size + 1) 0 (opCells ⟨nm, [a0, a1, a2, a3, a4], 2, pn, 0⟩ a0 a1 a2 a3 a4) := by
                intro j v hv
                rw [Nat.zero_add, obj_cell HX9.out j]
                simpa [opCells] using hv
              have Hrg := Lib.hid hrg; clear hrg
              go_wp2_with (first
                | (refine wpL_load_op Hrg.out rfl (.tmp 4) rfl rfl ?_)
                | (refine wpL_store_op (nm := nm) (a0 := a0) (a1 := a1) (a2 := a2) (a3 := a3) (a4 := a4) (rel := 2) (tg := pn) (wt := 0) HT9.out rfl rfl (.tmp 2) (.tmp 129) rfl rfl rfl ?_))
              exact bodyPost_ret (ret_opd_tmp rfl rfl rfl (opd_stored HT9.out)) rfl ⟨by rw [Hyes.out]; rfl, below_stored Hb9.out (Nat.le_refl _)⟩
          · have hne : ((rest.length : Int) + 1 != (ks.length : Int) + 3) = true := by rw [bne_iff_ne]; omega
            have hno : readOf (nm :: rest) = none := by
              rw [Hread.out]; unfold tailOf
              match tl, htl with
              | [a], _ => simp only [Hrk.out]; cases numOf t (-1000000000000) 1000000000000 6 <;> rfl
              | a :: b :: l', _ => simp only [Hrk.out]; cases numOf t (-1000000000000) 1000000000000 6 <;> rfl
            have Hno := Lib.hid hno; clear hno
            go_wp2_with (refine wpL_store_op (nm := []) (a0 := 0) (a1 := 0) (a2 := 0) (a3 := 0) (a4 := 0) (rel := 0) (tg := 0) (wt := 0) HT7.out rfl rfl (.tmp 2) (.tmp 96) rfl rfl rfl ?_)
            exact bodyPost_ret (ret_opd_tmp rfl rfl rfl (opd_stored HT7.out)) rfl ⟨by rw [Hno.out]; rfl, below_stored Hb7.out (Nat.le_refl _)⟩
        · have g1 : (r == [61]) = false := by simpa using q1
          have g2 : (r == [60]) = false := by simpa using q2
          have g3 : (r == [62]) = true := by rw [q3]; rfl
          have hrk : relOf r = some 3 := by rw [q3]; rfl
          have hrl := Hrl.out
          have Hrk := Lib.hid hrk; clear hrk
          go_upto_region 22 with fail
          clear cr' c6 f6 q1 q2 q3
          have s1 := obj_setCell Hx6.out 6 (.int .i64 3)
          simp only [List.setIfInBounds_toArray, List.set_cons_zero, List.set_cons_succ] at s1
          have s2 := obj_other HTr.out ⟨w.heap.size + 1, 6, none⟩ (by show w.heap.size + 1 ≠ w.heap.size; omega) (.int .i64 3)
          have s3 := Hbr.out.setCell (p := ⟨w.heap.size + 1, 6, none⟩) (by show w.heap.size ≤ w.heap.size + 1; omega) (.int .i64 3)
          refine step_world (fun wx => OpdB wx (w.heap.size + 1) nm a0 a1 a2 a3 a4 3 0 0 ∧ wx.heap[w.heap.size]? = some (.cells #[.string { data := #[] }, .int .i64 0, .int .i64 0, .int .i64 0, .int .i64 0, .int .i64 0, .int .i64 0, .int .i64 0, .int .i64 0] 50) ∧ Below w.heap.size w wx) ⟨s1, s2, s3⟩ ?_
          clear s1 s2 s3
          rintro w7 ⟨x', t', b'⟩
          have HX7 := Lib.hid x'; have HT7 := Lib.hid t'; have Hb7 := Lib.hid b'
          clear x' t' b'
          have hl7 := lt_of_block HX7.out
          have d6 : w7.cell? ⟨w.heap.size + 1, 6, none⟩ = some (.int .i64 3) := obj_cell HX7.out 6
          by_cases htl : tl.length = 0
          · have hne : ((rest.length : Int) + 1 != (ks.length : Int) + 3) = false := by rw [bne_eq_false_iff_eq]; omega
            obtain ⟨ct, hlt⟩ := Hatw.out w7 Hb7.out 1 t rfl
            have ct' : w7.cell? ⟨g, ks.length + 2, none⟩ = some (.string (bs t)) := ct
            clear ct
            obtain rfl : tl = [] := List.length_eq_zero_iff.1 htl
            go_wp2_with fail
            refine (number33_any t (-1000000000000) 1000000000000 6 w7 hlt (by omega)).mono ?_
            rintro e w8 ⟨rfl, hb8⟩
            have hnt := numOf_eq t (-1000000000000) 1000000000000 6
            have HX8 := Lib.hid ((hb8.block (w.heap.size + 1) hl7).trans HX7.out); have HT8 := Lib.hid ((hb8.block w.heap.size (by omega)).trans HT7.out); have Hb8 := Lib.hid (Hb7.out.trans (hb8.mono (by omega)))
            have hs8 := hb8.size
            clear hb8 d6 ct' HX7 HT7 Hb7
            have d7 : w8.cell? ⟨w.heap.size + 1, 7, none⟩ = some (.int .i64 0) := obj_cell HX8.out 7
            have f7 := obj_free HX8.out 7
            generalize parN t 6 = pn at *
            cases hnb : numB t (-1000000000000) 1000000000000 6 with
            | false =>
              rw [hnb, if_neg (by simp)] at hnt
              have Hnt := Lib.hid hnt; clear hnt hnb
              go_upto_region 26 with fail
              clear d7 f7
              have s1 := obj_setCell HX8.out 7 (.int .i64 pn)
              simp only [List.setIfInBounds_toArray, List.set_cons_zero, List.set_cons_succ] at s1
              have s2 := obj_other HT8.out ⟨w.heap.size + 1, 7, none⟩ (by show w.heap.size + 1 ≠ w.heap.size; omega) (.int .i64 pn)
              have s3 := Hb8.out.setCell (p := ⟨w.heap.size + 1, 7, none⟩) (by show w.heap.size ≤ w.heap.size + 1; omega) (.int .i64 pn)
              refine step_world (fun wx => OpdB wx (w.heap.size + 1) nm a0 a1 a2 a3 a4 3 pn 0 ∧ wx.heap[w.heap.size]? = some (.cells #[.string { data := #[] }, .int .i64 0, .int .i64 0, .int .i64 0, .int .i64 0, .int .i64 0, .int .i64 0, .int .i64 0, .int .i64 0] 50) ∧ Below w.heap.size w wx) ⟨s1, s2, s3⟩ ?_
              clear s1 s2 s3
              rintro w9 ⟨x', t', b'⟩
              have HX9 := Lib.hid x'; have HT9 := Lib.hid t'; have Hb9 := Lib.hid b'
              clear x' t' b'
              have d6 : w9.cell? ⟨w.heap.size + 1, 6, none⟩ = some (.int .i64 3) := obj_cell HX9.out 6
              have hno : readOf (nm :: rest) = none := by rw [Hread.out]; unfold tailOf; simp only [Hrk.out, Hnt.out]; rfl
              have Hno := Lib.hid hno; clear hno
              go_wp2_with (refine wpL_store_op (nm := []) (a0 := 0) (a1 := 0) (a2 := 0) (a3 := 0) (a4 := 0) (rel := 0) (tg := 0) (wt := 0) HT9.out rfl rfl (.tmp 2) (.tmp 128) rfl rfl rfl ?_)
              exact bodyPost_ret (ret_opd_tmp rfl rfl rfl (opd_stored HT9.out)) rfl ⟨by rw [Hno.out]; rfl, below_stored Hb9.out (Nat.le_refl _)⟩
            | true =>
              rw [hnb, if_pos rfl] at hnt
              have Hnt := Lib.hid hnt; clear hnt hnb
              go_upto_region 26 with fail
              clear d7 f7
              have s1 := obj_setCell HX8.out 7 (.int .i64 pn)
              simp only [List.setIfInBounds_toArray, List.set_cons_zero, List.set_cons_succ] at s1
              have s2 := obj_other HT8.out ⟨w.heap.size + 1, 7, none⟩ (by show w.heap.size + 1 ≠ w.heap.size; omega) (.int .i64 pn)
              have s3 := Hb8.out.setCell (p := ⟨w.heap.size + 1, 7, none⟩) (by show w.heap.size ≤ w.heap.size + 1; omega) (.int .i64 pn)
              refine step_world (fun wx => OpdB wx (w.heap.size + 1) nm a0 a1 a2 a3 a4 3 pn 0 ∧ wx.heap[w.heap.size]? = some (.cells #[.string { data := #[] }, .int .i64 0, .int .i64 0, .int .i64 0, .int .i64 0, .int .i64 0, .int .i64 0, .int .i64 0, .int .i64 0] 50) ∧ Below w.heap.size w wx) ⟨s1, s2, s3⟩ ?_
              clear s1 s2 s3
              rintro w9 ⟨x', t', b'⟩
              have HX9 := Lib.hid x'; have HT9 := Lib.hid t'; have Hb9 := Lib.hid b'
              clear x' t' b'
              have d6 : w9.cell? ⟨w.heap.size + 1, 6, none⟩ = some (.int .i64 3) := obj_cell HX9.out 6
              have hyes : readOf (nm :: rest) = some ⟨nm, [a0, a1, a2, a3, a4], 3, pn, 0⟩ := by rw [Hread.out]; unfold tailOf; simp only [Hrk.out, Hnt.out]; rfl
              have Hyes := Lib.hid hyes; clear hyes
              have hrg : w9.rangeAt (w.heap.size + 1) 0 (opCells ⟨nm, [a0, a1, a2, a3, a4], 3, pn, 0⟩ a0 a1 a2 a3 a4) := by
                intro j v hv
                rw [Nat.zero_add, obj_cell HX9.out j]
                simpa [opCells] using hv
              have Hrg := Lib.hid hrg; clear hrg
              go_wp2_with (first
                | (refine wpL_load_op Hrg.out rfl (.tmp 4) rfl rfl ?_)
                | (refine wpL_store_op (nm := nm) (a0 := a0) (a1 := a1) (a2 := a2) (a3 := a3) (a4 := a4) (rel := 3) (tg := pn) (wt := 0) HT9.out rfl rfl (.tmp 2) (.tmp 129) rfl rfl rfl ?_))
              exact bodyPost_ret (ret_opd_tmp rfl rfl rfl (opd_stored HT9.out)) rfl ⟨by rw [Hyes.out]; rfl, below_stored Hb9.out (Nat.le_refl _)⟩
          · have hne : ((rest.length : Int) + 1 != (ks.length : Int) + 3) = true := by rw [bne_iff_ne]; omega
            have hno : readOf (nm :: rest) = none := by
              rw [Hread.out]; unfold tailOf
              match tl, htl with
              | [a], _ => simp only [Hrk.out]; cases numOf t (-1000000000000) 1000000000000 6 <;> rfl
              | a :: b :: l', _ => simp only [Hrk.out]; cases numOf t (-1000000000000) 1000000000000 6 <;> rfl
            have Hno := Lib.hid hno; clear hno
            go_wp2_with (refine wpL_store_op (nm := []) (a0 := 0) (a1 := 0) (a2 := 0) (a3 := 0) (a4 := 0) (rel := 0) (tg := 0) (wt := 0) HT7.out rfl rfl (.tmp 2) (.tmp 96) rfl rfl rfl ?_)
            exact bodyPost_ret (ret_opd_tmp rfl rfl rfl (opd_stored HT7.out)) rfl ⟨by rw [Hno.out]; rfl, below_stored Hb7.out (Nat.le_refl _)⟩
        · have g1 : (r == [61]) = false := by simpa using q1
          have g2 : (r == [60]) = false := by simpa using q2
          have g3 : (r == [62]) = false := by simpa using q3
          have hrk : relOf r = none := by unfold relOf; rw [if_neg q1, if_neg q2, if_neg q3]
          have Hrk := Lib.hid hrk; clear hrk q1 q2 q3
          have hno : readOf (nm :: rest) = none := by rw [Hread.out]; unfold tailOf; simp only [Hrk.out]; rfl
          have Hno := Lib.hid hno; clear hno
          go_wp2_with (refine wpL_store_op (nm := []) (a0 := 0) (a1 := 0) (a2 := 0) (a3 := 0) (a4 := 0) (rel := 0) (tg := 0) (wt := 0) HTr.out rfl rfl (.tmp 2) (.tmp 96) rfl rfl rfl ?_)
          exact bodyPost_ret (ret_opd_tmp rfl rfl rfl (opd_stored HTr.out)) rfl ⟨by rw [Hno.out]; rfl, below_stored Hbr.out (Nat.le_refl _)⟩
end Go.Proofs.YtpicmhbjiaegpaaGreatDoor
