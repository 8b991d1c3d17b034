/-
  DERIVED. The walk of operand's reader: operand.
-/
import Derived.Test.YtpicmhbjiaegpaaGreatDoorGaf
import Derived.Laws.ByValue
namespace Go.Proofs.YtpicmhbjiaegpaaGreatDoor
open Go.RowKit

/-- an operand under way: its cells -/
def xCells (nm : List UInt8) (done : List Int) (rel tg wt : Int) : List Value := .string (bs nm) :: ((pad5 done).map (fun z => Value.int .i64 z) ++ [.int .i64 rel, .int .i64 tg, .int .i64 wt])
def XB (w : World) (b : Nat) (nm : List UInt8) (done : List Int) (rel tg wt : Int) : Prop := w.heap[b]? = some (.cells (xCells nm done rel tg wt).toArray 50 (0, 0))
theorem pad5_len {done : List Int} (h : done.length ≤ 5) : (pad5 done).length = 5 := by unfold pad5; simp; omega
theorem pad5_set {done : List Int} (h : done.length < 5) (n : Int) : (pad5 done).set done.length n = pad5 (done ++ [n]) := by
  unfold pad5
  rw [show 5 - done.length = (5 - (done ++ [n]).length) + 1 by simp; omega, List.replicate_succ, List.set_append_right _ _ (Nat.le_refl _), Nat.sub_self, List.set_cons_zero, List.append_assoc]; rfl
theorem xCells_set {nm : List UInt8} {done : List Int} (h : done.length < 5) (rel tg wt n : Int) : (xCells nm done rel tg wt).set (1 + done.length) (.int .i64 n) = xCells nm (done ++ [n]) rel tg wt := by
  unfold xCells
  rw [Nat.add_comm, List.set_cons_succ, List.set_append_left _ _ (by rw [List.length_map, pad5_len (by omega)]; exact h), ← List.map_set, pad5_set h]
theorem xCells_at {nm : List UInt8} {done : List Int} (h : done.length ≤ 5) (rel tg wt : Int) (i : Nat) (hi : i < 5) : (xCells nm done rel tg wt)[1 + i]? = some (.int .i64 ((pad5 done).getD i 0)) := by
  unfold xCells
  have hl := pad5_len h
  rw [Nat.add_comm, List.getElem?_cons_succ, List.getElem?_append_left (by rw [List.length_map, hl]; exact hi), List.getElem?_map, List.getD_eq_getElem?_getD, List.getElem?_eq_getElem (by omega)]; rfl
theorem XB.store {w : World} {b : Nat} {nm : List UInt8} {done : List Int} {rel tg wt : Int} (h : XB w b nm done rel tg wt) (hl : done.length < 5) (n : Int) : XB (w.setCell ⟨b, 1 + done.length, none⟩ (.int .i64 n)) b nm (done ++ [n]) rel tg wt := by
  have := obj_setCell h (1 + done.length) (.int .i64 n)
  rw [List.setIfInBounds_toArray, xCells_set hl] at this
  exact this
theorem XB.cell {w : World} {b : Nat} {nm : List UInt8} {done : List Int} {rel tg wt : Int} (h : XB w b nm done rel tg wt) (hl : done.length ≤ 5) (i : Nat) (hi : i < 5) : w.cell? ⟨b, 1 + i, none⟩ = some (.int .i64 ((pad5 done).getD i 0)) := by
  rw [obj_cell h (1 + i)]
  simpa using xCells_at hl rel tg wt i hi
theorem index_kV (ks : List Nat) (i : Nat) (hi : i < 5) (w : World) : (Instr.index 48 (kV ks) (.int .i64 (i : Int))).run Tryz.prog w = .ok (.int .i64 (ks.getD i 0 : Nat)) w := by
  have h := index_5 (ks.getD 0 0 : Nat) (ks.getD 1 0 : Nat) (ks.getD 2 0 : Nat) (ks.getD 3 0 : Nat) (ks.getD 4 0 : Nat) w
  have hw : i = 0 ∨ i = 1 ∨ i = 2 ∨ i = 3 ∨ i = 4 := by omega
  rcases hw with rfl | rfl | rfl | rfl | rfl
  · exact h.1
  · exact h.2.1
  · exact h.2.2.1
  · exact h.2.2.2.1
  · exact h.2.2.2.2

def opV (x : Opd) : Value := .agg #[.string (bs x.nm), .int .i64 (argAt x.ag 0), .int .i64 (argAt x.ag 1), .int .i64 (argAt x.ag 2), .int .i64 (argAt x.ag 3), .int .i64 (argAt x.ag 4), .int .i64 x.rel, .int .i64 x.tg, .int .i64 x.wt]
def OpP (w : World) (b : Nat) (e : Ending) (w' : World) (ws : List (List UInt8)) : Prop := But b w w' ∧ match readOf ws with
  | none => e = Mal
  | some x => e = .returned (opV x)
theorem opP_none {w w' : World} {b : Nat} {e : Ending} {ws : List (List UInt8)} (hn : readOf ws = none) (he : e = Mal) (h2 : But b w w') : OpP w b e w' ws := by
  unfold OpP; rw [hn]; exact ⟨h2, he⟩
theorem opP_some {w w' : World} {b : Nat} {e : Ending} {ws : List (List UInt8)} {x : Opd} (hn : readOf ws = some x) (he : e = .returned (opV x)) (h2 : But b w w') : OpP w b e w' ws := by
  unfold OpP; rw [hn]; exact ⟨h2, he⟩
theorem But.alloc {b : Nat} {w w' : World} (h : But b w w') (hb : b ≤ w'.heap.size) (o : Obj) : But b w (w'.alloc o) := h.trans (But.of_below ((Below.refl _ _).alloc (Nat.le_refl _) _) hb)
theorem But.below {b : Nat} {w w' w2 : World} (h : But b w w') (hb : b ≤ w'.heap.size) (h2 : Below w'.heap.size w' w2) : But b w w2 := h.trans (But.of_below h2 hb)
theorem But.setCell {b X : Nat} {w w' : World} (h : But b w w') (hX : w.heap.size ≤ X) (hb : b < w.heap.size) (j : Nat) (v : Value) : But b w (w'.setCell ⟨X, j, none⟩ v) :=
  ⟨h.bel.setCell (p := ⟨X, j, none⟩) (by show b ≤ X; omega) v, fun k hk hne => (Below.heap_setCell _ _ _ _ (fun e => by have e2 : k = X := e; omega)).trans (h.keep k hk hne), by simpa using h.size⟩

theorem readOf_noKind {nm : List UInt8} {ws : List (List UInt8)} (h : kindsOf nm = none) : readOf (nm :: ws) = none := by
  simp only [readOf, h]
theorem readOf_kind {nm : List UInt8} {ws : List (List UInt8)} {ks : List Nat} (h : kindsOf nm = some ks) : readOf (nm :: ws) = match argsOf ks ws with
    | none => none
    | some q => (tailOf q.2).map fun t => ⟨nm, pad5 q.1, t.1, t.2.1, t.2.2⟩ := by
  simp only [readOf, h]
  cases argsOf ks ws <;> rfl
theorem RdrB.setCell {w : World} {b X : Nat} {ws : List (List UInt8)} (h : RdrB w b ws) (hX : b < X) (j : Nat) (v : Value) : RdrB (w.setCell ⟨X, j, none⟩ v) b ws := by
  obtain ⟨a, n, c, h1, h2, h3⟩ := h
  exact ⟨a, n, c, (Below.heap_setCell _ _ _ _ (fun e => by have e2 : b = X := e; omega)).trans h1, h2.kept (fun k hk => Below.heap_setCell _ _ _ _ (fun e => by have e2 : k = X := e; omega)) (Nat.le_refl _), h3⟩
theorem XB.setCell {w : World} {X Y : Nat} {nm : List UInt8} {done : List Int} {rel tg wt : Int} (h : XB w X nm done rel tg wt) (hX : X ≠ Y) (j : Nat) (v : Value) : XB (w.setCell ⟨Y, j, none⟩ v) X nm done rel tg wt := (Below.heap_setCell _ _ _ _ (fun e => hX e)).trans h
theorem XB.but {w w' : World} {X b : Nat} {nm : List UInt8} {done : List Int} {rel tg wt : Int} (h : XB w X nm done rel tg wt) (hb : But b w w') (hne : X ≠ b) : XB w' X nm done rel tg wt := (hb.keep X (lt_of_block h) hne).trans h
theorem XB.below {w w' : World} {X : Nat} {nm : List UInt8} {done : List Int} {rel tg wt : Int} (h : XB w X nm done rel tg wt) (hb : Below w.heap.size w w') : XB w' X nm done rel tg wt := (hb.block X (lt_of_block h)).trans h

theorem ret_opd {fn : Func} {p : Tmp} {tmps : Array Value} {w : World} {g : Nat} {nm : List UInt8} {a0 a1 a2 a3 a4 rel tg wt : Int} (h : fn.results = #[.cell p 50]) (hp : tmps.getD p undef = .pointer (some ⟨g, 0, none⟩)) (hs : OpdB w g nm a0 a1 a2 a3 a4 rel tg wt) :
    (results fn tmps).run Tryz.prog w = .ok (.agg #[.string (bs nm), .int .i64 a0, .int .i64 a1, .int .i64 a2, .int .i64 a3, .int .i64 a4, .int .i64 rel, .int .i64 tg, .int .i64 wt]) w :=
  results_cell_row h tmps w g 50 _ (0, 0) _ hp hs Tryz.underlying50 rfl Tryz.infoOpd
abbrev W9 (w : World) (g : Nat) (nm : List UInt8) (a0 a1 a2 a3 a4 rel tg wt : Int) : World := (((((((((w.setCell ⟨g, 0, none⟩ (.string (bs nm))).setCell ⟨g, 1, none⟩ (.int .i64 a0)).setCell ⟨g, 2, none⟩ (.int .i64 a1)).setCell ⟨g, 3, none⟩ (.int .i64 a2)).setCell ⟨g, 4, none⟩ (.int .i64 a3)).setCell ⟨g, 5, none⟩ (.int .i64 a4)).setCell ⟨g, 6, none⟩ (.int .i64 rel)).setCell ⟨g, 7, none⟩ (.int .i64 tg)).setCell ⟨g, 8, none⟩ (.int .i64 wt))
theorem opd_stored {w : World} {g : Nat} {nm : List UInt8} {a0 a1 a2 a3 a4 rel tg wt : Int} {c0 c1 c2 c3 c4 c5 c6 c7 c8 : Value} (h : w.heap[g]? = some (.cells #[c0, c1, c2, c3, c4, c5, c6, c7, c8] 50 (0, 0))) : OpdB (W9 w g nm a0 a1 a2 a3 a4 rel tg wt) g nm a0 a1 a2 a3 a4 rel tg wt := by
  have h9 := (obj_setCell (obj_setCell (obj_setCell (obj_setCell (obj_setCell (obj_setCell (obj_setCell (obj_setCell (obj_setCell h 0 (.string (bs nm))) 1 (.int .i64 a0)) 2 (.int .i64 a1)) 3 (.int .i64 a2)) 4 (.int .i64 a3)) 5 (.int .i64 a4)) 6 (.int .i64 rel)) 7 (.int .i64 tg)) 8 (.int .i64 wt))
  simp only [List.setIfInBounds_toArray, List.set_cons_zero, List.set_cons_succ] at h9
  exact h9
theorem but_stored {b g : Nat} {w w' : World} {nm : List UInt8} {a0 a1 a2 a3 a4 rel tg wt : Int} (h : But b w w') (hg : w.heap.size ≤ g) (hb : b < w.heap.size) : But b w (W9 w' g nm a0 a1 a2 a3 a4 rel tg wt) := (But.setCell (But.setCell (But.setCell (But.setCell (But.setCell (But.setCell (But.setCell (But.setCell (But.setCell h hg hb 0 (.string (bs nm))) hg hb 1 (.int .i64 a0)) hg hb 2 (.int .i64 a1)) hg hb 3 (.int .i64 a2)) hg hb 4 (.int .i64 a3)) hg hb 5 (.int .i64 a4)) hg hb 6 (.int .i64 rel)) hg hb 7 (.int .i64 tg)) hg hb 8 (.int .i64 wt))
theorem opV_pad {nm : List UInt8} {done : List Int} {rel tg wt a0 a1 a2 a3 a4 : Int} (h : pad5 done = [a0, a1, a2, a3, a4]) : opV ⟨nm, pad5 done, rel, tg, wt⟩ = .agg #[.string (bs nm), .int .i64 a0, .int .i64 a1, .int .i64 a2, .int .i64 a3, .int .i64 a4, .int .i64 rel, .int .i64 tg, .int .i64 wt] := by
  unfold opV argAt; simp only [h]; rfl
theorem five {α : Type} {l : List α} (h : l.length = 5) : ∃ a b c d e, l = [a, b, c, d, e] := by
  match l, h with
  | [a, b, c, d, e], _ => exact ⟨a, b, c, d, e, rfl⟩
theorem relOf_len {w : List UInt8} (h : ¬ w.length = 1) : relOf w = none := by
  unfold relOf
  rw [if_neg (fun e => h (by rw [e]; rfl)), if_neg (fun e => h (by rw [e]; rfl)), if_neg (fun e => h (by rw [e]; rfl))]
theorem tailOf_norel {w : List UInt8} {ws : List (List UInt8)} (h : relOf w = none) : tailOf (w :: ws) = none := by
  cases ws with
  | nil => rfl
  | cons t ws => simp only [tailOf, h]
theorem But.cell {b : Nat} {w w' : World} (h : But b w w') {p : Addr} (hp : p.block < w.heap.size) (hne : p.block ≠ b) : w'.cell? p = w.cell? p := by
  simp only [World.cell?, h.keep _ hp hne]
set_option maxRecDepth 100000 in
set_option maxHeartbeats 3200000 in
theorem operand_any (ws : List (List UInt8)) (b : Nat) (w : World) (h : RdrB w b ws) (hg : GW w) (hb8 : 8 ≤ b) (hws : ∀ s ∈ ws, s.length ≤ 100000) :
    Calls Tryz.prog 59 #[.pointer (some ⟨b, 0, none⟩)] w fun e w' => OpP w b e w' ws := by
  have hlt := h.lt
  have H := Lib.hid h; have Hg := Lib.hid hg; clear h hg
  have hbut0 := But.alloc (But.refl b w) (Nat.le_of_lt hlt) (.cells #[.string { data := #[] }, .int .i64 0, .int .i64 0, .int .i64 0, .int .i64 0, .int .i64 0, .int .i64 0, .int .i64 0, .int .i64 0] 50)
  have hr0 := H.out.below ((Below.refl w.heap.size w).alloc (Nat.le_refl _) (.cells #[.string { data := #[] }, .int .i64 0, .int .i64 0, .int .i64 0, .int .i64 0, .int .i64 0, .int .i64 0, .int .i64 0, .int .i64 0] 50))
  have hsz0 : w.heap.size < (w.alloc (.cells #[.string { data := #[] }, .int .i64 0, .int .i64 0, .int .i64 0, .int .i64 0, .int .i64 0, .int .i64 0, .int .i64 0, .int .i64 0] 50)).heap.size := by simp
  have hob0 := heap_alloc_new w (.cells #[.string { data := #[] }, .int .i64 0, .int .i64 0, .int .i64 0, .int .i64 0, .int .i64 0, .int .i64 0, .int .i64 0, .int .i64 0] 50)
  have Hbut0 := Lib.hid hbut0; have Hr0 := Lib.hid hr0; have Hob0 := Lib.hid hob0; clear hbut0 hr0 hob0
  go_enter Tryz.func59, Tryz.ntmps59
  go_wp2_with fail
  generalize (w.alloc (.cells #[.string { data := #[] }, .int .i64 0, .int .i64 0, .int .i64 0, .int .i64 0, .int .i64 0, .int .i64 0, .int .i64 0, .int .i64 0] 50)) = w0 at *
  go_step3
  go_wp2_with fail
  refine (next_any ws b _ Hr0.out).mono ?_
  intro e w1 hnx
  cases ws with
  | nil =>
    obtain ⟨rfl, rfl⟩ := hnx
    unfold Mal
    go_wp2_with fail
    exact ⟨rfl, opP_none rfl rfl Hbut0.out⟩
  | cons nm ws1 =>
    obtain ⟨rfl, hr1, hb1⟩ := hnx
    have hbut1 := Hbut0.out.trans hb1
    have hlt1 := hr1.lt
    have hbl1 : b ≤ w1.heap.size := Nat.le_of_lt hlt1
    have hbutX := hbut1.alloc hbl1 (.cells #[.string (bs nm), .int .i64 0, .int .i64 0, .int .i64 0, .int .i64 0, .int .i64 0, .int .i64 0, .int .i64 0, .int .i64 0] 50)
    have hal := (Below.refl w1.heap.size w1).alloc (Nat.le_refl _) (.cells #[.string (bs nm), .int .i64 0, .int .i64 0, .int .i64 0, .int .i64 0, .int .i64 0, .int .i64 0, .int .i64 0, .int .i64 0] 50)
    have hrX := hr1.below hal
    have hobX : XB (w1.alloc (.cells #[.string (bs nm), .int .i64 0, .int .i64 0, .int .i64 0, .int .i64 0, .int .i64 0, .int .i64 0, .int .i64 0, .int .i64 0] 50)) w1.heap.size nm [] 0 0 0 := heap_alloc_new w1 (.cells #[.string (bs nm), .int .i64 0, .int .i64 0, .int .i64 0, .int .i64 0, .int .i64 0, .int .i64 0, .int .i64 0, .int .i64 0] 50)
    have hszX : w1.heap.size < (w1.alloc (.cells #[.string (bs nm), .int .i64 0, .int .i64 0, .int .i64 0, .int .i64 0, .int .i64 0, .int .i64 0, .int .i64 0, .int .i64 0] 50)).heap.size := by simp
    have hs01 := hb1.size
    have hob1 := (hb1.keep w.heap.size hsz0 (by omega)).trans Hob0.out
    have hobT := (hal.block w.heap.size (by omega)).trans hob1
    have HbutX := Lib.hid hbutX; have HrX := Lib.hid hrX; have HobX := Lib.hid hobX; have HobT := Lib.hid hobT
    clear hbut1 hbutX hal hrX hobX hob1 hobT hr1 hb1 Hr0 Hbut0 Hob0 H
    go_wp2_with fail
    generalize (w1.alloc (.cells #[.string (bs nm), .int .i64 0, .int .i64 0, .int .i64 0, .int .i64 0, .int .i64 0, .int .i64 0, .int .i64 0, .int .i64 0] 50)) = w2 at *
    generalize hX : w1.heap.size = X at *
    have c0 : w2.cell? ⟨X, 0, none⟩ = some (.string (bs nm)) := obj_cell HobX.out 0
    refine wp_region_floats 8 [6] [(7, 5, .cells #[.int .i64 0, .int .i64 0, .int .i64 0, .int .i64 0, .int .i64 0] 48)] [(1, true), (2, true), (0, false), (3, true), (4, true), (5, true), (6, true)] (by kernel_rfl) (by kernel_rfl) ⟨by simp, by simp, by (simp only [List.forall_mem_cons]; exact ⟨⟨by omega, _, rfl, rfl, rfl, fun _ _ => rfl⟩, fun _ h => by cases h⟩)⟩ (fun _ _ _ _ _ h => h) (fun _ _ o _ _ h => by cases o <;> exact h) ?_
    iterate 2
      refine wpG_yield (v := ?_) rfl rfl (by rfl) ?_ ?_
      rotate_left
      · intro y hy
        have z1 := (hy.cell (p := ⟨X, 0, none⟩) hszX).trans c0
        go_simp
        with_reducible rfl
      try simp only [Act.put, List.setIfInBounds_toArray, List.set_cons_zero, List.set_cons_succ]
    refine wpG_step rfl rfl (fun x1 hx1 K hK => ?_)
    go_simp
    have hx1' : Below w2.heap.size w2 x1 := below_undrew (k := 1) hx1
    refine (kinds_any _).mono ?_
    rintro e w3 ⟨bk, rfl, hbg, hmk, hb2⟩
    refine hK _ _ hb2 ?_
    clear hK K
    have Hx2 := Lib.hid (hx1'.trans (hb2.mono hx1'.size)); have Hmk := Lib.hid hmk; have hmkl := hmk.lt
    clear hx1 hx1' hb2 hbg hmk
    try simp only [Act.put, List.setIfInBounds_toArray, List.set_cons_zero, List.set_cons_succ]
    refine wpG_yield (v := ?_) rfl rfl (by rfl) ?_ ?_
    rotate_left
    · intro y hy
      have z1 := run_lookup_K (P := Tryz.prog) (w := y) (t := 114) Tryz.underlying114 Tryz.underlying9 (Tryz.zeroKV y) (Hmk.out.block (hy.block bk hmkl)) nm true
      rw [if_pos rfl, lookK_all] at z1
      go_simp
      with_reducible rfl
    try simp only [Act.put, List.setIfInBounds_toArray, List.set_cons_zero, List.set_cons_succ]
    iterate 3
      refine wpG_pure (v := ?_) rfl (by rfl) ?_ ?_
      rotate_left
      · intro y
        go_simp
        with_reducible rfl
      try simp only [Act.put, List.setIfInBounds_toArray, List.set_cons_zero, List.set_cons_succ]
    refine wpG_nil1 rfl (fun b1 w4 hb1 hb3 hcell => ?_)
    try simp only [Act.put, List.setIfInBounds_toArray, List.set_cons_zero, List.set_cons_succ]
    have hx3 : Below w2.heap.size w2 w4 := Hx2.out.trans (hb3.mono Hx2.out.size)
    have hb1g : w2.heap.size ≤ b1 := by
      have := hb1.1
      simpa using this
    have hsz3 := hx3.size
    have hob3 : XB w4 X nm [] 0 0 0 := (hx3.block X hszX).trans HobX.out
    have hobT3 := (hx3.block w.heap.size (by omega)).trans HobT.out
    have hr3 := HrX.out.below hx3
    have hbut3 := HbutX.out.below (by omega) hx3
    obtain ⟨p0, p1, p2⟩ : (∀ i, i < 5 → w4.cell? ⟨b1, i, none⟩ = some (.int .i64 0)) ∧ (∀ i, w4.frozen? ⟨b1, i, none⟩ = false) ∧ b1 < w4.heap.size := by
      refine ⟨fun i hi => ?_, obj_free hcell, lt_of_block hcell⟩
      rw [obj_cell hcell i]
      have hw : i = 0 ∨ i = 1 ∨ i = 2 ∨ i = 3 ∨ i = 4 := by omega
      rcases hw with rfl | rfl | rfl | rfl | rfl <;> rfl
    have Hob3 := Lib.hid hob3; have HobT3 := Lib.hid hobT3; have Hr3 := Lib.hid hr3; have Hbut3 := Lib.hid hbut3
    clear hob3 hobT3 hr3 hbut3 hx3 hb3 Hx2 Hmk HobX HobT HrX HbutX c0 hb1
    have hsome : ∀ ks, (kindsOf nm).getD [] = ks → kV ks = .agg #[.int .i64 (ks.getD 0 0 : Nat), .int .i64 (ks.getD 1 0 : Nat), .int .i64 (ks.getD 2 0 : Nat), .int .i64 (ks.getD 3 0 : Nat), .int .i64 (ks.getD 4 0 : Nat)] := fun ks _ => rfl
    have hkv := hsome _ rfl
    clear hsome
    have hq0 := p0 0 (by omega); have hq1 := p0 1 (by omega); have hq2 := p0 2 (by omega); have hq3 := p0 3 (by omega); have hq4 := p0 4 (by omega)
    have hf0 := p1 0; have hf1 := p1 1; have hf2 := p1 2; have hf3 := p1 3; have hf4 := p1 4
    clear p0 p1
    cases hkn : kindsOf nm with
    | none =>
      rw [hkn] at hkv
      simp only [Option.isSome_none, Option.getD_none] at hkv ⊢
      rw [hkv]
      simp only [List.getD_nil]
      go_wp2_with fail
      have hw1 : w.heap.size ≤ b1 := by omega
      exact ⟨rfl, opP_none (readOf_noKind hkn) rfl (((((Hbut3.out.setCell hw1 hlt 0 _).setCell hw1 hlt 1 _).setCell hw1 hlt 2 _).setCell hw1 hlt 3 _).setCell hw1 hlt 4 _)⟩
    | some ks =>
      rw [hkn] at hkv
      simp only [Option.isSome_some, Option.getD_some] at hkv ⊢
      rw [hkv]
      have Hkv := Lib.hid hkv; clear hkv
      obtain ⟨k0, e0⟩ : ∃ k0, k0 = ks.getD 0 0 := ⟨_, rfl⟩
      obtain ⟨k1, e1⟩ : ∃ k1, k1 = ks.getD 1 0 := ⟨_, rfl⟩
      obtain ⟨k2, e2⟩ : ∃ k2, k2 = ks.getD 2 0 := ⟨_, rfl⟩
      obtain ⟨k3, e3⟩ : ∃ k3, k3 = ks.getD 3 0 := ⟨_, rfl⟩
      obtain ⟨k4, e4⟩ : ∃ k4, k4 = ks.getD 4 0 := ⟨_, rfl⟩
      rw [← e0, ← e1, ← e2, ← e3, ← e4]
      have E0 := Lib.hid e0; have E1 := Lib.hid e1; have E2 := Lib.hid e2; have E3 := Lib.hid e3; have E4 := Lib.hid e4
      clear e0 e1 e2 e3 e4
      go_wp2_with fail
      have hw1 : w.heap.size ≤ b1 := by omega
      have hXb : X ≠ b1 := by omega
      have hbb1 : b < b1 := by omega
      have hTb : w.heap.size ≠ b1 := by omega
      have hob4 := ((((Hob3.out.setCell hXb 0 (.int .i64 (k0 : Int))).setCell hXb 1 (.int .i64 (k1 : Int))).setCell hXb 2 (.int .i64 (k2 : Int))).setCell hXb 3 (.int .i64 (k3 : Int))).setCell hXb 4 (.int .i64 (k4 : Int))
      have hr4 := ((((Hr3.out.setCell hbb1 0 (.int .i64 (k0 : Int))).setCell hbb1 1 (.int .i64 (k1 : Int))).setCell hbb1 2 (.int .i64 (k2 : Int))).setCell hbb1 3 (.int .i64 (k3 : Int))).setCell hbb1 4 (.int .i64 (k4 : Int))
      have hbut4 := ((((Hbut3.out.setCell hw1 hlt 0 (.int .i64 (k0 : Int))).setCell hw1 hlt 1 (.int .i64 (k1 : Int))).setCell hw1 hlt 2 (.int .i64 (k2 : Int))).setCell hw1 hlt 3 (.int .i64 (k3 : Int))).setCell hw1 hlt 4 (.int .i64 (k4 : Int))
      have hobT4 := obj_other (obj_other (obj_other (obj_other (obj_other HobT3.out ⟨b1, 0, none⟩ (fun e => hTb e.symm) (.int .i64 (k0 : Int))) ⟨b1, 1, none⟩ (fun e => hTb e.symm) (.int .i64 (k1 : Int))) ⟨b1, 2, none⟩ (fun e => hTb e.symm) (.int .i64 (k2 : Int))) ⟨b1, 3, none⟩ (fun e => hTb e.symm) (.int .i64 (k3 : Int))) ⟨b1, 4, none⟩ (fun e => hTb e.symm) (.int .i64 (k4 : Int))
      have hcell4 := obj_setCell (obj_setCell (obj_setCell (obj_setCell (obj_setCell hcell 0 (.int .i64 (k0 : Int))) 1 (.int .i64 (k1 : Int))) 2 (.int .i64 (k2 : Int))) 3 (.int .i64 (k3 : Int))) 4 (.int .i64 (k4 : Int))
      have hsz4 : w4.heap.size = (((((w4.setCell ⟨b1, 0, none⟩ (.int .i64 (k0 : Int))).setCell ⟨b1, 1, none⟩ (.int .i64 (k1 : Int))).setCell ⟨b1, 2, none⟩ (.int .i64 (k2 : Int))).setCell ⟨b1, 3, none⟩ (.int .i64 (k3 : Int))).setCell ⟨b1, 4, none⟩ (.int .i64 (k4 : Int))).heap.size := by simp
      clear hcell hq0 hq1 hq2 hq3 hq4 hf0 hf1 hf2 hf3 hf4
      generalize (((((w4.setCell ⟨b1, 0, none⟩ (.int .i64 (k0 : Int))).setCell ⟨b1, 1, none⟩ (.int .i64 (k1 : Int))).setCell ⟨b1, 2, none⟩ (.int .i64 (k2 : Int))).setCell ⟨b1, 3, none⟩ (.int .i64 (k3 : Int))).setCell ⟨b1, 4, none⟩ (.int .i64 (k4 : Int))) = w5 at *
      have g0 : w5.cell? ⟨b1, 0, none⟩ = some (.int .i64 (k0 : Int)) := obj_cell hcell4 0
      have g1 : w5.cell? ⟨b1, 1, none⟩ = some (.int .i64 (k1 : Int)) := obj_cell hcell4 1
      have g2 : w5.cell? ⟨b1, 2, none⟩ = some (.int .i64 (k2 : Int)) := obj_cell hcell4 2
      have g3 : w5.cell? ⟨b1, 3, none⟩ = some (.int .i64 (k3 : Int)) := obj_cell hcell4 3
      have g4 : w5.cell? ⟨b1, 4, none⟩ = some (.int .i64 (k4 : Int)) := obj_cell hcell4 4
      have Hob4 := Lib.hid hob4; have Hr4 := Lib.hid hr4; have Hbut4 := Lib.hid hbut4; have HobT4 := Lib.hid hobT4
      have Hsz := Lib.hid hsz4
      clear hob4 hr4 hbut4 hobT4 hcell4 hsz4 Hob3 HobT3 Hr3 Hbut3
      go_step3
      go_upto_block 0 with fail
      rw [E0.out, E1.out, E2.out, E3.out, E4.out]
      rw [← Hkv.out]
      have hk5 := (kinds_small hkn).1
      have hk9 := (kinds_small hkn).2
      have hkp := (kinds_pos hkn).2
      have hix := index_kV ks
      have Hkn := Lib.hid hkn; have Hk9 := Lib.hid hk9; have Hkp := Lib.hid hkp; have Hix := Lib.hid hix
      clear hkn hk9 hkp hix Hkv E0 E1 E2 E3 E4 g0 g1 g2 g3 g4 p2
      have Hws := Lib.hid hws; clear hws
      generalize kV ks = V at *
      go_cut [] (fun wx => ∃ (done : List Int) (r : List (List UInt8)), argsOf ks ws1 = some (done, r) ∧ done.length ≤ 5 ∧ (∀ s ∈ r, s.length ≤ 100000) ∧ XB wx X nm done 0 0 0 ∧ wx.heap[w.heap.size]? = some (.cells #[.string { data := #[] }, .int .i64 0, .int .i64 0, .int .i64 0, .int .i64 0, .int .i64 0, .int .i64 0, .int .i64 0, .int .i64 0] 50 (0, 0)) ∧ RdrB wx b r ∧ But b w wx)
      case first =>
        go_wp2_with fail
        go_loopw [28] (fun iv wr => ∃ (done : List Int) (r : List (List UInt8)), done.length ≤ ks.length ∧ iv = .int .i64 (done.length : Int) ∧ argsOf ks ws1 = (argsOf (ks.drop done.length) r).map (fun q => (done ++ q.1, q.2)) ∧ (∀ s ∈ r, s.length ≤ 100000) ∧ XB wr X nm done 0 0 0 ∧ wr.heap[w.heap.size]? = some (.cells #[.string { data := #[] }, .int .i64 0, .int .i64 0, .int .i64 0, .int .i64 0, .int .i64 0, .int .i64 0, .int .i64 0, .int .i64 0] 50 (0, 0)) ∧ RdrB wr b r ∧ But b w wr) (fun iv _ => 5 - (intOf iv).toNat)
        case atStart =>
          refine ⟨[], ws1, Nat.zero_le _, rfl, ?_, fun s hs => Hws.out s (List.mem_cons_of_mem _ hs), Hob4.out, HobT4.out, Hr4.out, Hbut4.out⟩
          simp
        case round =>
          obtain ⟨done, r, hdl, rfl, harg, hrs, hx, hT, hr, hbut⟩ := hrel
          have hXl := lt_of_block hx
          have Hharg := Lib.hid harg; have Hrs := Lib.hid hrs; have Hx := Lib.hid hx; have HT := Lib.hid hT; have Hr := Lib.hid hr; have Hbut := Lib.hid hbut
          clear harg hrs hx hT hr hbut Hob4 HobT4 Hr4 Hbut4
          by_cases hlen : done.length = ks.length
          · have hfin : argsOf ks ws1 = some (done, r) := by
              rw [Hharg.out, hlen, List.drop_length]; simp [argsOf]
            have Hfin := Lib.hid hfin; clear hfin
            have hd5 : done.length ≤ 5 := by omega
            by_cases h5 : done.length < 5
            · have hz : ks.getD done.length 0 = 0 := by rw [List.getD_eq_getElem?_getD, List.getElem?_eq_none (by omega)]; rfl
              have hi0 := Hix.out done.length h5
              rw [hz] at hi0
              have Hlen := Lib.hid hlen; clear hz hlen
              go_wp2_with fail
              go_meet
              exact ⟨done, r, Hfin.out, hd5, Hrs.out, Hx.out, HT.out, Hr.out, Hbut.out⟩
            · have h5' : ((done.length : Int)) = 5 := by omega
              have Hlen := Lib.hid hlen; clear hlen
              rw [h5']
              go_wp2_with fail
              go_meet
              exact ⟨done, r, Hfin.out, hd5, Hrs.out, Hx.out, HT.out, Hr.out, Hbut.out⟩
          · have hil : done.length < ks.length := by omega
            have hi5 : done.length < 5 := by omega
            have hi0 := Hix.out done.length hi5
            have hk9 := Hk9.out done.length
            have hkd : ks.drop done.length = ks.getD done.length 0 :: ks.drop (done.length + 1) := by
              rw [List.drop_eq_getElem_cons hil, List.getD_eq_getElem?_getD, List.getElem?_eq_getElem hil]; rfl
            have hkp : ks.getD done.length 0 ≠ 0 := by
              rw [List.getD_eq_getElem?_getD, List.getElem?_eq_getElem hil]
              exact Hkp.out _ (List.getElem_mem hil)
            have hdg : digitsOf (ks.getD done.length 0) = if (rangeOf (ks.getD done.length 0)).2.2 then 6 else 0 := rfl
            have harg2 := Hharg.out
            rw [hkd] at harg2
            clear Hharg
            have Harg2 := Lib.hid harg2; clear harg2
            have Hkd := Lib.hid hkd; have Hlen := Lib.hid hlen; have Hil := Lib.hid hil
            clear hkd hlen hil
            generalize ks.getD done.length 0 = k at *
            have hk0 : ((k : Int) == 0) = false := by rw [beq_eq_false_iff_ne]; omega
            have Hkp2 := Lib.hid hkp; have Hdg := Lib.hid hdg; clear hkp hdg
            go_upto_region 11 with fail
            have hlt5 : b < wr.heap.size := Hr.out.lt
            have hbX : b < X := hlt1
            cases hdec : (rangeOf k).2.2
            all_goals
              have Hdec := Lib.hid hdec
              go_wp2_with fail
              refine (ranges_any _).mono ?_
              rintro e w6 ⟨b6, rfl, hb6, hb6s, hrg, hbb⟩
              obtain ⟨r0, r1, r2⟩ := hrg k hk9
              rw [hdec] at r2
              have Hbb := Lib.hid hbb
              clear hbb hrg r0 r1 hdec
              go_upto_region 13 with fail
              have hx6 := Hx.out.below Hbb.out
              have hT6 := (Hbb.out.block w.heap.size (by omega)).trans HT.out
              have hr6 := Hr.out.below Hbb.out
              have hbut6 := Hbut.out.below (by omega) Hbb.out
              have hs6 := Hbb.out.size
              have Hx6 := Lib.hid hx6; have HT6 := Lib.hid hT6; have Hr6 := Lib.hid hr6; have Hbut6 := Lib.hid hbut6
              clear hx6 hT6 hr6 hbut6 r2 Hx HT Hr Hbut Hbb hb6s
              refine wp_region_eagerX (bx := b) 16 [(0, true), (1, true), (3, true), (8, true), (12, true), (14, true), (2, false), (4, true), (5, true), (6, true), (7, false), (9, true), (10, true), (11, true), (13, false), (15, true)] (by kernel_rfl) (by kernel_rfl) ?_
              iterate 6
                refine wpOrd_yieldX (v := ?_) rfl (fun _ _ _ h => h) (by rfl) ?_ ?_
                rotate_left
                · intro z hz
                  go_simp
                  with_reducible rfl
                try simp only [Act.put, List.setIfInBounds_toArray, List.set_cons_zero, List.set_cons_succ]
              refine wpOrd_stepX rfl rfl (fun K hK => ?_)
              go_simp
              have hw6d : Below w6.heap.size w6 w6.drew := below_undrew (k := 1) (Below.refl _ _)
              refine (ranges_any _).mono ?_
              rintro e w7 ⟨b7, rfl, hb7, hb7s, hrg, hbb⟩
              have hbb7 := hw6d.trans (hbb.mono hw6d.size)
              refine hK _ _ (But.of_below hbb (by have := hw6d.size; omega)) ?_
              clear hK K
              obtain ⟨r0, r1, r2⟩ := hrg k hk9
              have hs7 := hbb7.size
              have Hbb7 := Lib.hid hbb7; have hb7g : b < b7 := by have := hw6d.size; omega
              clear hbb hrg r2 hw6d hbb7 hb7
              try simp only [Act.put, List.setIfInBounds_toArray, List.set_cons_zero, List.set_cons_succ]
              iterate 3
                refine wpOrd_yieldX (v := ?_) rfl (fun _ _ _ h => h) (by rfl) ?_ ?_
                rotate_left
                · intro z hz
                  have z0 := (hz.cell (p := ⟨b7, k * 3, none⟩) hb7s (by show b7 ≠ b; omega)).trans r0
                  go_simp
                  try rw [if_pos (show (k : Int) < 9 by omega)]
                  all_goals with_reducible rfl
                try simp only [Act.put, List.setIfInBounds_toArray, List.set_cons_zero, List.set_cons_succ]
              clear r0 r1
              refine wpOrd_stepX rfl rfl (fun K hK => ?_)
              go_simp
              refine (ranges_any _).mono ?_
              rintro e w8 ⟨b8, rfl, hb8', hb8s, hrg, hbb⟩
              have hb8g : b < b8 := by omega
              refine hK _ _ (But.of_below hbb (by omega)) ?_
              clear hK K
              obtain ⟨r0, r1, r2⟩ := hrg k hk9
              have hbb8 := Hbb7.out.trans (hbb.mono hs7)
              have hs8 := hbb8.size
              have hx8 := Hx6.out.below hbb8
              have hT8 := (hbb8.block w.heap.size (by omega)).trans HT6.out
              have hr8 := Hr6.out.below hbb8
              have hbut8 := Hbut6.out.below (by omega) hbb8
              have Hx8 := Lib.hid hx8; have HT8 := Lib.hid hT8; have Hr8 := Lib.hid hr8; have Hbut8 := Lib.hid hbut8
              clear hbb hrg r0 r2 hbb8 hb8' hx8 hT8 hr8 hbut8 Hbb7 Hx6 HT6 Hr6 Hbut6
              try simp only [Act.put, List.setIfInBounds_toArray, List.set_cons_zero, List.set_cons_succ]
              iterate 3
                refine wpOrd_yieldX (v := ?_) rfl (fun _ _ _ h => h) (by rfl) ?_ ?_
                rotate_left
                · intro z hz
                  have z0 := (hz.cell (p := ⟨b8, k * 3 + 1, none⟩) hb8s (by show b8 ≠ b; omega)).trans r1
                  go_simp
                  try rw [if_pos (show (k : Int) < 9 by omega)]
                  all_goals with_reducible rfl
                try simp only [Act.put, List.setIfInBounds_toArray, List.set_cons_zero, List.set_cons_succ]
              clear r1
              have hdg2 : digitsOf k = if (rangeOf k).2.2 then 6 else 0 := rfl
              rw [Hdec.out] at hdg2
              have Hdg2 := Lib.hid hdg2; clear hdg2
              refine wpOrd_stepX rfl rfl (fun K hK => ?_)
              go_simp
              have hnum0 := number_any r b (rangeOf k).1 (rangeOf k).2.1 0 w8 Hr8.out (Hg.out.of Hbut8.out.bel hb8) hb8 Hrs.out (by decide)
              have hnum6 := number_any r b (rangeOf k).1 (rangeOf k).2.1 6 w8 Hr8.out (Hg.out.of Hbut8.out.bel hb8) hb8 Hrs.out (by decide)
              rw [show ((0 : Nat) : Int) = 0 from rfl] at hnum0
              rw [show ((6 : Nat) : Int) = 6 from rfl] at hnum6
              first
                | (with_reducible refine hnum0.mono ?_)
                | (with_reducible refine hnum6.mono ?_)
              clear hnum0 hnum6
              intro e w9 hnp
              have hnp2 : NumP w8 b (rangeOf k).1 (rangeOf k).2.1 (digitsOf k) e w9 r := by rw [Hdg2.out]; exact hnp
              clear hnp
              cases r with
              | nil =>
                obtain ⟨rfl, hbut9⟩ := hnp2
                have hro : readOf (nm :: ws1) = none := by
                  rw [readOf_kind Hkn.out, Harg2.out]; rfl
                unfold Mal
                go_simp
                exact ⟨rfl, opP_none hro rfl (Hbut8.out.trans hbut9)⟩
              | cons s r2 =>
                cases hn : numOf s (rangeOf k).1 (rangeOf k).2.1 (digitsOf k) with
                | none =>
                  have hnp3 : e = Mal ∧ But b w8 w9 := by
                    have := hnp2
                    unfold NumP at this
                    simp only [hn] at this
                    exact this
                  obtain ⟨rfl, hbut9⟩ := hnp3
                  have hro : readOf (nm :: ws1) = none := by
                    rw [readOf_kind Hkn.out, Harg2.out]
                    simp only [argsOf, hn, Option.map_none]
                  unfold Mal
                  go_simp
                  exact ⟨rfl, opP_none hro rfl (Hbut8.out.trans hbut9)⟩
                | some n =>
                  have hnp3 : e = .returned (.int .i64 n) ∧ RdrB w9 b r2 ∧ But b w8 w9 := by
                    have := hnp2
                    unfold NumP at this
                    simp only [hn] at this
                    exact this
                  clear hnp2
                  obtain ⟨rfl, hr9, hbut9⟩ := hnp3
                  refine hK _ _ hbut9 ?_
                  clear hK K
                  have hx9 := Hx8.out.but hbut9 (by omega)
                  have hT9 := (hbut9.keep w.heap.size (by omega) (by omega)).trans HT8.out
                  have hbt9 := Hbut8.out.trans hbut9
                  have harg9 : argsOf ks ws1 = (argsOf (ks.drop (done ++ [n]).length) r2).map (fun q => ((done ++ [n]) ++ q.1, q.2)) := by
                    rw [Harg2.out]
                    simp only [argsOf, hn, List.length_append, List.length_singleton]
                    cases argsOf (ks.drop (done.length + 1)) r2 <;> simp
                  have Hx9 := Lib.hid hx9; have HT9 := Lib.hid hT9; have Hr9 := Lib.hid hr9; have Hbt9 := Lib.hid hbt9; have Harg9 := Lib.hid harg9
                  clear hx9 hT9 hr9 hbt9 hbut9 harg9 Hx8 HT8 Hr8 Hbut8 hn Harg2
                  try simp only [Act.put, List.setIfInBounds_toArray, List.set_cons_zero, List.set_cons_succ]
                  refine wpOrd_yieldX (v := ?_) rfl (fun _ _ _ h => h) (by rfl) ?_ ?_
                  rotate_left
                  · intro z hz
                    go_simp
                    try rw [if_pos (show (done.length : Int) < 5 by omega)]
                    all_goals with_reducible rfl
                  try simp only [Act.put, List.setIfInBounds_toArray, List.set_cons_zero, List.set_cons_succ]
                  refine wpOrd_nilX (l := [_]) rfl ?_
                  have hcx := Hx9.out.cell (by omega) done.length hi5
                  have hfx := obj_free Hx9.out (1 + done.length)
                  go_wp2_with fail
                  refine ⟨⟨done ++ [n], r2, by rw [List.length_append, List.length_singleton]; have := Hil.out; omega, by simp, Harg9.out, fun y hy => Hrs.out y (List.mem_cons_of_mem _ hy), Hx9.out.store hi5 n, obj_other HT9.out ⟨X, 1 + done.length, none⟩ (fun e => by have e2 : X = w.heap.size := e; omega) _, Hr9.out.setCell hbX _ _, Hbt9.out.setCell (by omega) hlt _ _⟩, ?_⟩
                  simp [intOf]; omega
      case rest =>
        obtain ⟨done, r, harg, hd5, hrs, hx, hT, hr, hbut⟩ := hcut
        have hro := readOf_kind (ws := ws1) Hkn.out
        rw [harg] at hro
        simp only at hro
        have Hro := Lib.hid hro; have Hrs := Lib.hid hrs; have Hx := Lib.hid hx; have HT := Lib.hid hT; have Hr := Lib.hid hr; have Hbut := Lib.hid hbut
        clear harg hro hrs hx hT hr hbut Hob4 HobT4 Hr4 Hbut4
        go_wp2_with fail
        refine (next_any r b _ Hr.out).mono ?_
        intro e w6 hnx
        cases r with
        | nil =>
          obtain ⟨rfl, rfl⟩ := hnx
          unfold Mal
          go_wp2_with fail
          exact ⟨rfl, opP_none (by rw [Hro.out]; rfl) rfl Hbut.out⟩
        | cons rel r1 =>
          obtain ⟨rfl, hr6, hb6⟩ := hnx
          have hXl := lt_of_block Hx.out
          have hx6 := Hx.out.but hb6 (by omega)
          have hT6 := (hb6.keep w.heap.size (by omega) (by omega)).trans HT.out
          have hbut6 := Hbut.out.trans hb6
          have hs6 := hb6.size
          have Hx6 := Lib.hid hx6; have HT6 := Lib.hid hT6; have Hr6 := Lib.hid hr6; have Hbut6 := Lib.hid hbut6
          clear hx6 hT6 hr6 hbut6 hb6 Hx HT Hr Hbut
          go_upto_region 16 with fail
          by_cases hl1 : rel.length = 1
          · obtain ⟨c, rfl⟩ := List.length_eq_one_iff.1 hl1
            clear hl1
            obtain ⟨j, hj, hjr⟩ : ∃ j : Int, Lib.indexByte [61, 60, 62] c = j ∧ ((j = -1 ∧ relOf [c] = none) ∨ (j = 0 ∧ relOf [c] = some 1) ∨ (j = 1 ∧ relOf [c] = some 2) ∨ (j = 2 ∧ relOf [c] = some 3)) := by
              refine ⟨_, rfl, ?_⟩
              by_cases h1 : c = 61
              · subst h1; exact Or.inr (Or.inl ⟨by decide, rfl⟩)
              · by_cases h2 : c = 60
                · subst h2; exact Or.inr (Or.inr (Or.inl ⟨by decide, rfl⟩))
                · by_cases h3 : c = 62
                  · subst h3; exact Or.inr (Or.inr (Or.inr ⟨by decide, rfl⟩))
                  · refine Or.inl ⟨?_, ?_⟩
                    · have e1 : ((61 : UInt8) == c) = false := beq_eq_false_iff_ne.2 (fun e => h1 e.symm)
                      have e2 : ((60 : UInt8) == c) = false := beq_eq_false_iff_ne.2 (fun e => h2 e.symm)
                      have e3 : ((62 : UInt8) == c) = false := beq_eq_false_iff_ne.2 (fun e => h3 e.symm)
                      simp [Lib.indexByte, e1, e2, e3]
                    · unfold relOf
                      rw [if_neg (by simp; exact h1), if_neg (by simp; exact h2), if_neg (by simp; exact h3)]
            have hcon := fun w => (Tryz.strings_Contains_one { data := #[61, 60, 62] } c w).mono (R' := fun e w' => e = .returned (.bool (decide (0 ≤ Lib.indexByte ({ data := #[61, 60, 62] } : ByteArray).data.toList c))) ∧ w = w') fun _ _ h => ⟨h.1, h.2.symm⟩
            have hidx := fun w => (Tryz.strings_Index_one { data := #[61, 60, 62] } c w).mono (R' := fun e w' => e = .returned (.int .i64 (Lib.indexByte ({ data := #[61, 60, 62] } : ByteArray).data.toList c)) ∧ w = w') fun _ _ h => ⟨h.1, h.2.symm⟩
            rw [show ({ data := #[61, 60, 62] } : ByteArray).data.toList = [61, 60, 62] from rfl, hj] at hcon hidx
            have Hcon := Lib.hid hcon; have Hidx := Lib.hid hidx
            clear hcon hidx hj
            rcases hjr with ⟨rfl, hrl⟩ | ⟨rfl, hrl⟩ | ⟨rfl, hrl⟩ | ⟨rfl, hrl⟩
            · have Hrl := Lib.hid hrl; clear hrl
              go_wp2_with ((with_reducible refine (Hcon.out _).mono ?_); rintro e w' ⟨rfl, rfl⟩)
              exact ⟨rfl, opP_none (by rw [Hro.out]; simp only [tailOf_norel Hrl.out, Option.map_none]) rfl Hbut6.out⟩
            · have Hrl := Lib.hid hrl; clear hrl
              obtain ⟨a0, a1, a2, a3, a4, h5⟩ := five (pad5_len hd5)
              have hx6 : w6.heap[X]? = some (.cells #[.string (bs nm), .int .i64 a0, .int .i64 a1, .int .i64 a2, .int .i64 a3, .int .i64 a4, .int .i64 0, .int .i64 0, .int .i64 0] 50 (0, 0)) := by
                have := Hx6.out
                unfold XB xCells at this
                rw [h5] at this
                exact this
              have Hx6' := Lib.hid hx6; have H5 := Lib.hid h5; clear h5 Hx6
              have c6 : w6.cell? ⟨X, 6, none⟩ = some (.int .i64 0) := obj_cell hx6 6
              have f6 := obj_free hx6 6
              clear hx6
              go_wp2_with (first
                | ((with_reducible refine (Hcon.out _).mono ?_); rintro e w' ⟨rfl, rfl⟩)
                | ((with_reducible refine (Hidx.out _).mono ?_); rintro e w' ⟨rfl, rfl⟩))
              have hx7 := obj_setCell Hx6'.out 6 (.int .i64 1)
              have hT7 := obj_other HT6.out ⟨X, 6, none⟩ (fun e => by have e2 : X = w.heap.size := e; omega) (.int .i64 1)
              have hr7 := Hr6.out.setCell hlt1 6 (.int .i64 1)
              have hbut7 := Hbut6.out.setCell (X := X) (by omega) hlt 6 (.int .i64 1)
              clear c6 f6 Hx6' HT6 Hr6 Hbut6
              generalize (w6.setCell ⟨X, 6, none⟩ (.int .i64 1)) = w7 at *
              have Hx7 := Lib.hid hx7; have HT7 := Lib.hid hT7; have Hr7 := Lib.hid hr7; have Hbut7 := Lib.hid hbut7
              clear hx7 hT7 hr7 hbut7
              refine (number_any r1 b (-1000000000000) 1000000000000 6 w7 Hr7.out (Hg.out.of Hbut7.out.bel hb8) hb8 (fun y hy => Hrs.out y (List.mem_cons_of_mem _ hy)) (by decide)).mono ?_
              intro e w8 hnp
              cases r1 with
              | nil =>
                obtain ⟨rfl, hbut8⟩ := hnp
                unfold Mal
                go_wp2_with fail
                exact ⟨rfl, opP_none (by rw [Hro.out]; rfl) rfl (Hbut7.out.trans hbut8)⟩
              | cons tw r2 =>
                cases hn : numOf tw (-1000000000000) 1000000000000 6 with
                | none =>
                  have hnp3 : e = Mal ∧ But b w7 w8 := by
                    have := hnp
                    unfold NumP at this
                    simp only [hn] at this
                    exact this
                  obtain ⟨rfl, hbut8⟩ := hnp3
                  have Hn := Lib.hid hn; clear hn
                  unfold Mal
                  go_wp2_with fail
                  exact ⟨rfl, opP_none (by rw [Hro.out]; simp only [tailOf, Hrl.out, Hn.out, Option.map_none]) rfl (Hbut7.out.trans hbut8)⟩
                | some tg =>
                  have hnp3 : e = .returned (.int .i64 tg) ∧ RdrB w8 b r2 ∧ But b w7 w8 := by
                    have := hnp
                    unfold NumP at this
                    simp only [hn] at this
                    exact this
                  obtain ⟨rfl, hr8, hbut8⟩ := hnp3
                  clear hnp
                  have hX7 := lt_of_block Hx7.out
                  have hlw7 := lt_of_block HT7.out
                  have hx8 := (hbut8.keep X hX7 (by omega)).trans Hx7.out
                  have hT8 := (hbut8.keep w.heap.size hlw7 (by omega)).trans HT7.out
                  have hbt8 := Hbut7.out.trans hbut8
                  have c7 : w8.cell? ⟨X, 7, none⟩ = some (.int .i64 0) := obj_cell hx8 7
                  have c6 : w8.cell? ⟨X, 6, none⟩ = some (.int .i64 1) := obj_cell hx8 6
                  have f7 := obj_free hx8 7
                  have Hn := Lib.hid hn
                  have Hx8 := Lib.hid hx8; have HT8 := Lib.hid hT8; have Hr8 := Lib.hid hr8; have Hbt8 := Lib.hid hbt8
                  clear hn hx8 hT8 hr8 hbt8 hbut8 Hx7 HT7 Hr7 Hbut7
                  go_wp2_with fail
                  have hx9 := obj_setCell Hx8.out 7 (.int .i64 tg)
                  have hT9 := obj_other HT8.out ⟨X, 7, none⟩ (fun e => by have e2 : X = w.heap.size := e; omega) (.int .i64 tg)
                  have hr9 := Hr8.out.setCell hlt1 7 (.int .i64 tg)
                  have hbt9 := Hbt8.out.setCell (X := X) (by omega) hlt 7 (.int .i64 tg)
                  generalize (w8.setCell ⟨X, 7, none⟩ (.int .i64 tg)) = w9 at *
                  have Hx9 := Lib.hid hx9; have HT9 := Lib.hid hT9; have Hr9 := Lib.hid hr9; have Hbt9 := Lib.hid hbt9
                  clear hx9 hT9 hr9 hbt9 Hx8 HT8 Hr8 Hbt8
                  have hnum := number_any r2 b 1 1000 0 w9 Hr9.out (Hg.out.of Hbt9.out.bel hb8) hb8 (fun y hy => Hrs.out y (List.mem_cons_of_mem _ (List.mem_cons_of_mem _ hy))) (by decide)
                  rw [show ((0 : Nat) : Int) = 0 from rfl] at hnum
                  refine hnum.mono ?_
                  clear hnum
                  intro e wa hnp
                  cases r2 with
                  | nil =>
                    obtain ⟨rfl, hbuta⟩ := hnp
                    unfold Mal
                    go_wp2_with fail
                    exact ⟨rfl, opP_none (by rw [Hro.out]; simp only [tailOf, Hrl.out, Hn.out, Option.map_none]) rfl (Hbt9.out.trans hbuta)⟩
                  | cons ww r3 =>
                    cases hn : numOf ww 1 1000 0 with
                    | none =>
                      have hnp3 : e = Mal ∧ But b w9 wa := by
                        have := hnp
                        unfold NumP at this
                        simp only [hn] at this
                        exact this
                      obtain ⟨rfl, hbuta⟩ := hnp3
                      have Hnw := Lib.hid hn; clear hn
                      have htl : tailOf ([c] :: tw :: ww :: r3) = none := by
                        cases r3 with
                        | nil => simp only [tailOf, Hrl.out, Hn.out, Hnw.out, Option.map_none]
                        | cons z zs => simp only [tailOf, Hrl.out, Hn.out]
                      unfold Mal
                      go_wp2_with fail
                      exact ⟨rfl, opP_none (by rw [Hro.out, htl]; rfl) rfl (Hbt9.out.trans hbuta)⟩
                    | some wt =>
                      have hnp3 : e = .returned (.int .i64 wt) ∧ RdrB wa b r3 ∧ But b w9 wa := by
                        have := hnp
                        unfold NumP at this
                        simp only [hn] at this
                        exact this
                      obtain ⟨rfl, hra, hbuta⟩ := hnp3
                      clear hnp
                      have hX9 := lt_of_block Hx9.out
                      have hlw9 := lt_of_block HT9.out
                      have hxa := (hbuta.keep X hX9 (by omega)).trans Hx9.out
                      have hTa := (hbuta.keep w.heap.size hlw9 (by omega)).trans HT9.out
                      have hbta := Hbt9.out.trans hbuta
                      have c8 : wa.cell? ⟨X, 8, none⟩ = some (.int .i64 0) := obj_cell hxa 8
                      have f8 := obj_free hxa 8
                      have Hnw := Lib.hid hn
                      obtain ⟨ra, rn, rc, rh, rw1, -⟩ := hra
                      have rcell : wa.cell? ⟨b, 0, none⟩ = some (.slice ra rn rc) := obj_cell rh 0
                      have hrl2 := rw1.1
                      have hrb : b ≠ X := by omega
                      have rcell9 : (wa.setCell ⟨X, 8, none⟩ (.int .i64 wt)).cell? ⟨b, 0, none⟩ = some (.slice ra rn rc) := by
                        rw [← rcell]
                        simp only [World.cell?, Below.heap_setCell wa ⟨X, 8, none⟩ (.int .i64 wt) b (fun e => hrb e)]
                      have hxb := obj_setCell hxa 8 (.int .i64 wt)
                      have hTb := obj_other hTa ⟨X, 8, none⟩ (fun e => by have e2 : X = w.heap.size := e; omega) (.int .i64 wt)
                      have hbtb := hbta.setCell (X := X) (by omega) hlt 8 (.int .i64 wt)
                      have Rc9 := Lib.hid rcell9; have Hxb := Lib.hid hxb; have HTb := Lib.hid hTb; have Hbtb := Lib.hid hbtb
                      clear rh rw1 hn hxa hTa hbta hbuta rcell9 hxb hTb hbtb Hx9 HT9 Hr9 Hbt9
                      cases r3 with
                      | cons y ys =>
                        have hrn : 0 < rn := by rw [← hrl2]; simp
                        clear hrl2
                        go_wp2_with fail
                        exact ⟨rfl, opP_none (by rw [Hro.out]; simp only [tailOf, Hrl.out, Hn.out, Option.map_none]) rfl Hbtb.out⟩
                      | nil =>
                        obtain rfl : rn = 0 := hrl2.symm
                        clear hrl2
                        have hro : readOf (nm :: ws1) = some ⟨nm, pad5 done, 1, tg, wt⟩ := by rw [Hro.out]; simp only [tailOf, Hrl.out, Hn.out, Hnw.out, Option.map_some]
                        have Hro2 := Lib.hid hro; clear hro
                        go_upto_region 22 with fail
                        have rcell9 := Rc9.out
                        clear rcell Rc9 c8 f8
                        generalize (wa.setCell ⟨X, 8, none⟩ (.int .i64 wt)) = wb at *
                        have q0 := obj_cell HTb.out 0; have q1 := obj_cell HTb.out 1; have q2 := obj_cell HTb.out 2; have q3 := obj_cell HTb.out 3; have q4 := obj_cell HTb.out 4; have q5 := obj_cell HTb.out 5; have q6 := obj_cell HTb.out 6; have q7 := obj_cell HTb.out 7; have q8 := obj_cell HTb.out 8
                        have s0 := obj_cell Hxb.out 0; have s1 := obj_cell Hxb.out 1; have s2 := obj_cell Hxb.out 2; have s3 := obj_cell Hxb.out 3; have s4 := obj_cell Hxb.out 4; have s5 := obj_cell Hxb.out 5; have s6 := obj_cell Hxb.out 6; have s7 := obj_cell Hxb.out 7; have s8 := obj_cell Hxb.out 8
                        have qf := obj_free HTb.out
                        have g0 := qf 0; have g1 := qf 1; have g2 := qf 2; have g3 := qf 3; have g4 := qf 4; have g5 := qf 5; have g6 := qf 6; have g7 := qf 7; have g8 := qf 8
                        clear qf
                        go_wp2_with fail
                        show bodyPost Tryz.prog Tryz.f59 (fun e w2 => OpP w b e w2 (nm :: ws1)) .ret _ _
                        exact bodyPost_ret (ret_opd (g := w.heap.size) rfl rfl (opd_stored (nm := nm) (a0 := a0) (a1 := a1) (a2 := a2) (a3 := a3) (a4 := a4) (rel := 1) (tg := tg) (wt := wt) HTb.out)) rfl (opP_some Hro2.out (by rw [opV_pad H5.out]) (but_stored Hbtb.out (Nat.le_refl _) hlt))
            · have Hrl := Lib.hid hrl; clear hrl
              obtain ⟨a0, a1, a2, a3, a4, h5⟩ := five (pad5_len hd5)
              have hx6 : w6.heap[X]? = some (.cells #[.string (bs nm), .int .i64 a0, .int .i64 a1, .int .i64 a2, .int .i64 a3, .int .i64 a4, .int .i64 0, .int .i64 0, .int .i64 0] 50 (0, 0)) := by
                have := Hx6.out
                unfold XB xCells at this
                rw [h5] at this
                exact this
              have Hx6' := Lib.hid hx6; have H5 := Lib.hid h5; clear h5 Hx6
              have c6 : w6.cell? ⟨X, 6, none⟩ = some (.int .i64 0) := obj_cell hx6 6
              have f6 := obj_free hx6 6
              clear hx6
              go_wp2_with (first
                | ((with_reducible refine (Hcon.out _).mono ?_); rintro e w' ⟨rfl, rfl⟩)
                | ((with_reducible refine (Hidx.out _).mono ?_); rintro e w' ⟨rfl, rfl⟩))
              have hx7 := obj_setCell Hx6'.out 6 (.int .i64 2)
              have hT7 := obj_other HT6.out ⟨X, 6, none⟩ (fun e => by have e2 : X = w.heap.size := e; omega) (.int .i64 2)
              have hr7 := Hr6.out.setCell hlt1 6 (.int .i64 2)
              have hbut7 := Hbut6.out.setCell (X := X) (by omega) hlt 6 (.int .i64 2)
              clear c6 f6 Hx6' HT6 Hr6 Hbut6
              generalize (w6.setCell ⟨X, 6, none⟩ (.int .i64 2)) = w7 at *
              have Hx7 := Lib.hid hx7; have HT7 := Lib.hid hT7; have Hr7 := Lib.hid hr7; have Hbut7 := Lib.hid hbut7
              clear hx7 hT7 hr7 hbut7
              refine (number_any r1 b (-1000000000000) 1000000000000 6 w7 Hr7.out (Hg.out.of Hbut7.out.bel hb8) hb8 (fun y hy => Hrs.out y (List.mem_cons_of_mem _ hy)) (by decide)).mono ?_
              intro e w8 hnp
              cases r1 with
              | nil =>
                obtain ⟨rfl, hbut8⟩ := hnp
                unfold Mal
                go_wp2_with fail
                exact ⟨rfl, opP_none (by rw [Hro.out]; rfl) rfl (Hbut7.out.trans hbut8)⟩
              | cons tw r2 =>
                cases hn : numOf tw (-1000000000000) 1000000000000 6 with
                | none =>
                  have hnp3 : e = Mal ∧ But b w7 w8 := by
                    have := hnp
                    unfold NumP at this
                    simp only [hn] at this
                    exact this
                  obtain ⟨rfl, hbut8⟩ := hnp3
                  have Hn := Lib.hid hn; clear hn
                  unfold Mal
                  go_wp2_with fail
                  exact ⟨rfl, opP_none (by rw [Hro.out]; simp only [tailOf, Hrl.out, Hn.out, Option.map_none]) rfl (Hbut7.out.trans hbut8)⟩
                | some tg =>
                  have hnp3 : e = .returned (.int .i64 tg) ∧ RdrB w8 b r2 ∧ But b w7 w8 := by
                    have := hnp
                    unfold NumP at this
                    simp only [hn] at this
                    exact this
                  obtain ⟨rfl, hr8, hbut8⟩ := hnp3
                  clear hnp
                  have hX7 := lt_of_block Hx7.out
                  have hlw7 := lt_of_block HT7.out
                  have hx8 := (hbut8.keep X hX7 (by omega)).trans Hx7.out
                  have hT8 := (hbut8.keep w.heap.size hlw7 (by omega)).trans HT7.out
                  have hbt8 := Hbut7.out.trans hbut8
                  have c7 : w8.cell? ⟨X, 7, none⟩ = some (.int .i64 0) := obj_cell hx8 7
                  have c6 : w8.cell? ⟨X, 6, none⟩ = some (.int .i64 2) := obj_cell hx8 6
                  have f7 := obj_free hx8 7
                  have Hn := Lib.hid hn
                  have Hx8 := Lib.hid hx8; have HT8 := Lib.hid hT8; have Hr8 := Lib.hid hr8; have Hbt8 := Lib.hid hbt8
                  clear hn hx8 hT8 hr8 hbt8 hbut8 Hx7 HT7 Hr7 Hbut7
                  have hx9 := obj_setCell Hx8.out 7 (.int .i64 tg)
                  have hT9 := obj_other HT8.out ⟨X, 7, none⟩ (fun e => by have e2 : X = w.heap.size := e; omega) (.int .i64 tg)
                  have hr9 := Hr8.out.setCell hlt1 7 (.int .i64 tg)
                  have hbt9 := Hbt8.out.setCell (X := X) (by omega) hlt 7 (.int .i64 tg)
                  obtain ⟨ra, rn, rc, rh, rw1, -⟩ := hr9
                  have rcell : (w8.setCell ⟨X, 7, none⟩ (.int .i64 tg)).cell? ⟨b, 0, none⟩ = some (.slice ra rn rc) := obj_cell rh 0
                  have hrl2 := rw1.1
                  have hrb : b ≠ X := by omega
                  have rcell8 : w8.cell? ⟨b, 0, none⟩ = some (.slice ra rn rc) := by
                    rw [← rcell]
                    simp only [World.cell?, Below.heap_setCell w8 ⟨X, 7, none⟩ (.int .i64 tg) b (fun e => hrb e)]
                  have Rc := Lib.hid rcell
                  clear rcell rh rw1
                  have Hx9 := Lib.hid hx9; have HT9 := Lib.hid hT9; have Hbt9 := Lib.hid hbt9
                  clear hx9 hT9 hbt9 Hx8 HT8 Hr8 Hbt8
                  cases r2 with
                  | cons y ys =>
                    have hrn : 0 < rn := by rw [← hrl2]; simp
                    clear hrl2
                    go_wp2_with fail
                    exact ⟨rfl, opP_none (by rw [Hro.out]; simp only [tailOf, Hrl.out, Hn.out, Option.map_none]) rfl Hbt9.out⟩
                  | nil =>
                    obtain rfl : rn = 0 := hrl2.symm
                    clear hrl2
                    have hro : readOf (nm :: ws1) = some ⟨nm, pad5 done, 2, tg, 0⟩ := by rw [Hro.out]; simp only [tailOf, Hrl.out, Hn.out, Option.map_some]
                    have Hro2 := Lib.hid hro; clear hro
                    have q0 := obj_cell HT9.out 0; have q1 := obj_cell HT9.out 1; have q2 := obj_cell HT9.out 2; have q3 := obj_cell HT9.out 3; have q4 := obj_cell HT9.out 4; have q5 := obj_cell HT9.out 5; have q6 := obj_cell HT9.out 6; have q7 := obj_cell HT9.out 7; have q8 := obj_cell HT9.out 8
                    have s0 := obj_cell Hx9.out 0; have s1 := obj_cell Hx9.out 1; have s2 := obj_cell Hx9.out 2; have s3 := obj_cell Hx9.out 3; have s4 := obj_cell Hx9.out 4; have s5 := obj_cell Hx9.out 5; have s6 := obj_cell Hx9.out 6; have s7 := obj_cell Hx9.out 7; have s8 := obj_cell Hx9.out 8
                    have qf := obj_free HT9.out
                    have g0 := qf 0; have g1 := qf 1; have g2 := qf 2; have g3 := qf 3; have g4 := qf 4; have g5 := qf 5; have g6 := qf 6; have g7 := qf 7; have g8 := qf 8
                    clear qf
                    go_upto_region 22 with fail
                    have rcell := Rc.out
                    clear rcell8 Rc
                    generalize (w8.setCell ⟨X, 7, none⟩ (.int .i64 tg)) = w9 at *
                    go_wp2_with fail
                    show bodyPost Tryz.prog Tryz.f59 (fun e w2 => OpP w b e w2 (nm :: ws1)) .ret _ _
                    exact bodyPost_ret (ret_opd (g := w.heap.size) rfl rfl (opd_stored (nm := nm) (a0 := a0) (a1 := a1) (a2 := a2) (a3 := a3) (a4 := a4) (rel := 2) (tg := tg) (wt := 0) HT9.out)) rfl (opP_some Hro2.out (by rw [opV_pad H5.out]) (but_stored Hbt9.out (Nat.le_refl _) hlt))
            · have Hrl := Lib.hid hrl; clear hrl
              obtain ⟨a0, a1, a2, a3, a4, h5⟩ := five (pad5_len hd5)
              have hx6 : w6.heap[X]? = some (.cells #[.string (bs nm), .int .i64 a0, .int .i64 a1, .int .i64 a2, .int .i64 a3, .int .i64 a4, .int .i64 0, .int .i64 0, .int .i64 0] 50 (0, 0)) := by
                have := Hx6.out
                unfold XB xCells at this
                rw [h5] at this
                exact this
              have Hx6' := Lib.hid hx6; have H5 := Lib.hid h5; clear h5 Hx6
              have c6 : w6.cell? ⟨X, 6, none⟩ = some (.int .i64 0) := obj_cell hx6 6
              have f6 := obj_free hx6 6
              clear hx6
              go_wp2_with (first
                | ((with_reducible refine (Hcon.out _).mono ?_); rintro e w' ⟨rfl, rfl⟩)
                | ((with_reducible refine (Hidx.out _).mono ?_); rintro e w' ⟨rfl, rfl⟩))
              have hx7 := obj_setCell Hx6'.out 6 (.int .i64 3)
              have hT7 := obj_other HT6.out ⟨X, 6, none⟩ (fun e => by have e2 : X = w.heap.size := e; omega) (.int .i64 3)
              have hr7 := Hr6.out.setCell hlt1 6 (.int .i64 3)
              have hbut7 := Hbut6.out.setCell (X := X) (by omega) hlt 6 (.int .i64 3)
              clear c6 f6 Hx6' HT6 Hr6 Hbut6
              generalize (w6.setCell ⟨X, 6, none⟩ (.int .i64 3)) = w7 at *
              have Hx7 := Lib.hid hx7; have HT7 := Lib.hid hT7; have Hr7 := Lib.hid hr7; have Hbut7 := Lib.hid hbut7
              clear hx7 hT7 hr7 hbut7
              refine (number_any r1 b (-1000000000000) 1000000000000 6 w7 Hr7.out (Hg.out.of Hbut7.out.bel hb8) hb8 (fun y hy => Hrs.out y (List.mem_cons_of_mem _ hy)) (by decide)).mono ?_
              intro e w8 hnp
              cases r1 with
              | nil =>
                obtain ⟨rfl, hbut8⟩ := hnp
                unfold Mal
                go_wp2_with fail
                exact ⟨rfl, opP_none (by rw [Hro.out]; rfl) rfl (Hbut7.out.trans hbut8)⟩
              | cons tw r2 =>
                cases hn : numOf tw (-1000000000000) 1000000000000 6 with
                | none =>
                  have hnp3 : e = Mal ∧ But b w7 w8 := by
                    have := hnp
                    unfold NumP at this
                    simp only [hn] at this
                    exact this
                  obtain ⟨rfl, hbut8⟩ := hnp3
                  have Hn := Lib.hid hn; clear hn
                  unfold Mal
                  go_wp2_with fail
                  exact ⟨rfl, opP_none (by rw [Hro.out]; simp only [tailOf, Hrl.out, Hn.out, Option.map_none]) rfl (Hbut7.out.trans hbut8)⟩
                | some tg =>
                  have hnp3 : e = .returned (.int .i64 tg) ∧ RdrB w8 b r2 ∧ But b w7 w8 := by
                    have := hnp
                    unfold NumP at this
                    simp only [hn] at this
                    exact this
                  obtain ⟨rfl, hr8, hbut8⟩ := hnp3
                  clear hnp
                  have hX7 := lt_of_block Hx7.out
                  have hlw7 := lt_of_block HT7.out
                  have hx8 := (hbut8.keep X hX7 (by omega)).trans Hx7.out
                  have hT8 := (hbut8.keep w.heap.size hlw7 (by omega)).trans HT7.out
                  have hbt8 := Hbut7.out.trans hbut8
                  have c7 : w8.cell? ⟨X, 7, none⟩ = some (.int .i64 0) := obj_cell hx8 7
                  have c6 : w8.cell? ⟨X, 6, none⟩ = some (.int .i64 3) := obj_cell hx8 6
                  have f7 := obj_free hx8 7
                  have Hn := Lib.hid hn
                  have Hx8 := Lib.hid hx8; have HT8 := Lib.hid hT8; have Hr8 := Lib.hid hr8; have Hbt8 := Lib.hid hbt8
                  clear hn hx8 hT8 hr8 hbt8 hbut8 Hx7 HT7 Hr7 Hbut7
                  have hx9 := obj_setCell Hx8.out 7 (.int .i64 tg)
                  have hT9 := obj_other HT8.out ⟨X, 7, none⟩ (fun e => by have e2 : X = w.heap.size := e; omega) (.int .i64 tg)
                  have hr9 := Hr8.out.setCell hlt1 7 (.int .i64 tg)
                  have hbt9 := Hbt8.out.setCell (X := X) (by omega) hlt 7 (.int .i64 tg)
                  obtain ⟨ra, rn, rc, rh, rw1, -⟩ := hr9
                  have rcell : (w8.setCell ⟨X, 7, none⟩ (.int .i64 tg)).cell? ⟨b, 0, none⟩ = some (.slice ra rn rc) := obj_cell rh 0
                  have hrl2 := rw1.1
                  have hrb : b ≠ X := by omega
                  have rcell8 : w8.cell? ⟨b, 0, none⟩ = some (.slice ra rn rc) := by
                    rw [← rcell]
                    simp only [World.cell?, Below.heap_setCell w8 ⟨X, 7, none⟩ (.int .i64 tg) b (fun e => hrb e)]
                  have Rc := Lib.hid rcell
                  clear rcell rh rw1
                  have Hx9 := Lib.hid hx9; have HT9 := Lib.hid hT9; have Hbt9 := Lib.hid hbt9
                  clear hx9 hT9 hbt9 Hx8 HT8 Hr8 Hbt8
                  cases r2 with
                  | cons y ys =>
                    have hrn : 0 < rn := by rw [← hrl2]; simp
                    clear hrl2
                    go_wp2_with fail
                    exact ⟨rfl, opP_none (by rw [Hro.out]; simp only [tailOf, Hrl.out, Hn.out, Option.map_none]) rfl Hbt9.out⟩
                  | nil =>
                    obtain rfl : rn = 0 := hrl2.symm
                    clear hrl2
                    have hro : readOf (nm :: ws1) = some ⟨nm, pad5 done, 3, tg, 0⟩ := by rw [Hro.out]; simp only [tailOf, Hrl.out, Hn.out, Option.map_some]
                    have Hro2 := Lib.hid hro; clear hro
                    have q0 := obj_cell HT9.out 0; have q1 := obj_cell HT9.out 1; have q2 := obj_cell HT9.out 2; have q3 := obj_cell HT9.out 3; have q4 := obj_cell HT9.out 4; have q5 := obj_cell HT9.out 5; have q6 := obj_cell HT9.out 6; have q7 := obj_cell HT9.out 7; have q8 := obj_cell HT9.out 8
                    have s0 := obj_cell Hx9.out 0; have s1 := obj_cell Hx9.out 1; have s2 := obj_cell Hx9.out 2; have s3 := obj_cell Hx9.out 3; have s4 := obj_cell Hx9.out 4; have s5 := obj_cell Hx9.out 5; have s6 := obj_cell Hx9.out 6; have s7 := obj_cell Hx9.out 7; have s8 := obj_cell Hx9.out 8
                    have qf := obj_free HT9.out
                    have g0 := qf 0; have g1 := qf 1; have g2 := qf 2; have g3 := qf 3; have g4 := qf 4; have g5 := qf 5; have g6 := qf 6; have g7 := qf 7; have g8 := qf 8
                    clear qf
                    go_upto_region 22 with fail
                    have rcell := Rc.out
                    clear rcell8 Rc
                    generalize (w8.setCell ⟨X, 7, none⟩ (.int .i64 tg)) = w9 at *
                    go_wp2_with fail
                    show bodyPost Tryz.prog Tryz.f59 (fun e w2 => OpP w b e w2 (nm :: ws1)) .ret _ _
                    exact bodyPost_ret (ret_opd (g := w.heap.size) rfl rfl (opd_stored (nm := nm) (a0 := a0) (a1 := a1) (a2 := a2) (a3 := a3) (a4 := a4) (rel := 3) (tg := tg) (wt := 0) HT9.out)) rfl (opP_some Hro2.out (by rw [opV_pad H5.out]) (but_stored Hbt9.out (Nat.le_refl _) hlt))
          · have hlb : ¬ (rel.length : Int) = 1 := by omega
            have Hl1 := Lib.hid hl1; clear hl1
            go_wp2_with fail
            exact ⟨rfl, opP_none (by rw [Hro.out]; simp only [tailOf_norel (relOf_len Hl1.out), Option.map_none]) rfl Hbut6.out⟩
end Go.Proofs.YtpicmhbjiaegpaaGreatDoor
