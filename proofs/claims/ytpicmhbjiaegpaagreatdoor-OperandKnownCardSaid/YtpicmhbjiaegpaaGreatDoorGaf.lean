/-
  DERIVED. Several texts in one: OkC, OkD, OkE, OkF, OkG, OkJ, RegionX.
-/
import Derived.Test.YtpicmhbjiaegpaaGreatDoorHOkB
import Derived.ChangeKeysEq
import Derived.Lib.Join
import Derived.Test.YtpicmhbjiaegpaaGreatDoorGaa
import Derived.WalkLawsBesides
import Derived.WalkKit
import Derived.OrdersHeld
import Derived.StillTail
namespace Go.Proofs.YtpicmhbjiaegpaaGreatDoor
open Go.RowKit

/-- the table of ranges at block b -/
def RngB (w : World) (b : Nat) : Prop := ∀ k, k < 9 → w.cell? ⟨b, k * 3, none⟩ = some (.int .i64 (rangeOf k).1) ∧ w.cell? ⟨b, k * 3 + 1, none⟩ = some (.int .i64 (rangeOf k).2.1) ∧ w.cell? ⟨b, k * 3 + 2, none⟩ = some (.bool (rangeOf k).2.2)
def RetRng (w : World) (e : Ending) (w' : World) : Prop := ∃ b, e = .returned (.slice (some ⟨b, 0, none⟩) 9 9) ∧ w.heap.size ≤ b ∧ b < w'.heap.size ∧ RngB w' b ∧ Below w.heap.size w w'

set_option maxHeartbeats 800000 in
theorem ranges_any (w : World) : Calls Tryz.prog 64 #[] w (RetRng w) := by
  go_enter Tryz.func64, Tryz.ntmps64
  go_wp2_with fail
  go_ret
  refine ⟨w.heap.size, rfl, Nat.le_refl _, by simp, ?_, (Below.refl _ _).alloc (Nat.le_refl _) _⟩
  intro k hk
  have hways : k = 0 ∨ k = 1 ∨ k = 2 ∨ k = 3 ∨ k = 4 ∨ k = 5 ∨ k = 6 ∨ k = 7 ∨ k = 8 := by omega
  rcases hways with rfl | rfl | rfl | rfl | rfl | rfl | rfl | rfl | rfl
  all_goals exact ⟨World.cell?_alloc_at _ _ _ _ rfl, World.cell?_alloc_at _ _ _ _ rfl, World.cell?_alloc_at _ _ _ _ rfl⟩

theorem within_any (n lo hi : Int) (w : World) : Calls Tryz.prog 68 #[.int .i64 n, .int .i64 lo, .int .i64 hi] w fun e w' => e = .returned (.bool (inR n lo hi)) ∧ w = w' := by
  by_cases h1 : lo ≤ n
  · by_cases h2 : n ≤ hi
    · have e : inR n lo hi = true := by unfold inR; rw [decide_eq_true h1, decide_eq_true h2]; rfl
      rw [e]; clear e
      go_enter Tryz.func68, Tryz.ntmps68
      go_wp2_with fail
      go_ret
      exact ⟨by simp [*], rfl⟩
    · have e : inR n lo hi = false := by unfold inR; rw [decide_eq_false h2]; simp
      rw [e]; clear e
      go_enter Tryz.func68, Tryz.ntmps68
      go_wp2_with fail
      go_ret
      exact ⟨by simp [*], rfl⟩
  · have e : inR n lo hi = false := by unfold inR; rw [decide_eq_false h1]; rfl
    rw [e]; clear e
    go_enter Tryz.func68, Tryz.ntmps68
    go_wp2_with fail
    go_ret
    exact ⟨by simp [*], rfl⟩

/-- an operand as a value, its cells -/
def opCells (x : Opd) (a0 a1 a2 a3 a4 : Int) : List Value := [.string (bs x.nm), .int .i64 a0, .int .i64 a1, .int .i64 a2, .int .i64 a3, .int .i64 a4, .int .i64 x.rel, .int .i64 x.tg, .int .i64 x.wt]
def argAt (l : List Int) (i : Nat) : Int := l.getD i 0
/-- the arguments that were looked at so far -/
def argsAcc (f : Bool) (ks : List Nat) (xs : List Int) : Nat → Bool
  | 0 => f
  | i + 1 => argsAcc f ks xs i && inR (xs.getD i 0) (rangeOf (ks.getD i 0)).1 (rangeOf (ks.getD i 0)).2.1
theorem argsAcc_all (ks : List Nat) (a0 a1 a2 a3 a4 : Int) : argsAcc true ks [a0, a1, a2, a3, a4] 5 = argsOk ks [a0, a1, a2, a3, a4] := by
  have h0 : ∀ a : Int, inR a (rangeOf 0).1 (rangeOf 0).2.1 = inR a 0 0 := fun _ => rfl
  simp only [argsAcc, List.getD_cons_zero, List.getD_cons_succ, Bool.true_and]
  match ks with
  | [] => simp only [List.getD_nil, h0, argsOk, Bool.and_true, Bool.and_assoc]
  | [k] => simp only [List.getD_nil, List.getD_cons_zero, List.getD_cons_succ, h0, argsOk, Bool.and_true, Bool.and_assoc]
  | [k, k1] => simp only [List.getD_nil, List.getD_cons_zero, List.getD_cons_succ, h0, argsOk, Bool.and_true, Bool.and_assoc]
  | [k, k1, k2] => simp only [List.getD_nil, List.getD_cons_zero, List.getD_cons_succ, h0, argsOk, Bool.and_true, Bool.and_assoc]
  | [k, k1, k2, k3] => simp only [List.getD_nil, List.getD_cons_zero, List.getD_cons_succ, h0, argsOk, Bool.and_true, Bool.and_assoc]
  | k :: k1 :: k2 :: k3 :: k4 :: _ => simp only [List.getD_cons_zero, List.getD_cons_succ, argsOk, Bool.and_true, Bool.and_assoc]
theorem argsAcc_none (ks : List Nat) (xs : List Int) : ∀ n, argsAcc false ks xs n = false
  | 0 => rfl
  | n + 1 => by rw [argsAcc, argsAcc_none ks xs n]; rfl
theorem kinds_small {nm : List UInt8} {ks : List Nat} (h : kindsOf nm = some ks) : ks.length ≤ 5 ∧ ∀ i, ks.getD i 0 < 9 := by
  unfold kindsOf at h
  cases hf : kindTab.find? (fun e => e.1 == nm) with
  | none => rw [hf] at h; cases h
  | some e =>
    rw [hf] at h
    have hm := List.mem_of_find?_eq_some hf
    have he : e.2 = ks := Option.some.inj h
    have hall : ∀ e ∈ kindTab, e.2.length ≤ 5 ∧ ∀ k ∈ e.2, k < 9 := by decide
    obtain ⟨h1, h2⟩ := hall e hm
    rw [he] at h1 h2
    refine ⟨h1, fun i => ?_⟩
    rw [List.getD_eq_getElem?_getD]
    cases hg : ks[i]? with
    | none => simp
    | some k => exact h2 k (List.mem_of_getElem? hg)
theorem kinds_small' (nm : List UInt8) (i : Nat) : ((kindsOf nm).getD []).getD i 0 < 9 := by
  cases h : kindsOf nm with
  | none => simp
  | some ks => exact (kinds_small h).2 i
end Go.Proofs.YtpicmhbjiaegpaaGreatDoor

namespace Go.Proofs.YtpicmhbjiaegpaaGreatDoor
open Go.RowKit

theorem Tryz.zeroKV (w : World) : (zeroValue 48).run Tryz.prog w = .ok (kV []) w := by kernel_rfl
theorem index_5 (a b c d e : Int) (w : World) :
    (Instr.index 48 (.agg #[.int .i64 a, .int .i64 b, .int .i64 c, .int .i64 d, .int .i64 e]) (.int .i64 0)).run Tryz.prog w = .ok (.int .i64 a) w ∧
    (Instr.index 48 (.agg #[.int .i64 a, .int .i64 b, .int .i64 c, .int .i64 d, .int .i64 e]) (.int .i64 1)).run Tryz.prog w = .ok (.int .i64 b) w ∧
    (Instr.index 48 (.agg #[.int .i64 a, .int .i64 b, .int .i64 c, .int .i64 d, .int .i64 e]) (.int .i64 2)).run Tryz.prog w = .ok (.int .i64 c) w ∧
    (Instr.index 48 (.agg #[.int .i64 a, .int .i64 b, .int .i64 c, .int .i64 d, .int .i64 e]) (.int .i64 3)).run Tryz.prog w = .ok (.int .i64 d) w ∧
    (Instr.index 48 (.agg #[.int .i64 a, .int .i64 b, .int .i64 c, .int .i64 d, .int .i64 e]) (.int .i64 4)).run Tryz.prog w = .ok (.int .i64 e) w := by
  refine ⟨?_, ?_, ?_, ?_, ?_⟩ <;> kernel_rfl

/-- the operand's own variable -/
def OpdB (w : World) (b : Nat) (nm : List UInt8) (a0 a1 a2 a3 a4 rel tg wt : Int) : Prop := w.heap[b]? = some (.cells #[.string (bs nm), .int .i64 a0, .int .i64 a1, .int .i64 a2, .int .i64 a3, .int .i64 a4, .int .i64 rel, .int .i64 tg, .int .i64 wt] 50 (0, 0))
def RightRel (nm : List UInt8) (a0 a1 a2 a3 a4 rel tg wt : Int) (w : World) (v iv : Value) (wr : World) : Prop :=
  ∃ i : Nat, i ≤ 5 ∧ iv = .int .i64 (i : Int) ∧ v = .bool (argsAcc (kindsOf nm).isSome ((kindsOf nm).getD []) [a0, a1, a2, a3, a4] i) ∧ OpdB wr w.heap.size nm a0 a1 a2 a3 a4 rel tg wt ∧ Below w.heap.size w wr

set_option maxRecDepth 100000 in
set_option maxHeartbeats 3200000 in
theorem right_any (nm : List UInt8) (a0 a1 a2 a3 a4 rel tg wt : Int) (w : World) :
    Calls Tryz.prog 44 #[.agg #[.string (bs nm), .int .i64 a0, .int .i64 a1, .int .i64 a2, .int .i64 a3, .int .i64 a4, .int .i64 rel, .int .i64 tg, .int .i64 wt]] w (RetB w (.bool (opdOk ⟨nm, [a0, a1, a2, a3, a4], rel, tg, wt⟩))) := by
  have hob := heap_alloc_new w (.cells #[.string (bs nm), .int .i64 a0, .int .i64 a1, .int .i64 a2, .int .i64 a3, .int .i64 a4, .int .i64 rel, .int .i64 tg, .int .i64 wt] 50)
  have hbw : Below w.heap.size w (w.alloc (.cells #[.string (bs nm), .int .i64 a0, .int .i64 a1, .int .i64 a2, .int .i64 a3, .int .i64 a4, .int .i64 rel, .int .i64 tg, .int .i64 wt] 50)) := (Below.refl _ _).alloc (Nat.le_refl _) _
  have hlt : w.heap.size < (w.alloc (.cells #[.string (bs nm), .int .i64 a0, .int .i64 a1, .int .i64 a2, .int .i64 a3, .int .i64 a4, .int .i64 rel, .int .i64 tg, .int .i64 wt] 50)).heap.size := by simp
  have Hob := Lib.hid hob; have Hbw := Lib.hid hbw; clear hob hbw
  go_enter Tryz.func44, Tryz.ntmps44
  go_wp2_with fail
  generalize (w.alloc (.cells #[.string (bs nm), .int .i64 a0, .int .i64 a1, .int .i64 a2, .int .i64 a3, .int .i64 a4, .int .i64 rel, .int .i64 tg, .int .i64 wt] 50)) = w0 at *
  refine wp_region_floats 8 [6] [(7, 3, .cells #[.int .i64 0, .int .i64 0, .int .i64 0, .int .i64 0, .int .i64 0] 48)] [(1, true), (2, true), (0, false), (3, true), (4, true), (5, true), (6, true)] (by kernel_rfl) (by kernel_rfl) ⟨by simp, by simp, by (simp only [List.forall_mem_cons]; exact ⟨⟨by omega, _, rfl, rfl, rfl, fun _ _ => rfl⟩, fun _ h => by cases h⟩)⟩ (fun _ _ _ _ _ h => h) (fun _ _ o _ _ h => by cases o <;> exact h) ?_
  have c0 := (obj_cell Hob.out 0)
  iterate 2
    refine wpG_yield (v := ?_) rfl rfl (by rfl) ?_ ?_
    rotate_left
    · intro y hy
      have z1 := (hy.cell (p := ⟨w.heap.size, 0, none⟩) hlt).trans c0
      go_simp
      with_reducible rfl
    try simp only [Act.put, List.setIfInBounds_toArray, List.set_cons_zero, List.set_cons_succ]
  refine wpG_step rfl rfl (fun x1 hx1 K hK => ?_)
  go_simp
  have hx1' : Below w0.heap.size w0 x1 := below_undrew (k := 1) hx1
  refine (kinds_any _).mono ?_
  rintro e w2 ⟨b, rfl, hbg, hmk, hb2⟩
  refine hK _ _ hb2 ?_
  clear hK K
  have Hx2 := Lib.hid (hx1'.trans (hb2.mono hx1'.size)); have Hmk := Lib.hid hmk; have hmkl := hmk.lt
  clear hx1 hx1' hb2 hbg hmk
  try simp only [Act.put, List.setIfInBounds_toArray, List.set_cons_zero, List.set_cons_succ]
  refine wpG_yield (v := ?_) rfl rfl (by rfl) ?_ ?_
  rotate_left
  · intro y hy
    have z1 := run_lookup_K (P := Tryz.prog) (w := y) (t := 114) Tryz.underlying114 Tryz.underlying9 (Tryz.zeroKV y) (Hmk.out.block (hy.block b hmkl)) nm true
    rw [if_pos rfl, lookK_all] at z1
    go_simp
    with_reducible rfl
  try simp only [Act.put, List.setIfInBounds_toArray, List.set_cons_zero, List.set_cons_succ]
  iterate 3
    refine wpG_pure (v := ?_) rfl (by rfl) ?_ ?_
    rotate_left
    · intro y
      go_simp
      with_reducible rfl
    try simp only [Act.put, List.setIfInBounds_toArray, List.set_cons_zero, List.set_cons_succ]
  refine wpG_nil1 rfl (fun b1 w3 hb1 hb3 hcell => ?_)
  try simp only [Act.put, List.setIfInBounds_toArray, List.set_cons_zero, List.set_cons_succ]
  have hx3 : Below w0.heap.size w0 w3 := Hx2.out.trans (hb3.mono Hx2.out.size)
  have hb1g : w0.heap.size ≤ b1 := by
    have := hb1.1
    simpa using this
  have hob3 := (hx3.block w.heap.size hlt).trans Hob.out
  have hbw3 := Hbw.out.trans (hx3.mono Hbw.out.size)
  obtain ⟨p0, p1, p2, p3, p4⟩ : (∀ i, i < 5 → w3.cell? ⟨b1, i, none⟩ = some (.int .i64 0)) ∧ (∀ i, w3.frozen? ⟨b1, i, none⟩ = false) ∧ b1 < w3.heap.size ∧ True ∧ True := by
    refine ⟨fun i hi => ?_, obj_free hcell, lt_of_block hcell, trivial, trivial⟩
    rw [obj_cell hcell i]
    have hw : i = 0 ∨ i = 1 ∨ i = 2 ∨ i = 3 ∨ i = 4 := by omega
    rcases hw with rfl | rfl | rfl | rfl | rfl <;> rfl
  have hkv : kV ((kindsOf nm).getD []) = .agg #[.int .i64 (((kindsOf nm).getD []).getD 0 0 : Nat), .int .i64 (((kindsOf nm).getD []).getD 1 0 : Nat), .int .i64 (((kindsOf nm).getD []).getD 2 0 : Nat), .int .i64 (((kindsOf nm).getD []).getD 3 0 : Nat), .int .i64 (((kindsOf nm).getD []).getD 4 0 : Nat)] := rfl
  rw [hkv]
  clear hkv
  have hacc : ∀ i, argsAcc (kindsOf nm).isSome ((kindsOf nm).getD []) [a0, a1, a2, a3, a4] (i + 1) = (argsAcc (kindsOf nm).isSome ((kindsOf nm).getD []) [a0, a1, a2, a3, a4] i && inR ([a0, a1, a2, a3, a4].getD i 0) (rangeOf (((kindsOf nm).getD []).getD i 0)).1 (rangeOf (((kindsOf nm).getD []).getD i 0)).2.1) := fun i => rfl
  have hks := kinds_small' nm
  have hacc0 : argsAcc (kindsOf nm).isSome ((kindsOf nm).getD []) [a0, a1, a2, a3, a4] 0 = (kindsOf nm).isSome := rfl
  have hfin : opdOk ⟨nm, [a0, a1, a2, a3, a4], rel, tg, wt⟩ = (argsAcc (kindsOf nm).isSome ((kindsOf nm).getD []) [a0, a1, a2, a3, a4] 5 && inR rel 1 3 && inR tg (-1000000000000) 1000000000000 && (if rel = 1 then inR wt 1 1000 else decide (wt = 0))) := by
    unfold opdOk
    cases hk : kindsOf nm with
    | none => simp only [Option.isSome_none, argsAcc_none, Bool.false_and]
    | some ks => simp only [Option.isSome_some, Option.getD_some, argsAcc_all]
  generalize hAC : argsAcc (kindsOf nm).isSome ((kindsOf nm).getD []) [a0, a1, a2, a3, a4] = AC at *
  generalize (kindsOf nm).getD [] = ks at *
  generalize (kindsOf nm).isSome = fd at *
  have hk0 := hks 0; have hk1 := hks 1; have hk2 := hks 2; have hk3 := hks 3; have hk4 := hks 4
  have hc0 := hacc 0; have hc1 := hacc 1; have hc2 := hacc 2; have hc3 := hacc 3; have hc4 := hacc 4
  simp only [List.getD_cons_zero, List.getD_cons_succ] at hc0 hc1 hc2 hc3 hc4
  have HC0 := Lib.hid hc0; have HC1 := Lib.hid hc1; have HC2 := Lib.hid hc2; have HC3 := Lib.hid hc3; have HC4 := Lib.hid hc4; have Hacc0 := Lib.hid hacc0; have Hfin := Lib.hid hfin
  have Hob3 := Lib.hid hob3; have Hbw3 := Lib.hid hbw3
  clear hc0 hc1 hc2 hc3 hc4 hacc hks hacc0 hfin hAC hob3 hbw3 hx3 hb3 Hx2 Hmk Hob Hbw c0 hb1 p3 p4
  generalize ks.getD 0 0 = k0 at *
  generalize ks.getD 1 0 = k1 at *
  generalize ks.getD 2 0 = k2 at *
  generalize ks.getD 3 0 = k3 at *
  generalize ks.getD 4 0 = k4 at *
  have q0 := p0 0 (by omega); have q1 := p0 1 (by omega); have q2 := p0 2 (by omega); have q3 := p0 3 (by omega); have q4 := p0 4 (by omega)
  clear p0
  have f0 := p1 0; have f1 := p1 1; have f2 := p1 2; have f3 := p1 3; have f4 := p1 4
  clear p1
  go_wp2_with fail
  have hne : b1 ≠ w.heap.size := by omega
  have hwb1 : w.heap.size ≤ b1 := by omega
  have hob4 := obj_other (obj_other (obj_other (obj_other (obj_other Hob3.out ⟨b1, 0, none⟩ hne (.int .i64 (k0 : Int))) ⟨b1, 1, none⟩ hne (.int .i64 (k1 : Int))) ⟨b1, 2, none⟩ hne (.int .i64 (k2 : Int))) ⟨b1, 3, none⟩ hne (.int .i64 (k3 : Int))) ⟨b1, 4, none⟩ hne (.int .i64 (k4 : Int))
  have hbw4 := ((((Hbw3.out.setCell (p := ⟨b1, 0, none⟩) hwb1 (.int .i64 (k0 : Int))).setCell (p := ⟨b1, 1, none⟩) hwb1 (.int .i64 (k1 : Int))).setCell (p := ⟨b1, 2, none⟩) hwb1 (.int .i64 (k2 : Int))).setCell (p := ⟨b1, 3, none⟩) hwb1 (.int .i64 (k3 : Int))).setCell (p := ⟨b1, 4, none⟩) hwb1 (.int .i64 (k4 : Int))
  generalize (((((w3.setCell ⟨b1, 0, none⟩ (.int .i64 (k0 : Int))).setCell ⟨b1, 1, none⟩ (.int .i64 (k1 : Int))).setCell ⟨b1, 2, none⟩ (.int .i64 (k2 : Int))).setCell ⟨b1, 3, none⟩ (.int .i64 (k3 : Int))).setCell ⟨b1, 4, none⟩ (.int .i64 (k4 : Int))) = w4 at *
  have Hob4 := Lib.hid hob4; have Hbw4 := Lib.hid hbw4
  clear hob4 hbw4 Hob3 Hbw3 f0 f1 f2 f3 f4 q0 q1 q2 q3 q4 hne hwb1 p2 hmkl hb1g hlt hcell
  have hbd : OpdB w4 w.heap.size nm a0 a1 a2 a3 a4 rel tg wt := Hob4.out
  go_loopw [4, 17] (fun v iv wr => ∃ i : Nat, i ≤ 5 ∧ iv = .int .i64 (i : Int) ∧ v = .bool (AC i) ∧ OpdB wr w.heap.size nm a0 a1 a2 a3 a4 rel tg wt ∧ Below w.heap.size w wr) (fun _ iv _ => 5 - (intOf iv).toNat)
  case atStart => exact ⟨0, by omega, rfl, by rw [Hacc0.out], hbd, Hbw4.out⟩
  case round =>
    obtain ⟨i, hi, rfl, rfl, hb, hbw⟩ := hrel
    have hsz := lt_of_block hb
    have Hb := Lib.hid hb; have Hbw := Lib.hid hbw; clear hb hbw hbd Hob4 Hbw4
    have hways : i = 0 ∨ i = 1 ∨ i = 2 ∨ i = 3 ∨ i = 4 ∨ i = 5 := by omega
    rcases hways with rfl | rfl | rfl | rfl | rfl | rfl
    · have hix := fun w => (index_5 (k0 : Int) k1 k2 k3 k4 w).1
      go_wp2_with fail
      refine (ranges_any _).mono ?_
      rintro e w5 ⟨b5, rfl, hb5, hb5s, hrg, hbb⟩
      obtain ⟨r0, r1, r2⟩ := hrg k0 hk0
      have Hbb := Lib.hid hbb; have Hr := Lib.hid hrg; clear hbb hrg
      go_wp2_with fail
      have hb6 := (Below.refl w5.heap.size w5).alloc (Nat.le_refl _) (.cells #[.int .i64 (rangeOf k0).1, .int .i64 (rangeOf k0).2.1, .bool (rangeOf k0).2.2] 117)
      have hn6 := heap_alloc_new w5 (.cells #[.int .i64 (rangeOf k0).1, .int .i64 (rangeOf k0).2.1, .bool (rangeOf k0).2.2] 117)
      have hbb6 : Below wr.heap.size wr (w5.alloc (.cells #[.int .i64 (rangeOf k0).1, .int .i64 (rangeOf k0).2.1, .bool (rangeOf k0).2.2] 117)) := Hbb.out.trans (hb6.mono Hbb.out.size)
      generalize (w5.alloc (.cells #[.int .i64 (rangeOf k0).1, .int .i64 (rangeOf k0).2.1, .bool (rangeOf k0).2.2] 117)) = w6 at *
      have hob6 := (hbb6.block w.heap.size hsz).trans Hb.out
      have Hob6 := Lib.hid hob6; have Hw6 := Lib.hid (Hbw.out.trans (hbb6.mono Hbw.out.size))
      have a1c := (obj_cell hob6 1); have g1 := (obj_cell hn6 0); have g2 := (obj_cell hn6 1)
      have g1' : w6.cell? ⟨w5.heap.size, 0, none⟩ = some (.int .i64 (rangeOf k0).1) := g1.trans rfl
      have g2' : w6.cell? ⟨w5.heap.size, 1, none⟩ = some (.int .i64 (rangeOf k0).2.1) := g2.trans rfl
      have a1c' : w6.cell? ⟨w.heap.size, 1, none⟩ = some (.int .i64 a0) := a1c.trans rfl
      have hacn := HC0.out
      clear hob6 g1 g2 a1c hn6 hb6 hbb6 r0 r1 r2 Hr Hbb
      cases hac : AC 0
      · rw [hac, Bool.false_and] at hacn
        have Hacn := Lib.hid hacn; clear hacn hac
        go_quiet ((go_at_call 68; exact Calls.quiet_of_same ((within_any _ _ _ _).mono fun _ _ h => ⟨h.1, h.2.symm⟩)))
        go_wp2_with fail
        go_roundw
        case rel => exact ⟨1, by omega, rfl, by rw [Hacn.out], Hob6.out, below_drewN Hw6.out _⟩
        case measure => simp [intOf]
      · rw [hac, Bool.true_and] at hacn
        have Hacn := Lib.hid hacn; clear hacn hac
        go_quiet ((go_at_call 68; exact Calls.quiet_of_same ((within_any _ _ _ _).mono fun _ _ h => ⟨h.1, h.2.symm⟩)))
        go_wp2_with fail
        go_roundw
        case rel => exact ⟨1, by omega, rfl, by rw [Hacn.out], Hob6.out, below_drewN Hw6.out _⟩
        case measure => simp [intOf]
    · have hix := fun w => (index_5 (k0 : Int) k1 k2 k3 k4 w).2.1
      go_wp2_with fail
      refine (ranges_any _).mono ?_
      rintro e w5 ⟨b5, rfl, hb5, hb5s, hrg, hbb⟩
      obtain ⟨r0, r1, r2⟩ := hrg k1 hk1
      have Hbb := Lib.hid hbb; have Hr := Lib.hid hrg; clear hbb hrg
      go_wp2_with fail
      have hb6 := (Below.refl w5.heap.size w5).alloc (Nat.le_refl _) (.cells #[.int .i64 (rangeOf k1).1, .int .i64 (rangeOf k1).2.1, .bool (rangeOf k1).2.2] 117)
      have hn6 := heap_alloc_new w5 (.cells #[.int .i64 (rangeOf k1).1, .int .i64 (rangeOf k1).2.1, .bool (rangeOf k1).2.2] 117)
      have hbb6 : Below wr.heap.size wr (w5.alloc (.cells #[.int .i64 (rangeOf k1).1, .int .i64 (rangeOf k1).2.1, .bool (rangeOf k1).2.2] 117)) := Hbb.out.trans (hb6.mono Hbb.out.size)
      generalize (w5.alloc (.cells #[.int .i64 (rangeOf k1).1, .int .i64 (rangeOf k1).2.1, .bool (rangeOf k1).2.2] 117)) = w6 at *
      have hob6 := (hbb6.block w.heap.size hsz).trans Hb.out
      have Hob6 := Lib.hid hob6; have Hw6 := Lib.hid (Hbw.out.trans (hbb6.mono Hbw.out.size))
      have a1c := (obj_cell hob6 2); have g1 := (obj_cell hn6 0); have g2 := (obj_cell hn6 1)
      have g1' : w6.cell? ⟨w5.heap.size, 0, none⟩ = some (.int .i64 (rangeOf k1).1) := g1.trans rfl
      have g2' : w6.cell? ⟨w5.heap.size, 1, none⟩ = some (.int .i64 (rangeOf k1).2.1) := g2.trans rfl
      have a1c' : w6.cell? ⟨w.heap.size, 2, none⟩ = some (.int .i64 a1) := a1c.trans rfl
      have hacn := HC1.out
      clear hob6 g1 g2 a1c hn6 hb6 hbb6 r0 r1 r2 Hr Hbb
      cases hac : AC 1
      · rw [hac, Bool.false_and] at hacn
        have Hacn := Lib.hid hacn; clear hacn hac
        go_quiet ((go_at_call 68; exact Calls.quiet_of_same ((within_any _ _ _ _).mono fun _ _ h => ⟨h.1, h.2.symm⟩)))
        go_wp2_with fail
        go_roundw
        case rel => exact ⟨2, by omega, rfl, by rw [Hacn.out], Hob6.out, below_drewN Hw6.out _⟩
        case measure => simp [intOf]
      · rw [hac, Bool.true_and] at hacn
        have Hacn := Lib.hid hacn; clear hacn hac
        go_quiet ((go_at_call 68; exact Calls.quiet_of_same ((within_any _ _ _ _).mono fun _ _ h => ⟨h.1, h.2.symm⟩)))
        go_wp2_with fail
        go_roundw
        case rel => exact ⟨2, by omega, rfl, by rw [Hacn.out], Hob6.out, below_drewN Hw6.out _⟩
        case measure => simp [intOf]
    · have hix := fun w => (index_5 (k0 : Int) k1 k2 k3 k4 w).2.2.1
      go_wp2_with fail
      refine (ranges_any _).mono ?_
      rintro e w5 ⟨b5, rfl, hb5, hb5s, hrg, hbb⟩
      obtain ⟨r0, r1, r2⟩ := hrg k2 hk2
      have Hbb := Lib.hid hbb; have Hr := Lib.hid hrg; clear hbb hrg
      go_wp2_with fail
      have hb6 := (Below.refl w5.heap.size w5).alloc (Nat.le_refl _) (.cells #[.int .i64 (rangeOf k2).1, .int .i64 (rangeOf k2).2.1, .bool (rangeOf k2).2.2] 117)
      have hn6 := heap_alloc_new w5 (.cells #[.int .i64 (rangeOf k2).1, .int .i64 (rangeOf k2).2.1, .bool (rangeOf k2).2.2] 117)
      have hbb6 : Below wr.heap.size wr (w5.alloc (.cells #[.int .i64 (rangeOf k2).1, .int .i64 (rangeOf k2).2.1, .bool (rangeOf k2).2.2] 117)) := Hbb.out.trans (hb6.mono Hbb.out.size)
      generalize (w5.alloc (.cells #[.int .i64 (rangeOf k2).1, .int .i64 (rangeOf k2).2.1, .bool (rangeOf k2).2.2] 117)) = w6 at *
      have hob6 := (hbb6.block w.heap.size hsz).trans Hb.out
      have Hob6 := Lib.hid hob6; have Hw6 := Lib.hid (Hbw.out.trans (hbb6.mono Hbw.out.size))
      have a1c := (obj_cell hob6 3); have g1 := (obj_cell hn6 0); have g2 := (obj_cell hn6 1)
      have g1' : w6.cell? ⟨w5.heap.size, 0, none⟩ = some (.int .i64 (rangeOf k2).1) := g1.trans rfl
      have g2' : w6.cell? ⟨w5.heap.size, 1, none⟩ = some (.int .i64 (rangeOf k2).2.1) := g2.trans rfl
      have a1c' : w6.cell? ⟨w.heap.size, 3, none⟩ = some (.int .i64 a2) := a1c.trans rfl
      have hacn := HC2.out
      clear hob6 g1 g2 a1c hn6 hb6 hbb6 r0 r1 r2 Hr Hbb
      cases hac : AC 2
      · rw [hac, Bool.false_and] at hacn
        have Hacn := Lib.hid hacn; clear hacn hac
        go_quiet ((go_at_call 68; exact Calls.quiet_of_same ((within_any _ _ _ _).mono fun _ _ h => ⟨h.1, h.2.symm⟩)))
        go_wp2_with fail
        go_roundw
        case rel => exact ⟨3, by omega, rfl, by rw [Hacn.out], Hob6.out, below_drewN Hw6.out _⟩
        case measure => simp [intOf]
      · rw [hac, Bool.true_and] at hacn
        have Hacn := Lib.hid hacn; clear hacn hac
        go_quiet ((go_at_call 68; exact Calls.quiet_of_same ((within_any _ _ _ _).mono fun _ _ h => ⟨h.1, h.2.symm⟩)))
        go_wp2_with fail
        go_roundw
        case rel => exact ⟨3, by omega, rfl, by rw [Hacn.out], Hob6.out, below_drewN Hw6.out _⟩
        case measure => simp [intOf]
    · have hix := fun w => (index_5 (k0 : Int) k1 k2 k3 k4 w).2.2.2.1
      go_wp2_with fail
      refine (ranges_any _).mono ?_
      rintro e w5 ⟨b5, rfl, hb5, hb5s, hrg, hbb⟩
      obtain ⟨r0, r1, r2⟩ := hrg k3 hk3
      have Hbb := Lib.hid hbb; have Hr := Lib.hid hrg; clear hbb hrg
      go_wp2_with fail
      have hb6 := (Below.refl w5.heap.size w5).alloc (Nat.le_refl _) (.cells #[.int .i64 (rangeOf k3).1, .int .i64 (rangeOf k3).2.1, .bool (rangeOf k3).2.2] 117)
      have hn6 := heap_alloc_new w5 (.cells #[.int .i64 (rangeOf k3).1, .int .i64 (rangeOf k3).2.1, .bool (rangeOf k3).2.2] 117)
      have hbb6 : Below wr.heap.size wr (w5.alloc (.cells #[.int .i64 (rangeOf k3).1, .int .i64 (rangeOf k3).2.1, .bool (rangeOf k3).2.2] 117)) := Hbb.out.trans (hb6.mono Hbb.out.size)
      generalize (w5.alloc (.cells #[.int .i64 (rangeOf k3).1, .int .i64 (rangeOf k3).2.1, .bool (rangeOf k3).2.2] 117)) = w6 at *
      have hob6 := (hbb6.block w.heap.size hsz).trans Hb.out
      have Hob6 := Lib.hid hob6; have Hw6 := Lib.hid (Hbw.out.trans (hbb6.mono Hbw.out.size))
      have a1c := (obj_cell hob6 4); have g1 := (obj_cell hn6 0); have g2 := (obj_cell hn6 1)
      have g1' : w6.cell? ⟨w5.heap.size, 0, none⟩ = some (.int .i64 (rangeOf k3).1) := g1.trans rfl
      have g2' : w6.cell? ⟨w5.heap.size, 1, none⟩ = some (.int .i64 (rangeOf k3).2.1) := g2.trans rfl
      have a1c' : w6.cell? ⟨w.heap.size, 4, none⟩ = some (.int .i64 a3) := a1c.trans rfl
      have hacn := HC3.out
      clear hob6 g1 g2 a1c hn6 hb6 hbb6 r0 r1 r2 Hr Hbb
      cases hac : AC 3
      · rw [hac, Bool.false_and] at hacn
        have Hacn := Lib.hid hacn; clear hacn hac
        go_quiet ((go_at_call 68; exact Calls.quiet_of_same ((within_any _ _ _ _).mono fun _ _ h => ⟨h.1, h.2.symm⟩)))
        go_wp2_with fail
        go_roundw
        case rel => exact ⟨4, by omega, rfl, by rw [Hacn.out], Hob6.out, below_drewN Hw6.out _⟩
        case measure => simp [intOf]
      · rw [hac, Bool.true_and] at hacn
        have Hacn := Lib.hid hacn; clear hacn hac
        go_quiet ((go_at_call 68; exact Calls.quiet_of_same ((within_any _ _ _ _).mono fun _ _ h => ⟨h.1, h.2.symm⟩)))
        go_wp2_with fail
        go_roundw
        case rel => exact ⟨4, by omega, rfl, by rw [Hacn.out], Hob6.out, below_drewN Hw6.out _⟩
        case measure => simp [intOf]
    · have hix := fun w => (index_5 (k0 : Int) k1 k2 k3 k4 w).2.2.2.2
      go_wp2_with fail
      refine (ranges_any _).mono ?_
      rintro e w5 ⟨b5, rfl, hb5, hb5s, hrg, hbb⟩
      obtain ⟨r0, r1, r2⟩ := hrg k4 hk4
      have Hbb := Lib.hid hbb; have Hr := Lib.hid hrg; clear hbb hrg
      go_wp2_with fail
      have hb6 := (Below.refl w5.heap.size w5).alloc (Nat.le_refl _) (.cells #[.int .i64 (rangeOf k4).1, .int .i64 (rangeOf k4).2.1, .bool (rangeOf k4).2.2] 117)
      have hn6 := heap_alloc_new w5 (.cells #[.int .i64 (rangeOf k4).1, .int .i64 (rangeOf k4).2.1, .bool (rangeOf k4).2.2] 117)
      have hbb6 : Below wr.heap.size wr (w5.alloc (.cells #[.int .i64 (rangeOf k4).1, .int .i64 (rangeOf k4).2.1, .bool (rangeOf k4).2.2] 117)) := Hbb.out.trans (hb6.mono Hbb.out.size)
      generalize (w5.alloc (.cells #[.int .i64 (rangeOf k4).1, .int .i64 (rangeOf k4).2.1, .bool (rangeOf k4).2.2] 117)) = w6 at *
      have hob6 := (hbb6.block w.heap.size hsz).trans Hb.out
      have Hob6 := Lib.hid hob6; have Hw6 := Lib.hid (Hbw.out.trans (hbb6.mono Hbw.out.size))
      have a1c := (obj_cell hob6 5); have g1 := (obj_cell hn6 0); have g2 := (obj_cell hn6 1)
      have g1' : w6.cell? ⟨w5.heap.size, 0, none⟩ = some (.int .i64 (rangeOf k4).1) := g1.trans rfl
      have g2' : w6.cell? ⟨w5.heap.size, 1, none⟩ = some (.int .i64 (rangeOf k4).2.1) := g2.trans rfl
      have a1c' : w6.cell? ⟨w.heap.size, 5, none⟩ = some (.int .i64 a4) := a1c.trans rfl
      have hacn := HC4.out
      clear hob6 g1 g2 a1c hn6 hb6 hbb6 r0 r1 r2 Hr Hbb
      cases hac : AC 4
      · rw [hac, Bool.false_and] at hacn
        have Hacn := Lib.hid hacn; clear hacn hac
        go_quiet ((go_at_call 68; exact Calls.quiet_of_same ((within_any _ _ _ _).mono fun _ _ h => ⟨h.1, h.2.symm⟩)))
        go_wp2_with fail
        go_roundw
        case rel => exact ⟨5, by omega, rfl, by rw [Hacn.out], Hob6.out, below_drewN Hw6.out _⟩
        case measure => simp [intOf]
      · rw [hac, Bool.true_and] at hacn
        have Hacn := Lib.hid hacn; clear hacn hac
        go_quiet ((go_at_call 68; exact Calls.quiet_of_same ((within_any _ _ _ _).mono fun _ _ h => ⟨h.1, h.2.symm⟩)))
        go_wp2_with fail
        go_roundw
        case rel => exact ⟨5, by omega, rfl, by rw [Hacn.out], Hob6.out, below_drewN Hw6.out _⟩
        case measure => simp [intOf]
    · rw [show ((5 : Nat) : Int) = 5 from rfl]
      have c6 : wr.cell? ⟨w.heap.size, 6, none⟩ = some (.int .i64 rel) := (obj_cell Hb.out 6).trans rfl
      have c7 : wr.cell? ⟨w.heap.size, 7, none⟩ = some (.int .i64 tg) := (obj_cell Hb.out 7).trans rfl
      have c8 : wr.cell? ⟨w.heap.size, 8, none⟩ = some (.int .i64 wt) := (obj_cell Hb.out 8).trans rfl
      obtain ⟨WB, hWB⟩ : ∃ WB : Bool, WB = (if rel = 1 then inR wt 1 1000 else decide (wt = 0)) := ⟨_, rfl⟩
      have HWB := Lib.hid hWB; clear hWB
      go_upto_region 8 with fail
      go_cut [8] (fun v wx => v = .bool WB ∧ wr = wx)
      case first =>
        by_cases hr : rel = 1
        · subst hr
          have hw2 : WB = inR wt 1 1000 := by rw [HWB.out, if_pos rfl]
          have Hw2 := Lib.hid hw2; clear hw2
          cases hin : inR wt 1 1000
          all_goals
            have Hin := Lib.hid hin
            go_wp2_with (go_at_call 68; refine (within_any _ _ _ _).mono ?_; rintro e w' ⟨rfl, rfl⟩; rw [hin])
            go_meet
            exact ⟨by rw [Hw2.out, Hin.out], rfl⟩
        · have hr1 : (rel == 1) = false := by rw [beq_eq_false_iff_ne]; exact hr
          have hr2 : (rel != 1) = true := by rw [bne, hr1]; rfl
          have hw2 : WB = (wt == 0) := by
            rw [HWB.out, if_neg hr]
            by_cases h : wt = 0
            · subst h; rfl
            · rw [decide_eq_false h, beq_eq_false_iff_ne.2 h]
          have Hw2 := Lib.hid hw2; clear hw2 hr
          cases hin : (wt == 0)
          all_goals
            have Hin := Lib.hid hin
            go_wp2_with fail
            go_meet
            exact ⟨by rw [Hw2.out, Hin.out], rfl⟩
      case rest =>
        obtain ⟨rfl, rfl⟩ := hcut
        have hfin := Hfin.out
        rw [← HWB.out] at hfin
        have Hfin2 := Lib.hid hfin; clear hfin
        cases hA5 : AC 5
        · go_wp2_with (go_at_call 68; refine (within_any _ _ _ _).mono ?_; rintro e w' ⟨rfl, rfl⟩)
          go_ret
          refine ⟨?_, Hbw.out⟩
          rw [Hfin2.out, hA5]; simp
        · cases hWB : WB
          · go_wp2_with (go_at_call 68; refine (within_any _ _ _ _).mono ?_; rintro e w' ⟨rfl, rfl⟩)
            go_ret
            refine ⟨?_, Hbw.out⟩
            rw [Hfin2.out, hA5, hWB]; simp
          · cases hrl : inR rel 1 3
            · go_wp2_with (go_at_call 68; refine (within_any _ _ _ _).mono ?_; rintro e w' ⟨rfl, rfl⟩)
              go_ret
              refine ⟨?_, Hbw.out⟩
              rw [Hfin2.out, hA5, hWB, hrl]; simp
            · go_wp2_with (go_at_call 68; refine (within_any _ _ _ _).mono ?_; rintro e w' ⟨rfl, rfl⟩)
              go_ret
              refine ⟨?_, Hbw.out⟩
              rw [Hfin2.out, hA5, hWB, hrl]; simp
end Go.Proofs.YtpicmhbjiaegpaaGreatDoor

namespace Go.Proofs.YtpicmhbjiaegpaaGreatDoor
open Go.RowKit

theorem below_chain {w A w' : World} (h1 : Below w.heap.size w A) (h2 : Below A.heap.size A w') : Below w.heap.size w w' := h1.trans (h2.mono h1.size)
theorem take_next {α : Type} {l : List α} {k : Nat} {x : α} (h : l[k]? = some x) : l.take (k + 1) = l.take k ++ [x] := by
  rw [List.take_add_one, h]; rfl
theorem any_takeS {α : Type} {f : α → Bool} {l : List α} {k : Nat} {x : α} (h : l[k]? = some x) (h0 : (l.take k).any f = false) : (l.take (k + 1)).any f = f x := by
  rw [take_next h, List.any_append, h0]; simp
theorem any_mem {α : Type} {f : α → Bool} {l : List α} {k : Nat} {x : α} (h : l[k]? = some x) (h0 : f x = true) : l.any f = true := List.any_eq_true.2 ⟨x, List.mem_of_getElem? h, h0⟩
def RetAt (w : World) (b : Bool) (e : Ending) (w' : World) : Prop := ∃ r : Int, e = .returned (.int .i64 r) ∧ decide (0 ≤ r) = b ∧ Below w.heap.size w w'

/-- how an operand lies in memory -/
def OpdR : Rep Opd := fun _ _ x cs => ∃ a0 a1 a2 a3 a4, x.ag = [a0, a1, a2, a3, a4] ∧ cs = opCells x a0 a1 a2 a3 a4
theorem opdOkR : RepOk 9 OpdR where
  len := by rintro S w x cs ⟨a0, a1, a2, a3, a4, _, rfl⟩; rfl
  kept := by rintro S T w w' x cs h _ _; exact h
  one := by rintro S w x cs ⟨a0, a1, a2, a3, a4, _, rfl⟩ v hv; unfold opCells at hv; simp only [List.mem_cons, List.not_mem_nil, or_false] at hv; rcases hv with rfl | rfl | rfl | rfl | rfl | rfl | rfl | rfl | rfl <;> rfl
theorem Tryz.infoOpd : (Tryz.prog.info? 50).map (·.size) = some 9 := by kernel_rfl
theorem Tryz.infoOpd3 : (Tryz.prog.info? 50).map (fun i => (i.zero, i.size, i.bytes)) = some (some (.agg #[.string { data := #[] }, .int .i64 0, .int .i64 0, .int .i64 0, .int .i64 0, .int .i64 0, .int .i64 0, .int .i64 0, .int .i64 0]), 9, 80) := by kernel_rfl
/-- an operand is loaded out of a list -/
theorem wpL_load_op {ops : Array Oper} {rest : List Oper} {op : Oper} {ac : Act} {w : World} {Q : Exit → Act → World → Prop} {b o : Nat} {x : Opd} {a0 a1 a2 a3 a4 : Int} (h : w.rangeAt b o (opCells x a0 a1 a2 a3 a4)) (hgd : op.guard = none) (p : Operand) (ho : op.op = .load 50 p)
    (hx : ac.eval p = .pointer (some ⟨b, o, none⟩)) (hk : wpList Tryz.prog ops Q rest (ac.put op.dst (.agg #[.string (bs x.nm), .int .i64 a0, .int .i64 a1, .int .i64 a2, .int .i64 a3, .int .i64 a4, .int .i64 x.rel, .int .i64 x.tg, .int .i64 x.wt])) w) : wpList Tryz.prog ops Q (op :: rest) ac w :=
  wpList_load_mid hgd 50 p ho b o hx (opCells x a0 a1 a2 a3 a4) _ h Tryz.underlying50 rfl Tryz.infoOpd hk
theorem opd_eta {x : Opd} {a0 a1 a2 a3 a4 : Int} (h : x.ag = [a0, a1, a2, a3, a4]) : (⟨x.nm, [a0, a1, a2, a3, a4], x.rel, x.tg, x.wt⟩ : Opd) = x := by
  cases x; simp only at h; subst h; rfl
theorem right_opd {x : Opd} {a0 a1 a2 a3 a4 : Int} (h : x.ag = [a0, a1, a2, a3, a4]) (w : World) :
    Calls Tryz.prog 44 #[.agg #[.string (bs x.nm), .int .i64 a0, .int .i64 a1, .int .i64 a2, .int .i64 a3, .int .i64 a4, .int .i64 x.rel, .int .i64 x.tg, .int .i64 x.wt]] w (RetB w (.bool (opdOk x))) := by
  have := right_any x.nm a0 a1 a2 a3 a4 x.rel x.tg x.wt w
  rw [opd_eta h] at this; exact this

set_option maxHeartbeats 400000 in
theorem wrong_any {x : Opd} {a0 a1 a2 a3 a4 : Int} (h : x.ag = [a0, a1, a2, a3, a4]) (w : World) :
    Calls Tryz.prog 43 #[.agg #[.string (bs x.nm), .int .i64 a0, .int .i64 a1, .int .i64 a2, .int .i64 a3, .int .i64 a4, .int .i64 x.rel, .int .i64 x.tg, .int .i64 x.wt]] w (RetB w (.bool (!opdOk x))) := by
  have H := Lib.hid h; clear h
  have hb0 := (Below.refl w.heap.size w).alloc (Nat.le_refl _) (.cells #[.string (bs x.nm), .int .i64 a0, .int .i64 a1, .int .i64 a2, .int .i64 a3, .int .i64 a4, .int .i64 x.rel, .int .i64 x.tg, .int .i64 x.wt] 50)
  have Hb0 := Lib.hid hb0; clear hb0
  go_enter Tryz.func43, Tryz.ntmps43
  go_wp2_with fail
  refine (right_opd H.out _).mono ?_
  rintro e w1 ⟨rfl, hb1⟩
  have Hb1 := Lib.hid (Hb0.out.trans (hb1.mono Hb0.out.size)); clear hb1
  cases hv : opdOk x
  all_goals
    go_wp2_with fail
    go_ret
    exact ⟨by rw [hv]; rfl, Hb1.out⟩

def badL (l : List Opd) : Bool := l.any fun x => !opdOk x
set_option maxRecDepth 100000 in
set_option maxHeartbeats 1600000 in
theorem index_bad (l : List Opd) (a : Option Addr) (n c : Nat) (w : World) (h : RR OpdR 9 (fun b => b < w.heap.size) w a n c l) (hn : n ≤ 1000000) :
    Calls Tryz.prog 67 #[.slice a n c, .func (.func 43) #[] #[]] w (RetAt w (badL l)) := by
  have H := Lib.hid h; clear h
  have hlen := H.out.1
  go_enter Tryz.func67, Tryz.ntmps67
  go_wp2_with fail
  go_loopw [8] (fun iv wr => ∃ k : Nat, k ≤ n ∧ iv = .int .i64 (k : Int) ∧ (l.take k).any (fun x => !opdOk x) = false ∧ Below w.heap.size w wr) (fun iv _ => n - (intOf iv).toNat)
  case atStart => exact ⟨0, Nat.zero_le _, rfl, rfl, Below.refl _ _⟩
  case round =>
    obtain ⟨k, hk, rfl, ho, hb⟩ := hrel
    have Ho := Lib.hid ho; have Hb := Lib.hid hb
    clear ho hb
    by_cases hkn : k < n
    · obtain ⟨b, off, x, cs, rfl, hlt, hx, ⟨a0, a1, a2, a3, a4, ha, rfl⟩, hr⟩ := (H.out.go opdOkR Hb.out).at hkn
      have Hx := Lib.hid hx; have Hr := Lib.hid hr; have Ha := Lib.hid ha
      clear hx hr ha
      cases hv : opdOk x
      all_goals
        have Hv := Lib.hid hv; clear hv
        go_wp2_with (first
          | (refine wpL_load_op Hr.out rfl (.tmp 14) rfl rfl ?_)
          | ((with_reducible refine (wrong_any Ha.out _).mono ?_); rintro e w2 ⟨he, hb2⟩; rw [Hv.out] at he; simp only [Bool.not_true, Bool.not_false] at he; subst he))
      · go_ret
        refine ⟨(k : Int), rfl, ?_, below_chain Hb.out hb2⟩
        unfold badL
        rw [any_mem (f := fun x => !opdOk x) Hx.out (by rw [Hv.out]; rfl)]
        simp
      · go_roundw
        case rel => exact ⟨k + 1, by omega, by go_num, (any_takeS Hx.out Ho.out).trans (by rw [Hv.out]; rfl), below_chain Hb.out hb2⟩
        case measure => simp [intOf]; omega
    · obtain rfl : k = n := by omega
      go_wp2
      go_ret
      refine ⟨-1, rfl, ?_, Hb.out⟩
      have h1 := Ho.out
      rw [← hlen, List.take_length] at h1
      unfold badL
      rw [h1]; rfl
set_option maxHeartbeats 400000 in
theorem contains_bad (l : List Opd) (a : Option Addr) (n c : Nat) (w : World) (h : RR OpdR 9 (fun b => b < w.heap.size) w a n c l) (hn : n ≤ 1000000) :
    Calls Tryz.prog 42 #[.slice a n c, .func (.func 43) #[] #[]] w (RetB w (.bool (badL l))) := by
  go_enter Tryz.func42, Tryz.ntmps42
  go_wp2_with fail
  refine (index_bad l a n c _ h hn).mono ?_
  rintro e w2 ⟨r, rfl, hr, hb⟩
  by_cases h0 : 0 ≤ r
  · rw [decide_eq_true h0] at hr
    have Hr := Lib.hid hr; clear hr
    go_wp2
    go_ret
    exact ⟨by rw [← Hr.out]; rfl, hb⟩
  · rw [decide_eq_false h0] at hr
    have Hr := Lib.hid hr; clear hr
    have h1 : decide (0 ≤ r) = false := decide_eq_false h0
    go_wp2
    go_ret
    exact ⟨by rw [← Hr.out]; rfl, hb⟩

def checkE (l : List Opd) : Int := if opdsOk l then 0 else 330
theorem opdsOk_bad (l : List Opd) : opdsOk l = (decide (l.length ≤ 12) && !badL l) := by
  unfold opdsOk badL
  rw [List.not_any_eq_all_not]
  congr 2
  funext x
  simp
set_option maxHeartbeats 400000 in
theorem check_any (l : List Opd) (a : Option Addr) (n c : Nat) (w : World) (h : RR OpdR 9 (fun b => b < w.heap.size) w a n c l) (hn : n ≤ 1000000) :
    Calls Tryz.prog 19 #[.slice a n c] w (RetB w (.int .i64 (checkE l))) := by
  have hlen := h.1
  have hok := opdsOk_bad l
  have H := Lib.hid h; have Hok := Lib.hid hok; clear h hok
  by_cases h12 : 12 < n
  · have hc : checkE l = 330 := by unfold checkE; rw [Hok.out, decide_eq_false (by omega)]; rfl
    have Hc := Lib.hid hc; clear hc
    go_enter Tryz.func19, Tryz.ntmps19
    go_wp2_with fail
    go_ret
    exact ⟨by rw [Hc.out]; rfl, Below.refl _ _⟩
  · have h12' : decide (l.length ≤ 12) = true := decide_eq_true (by omega)
    cases hb : badL l
    all_goals
      have hc := hb
      have Hbd := Lib.hid hb; clear hb hc
      go_enter Tryz.func19, Tryz.ntmps19
      go_wp2_with ((with_reducible refine (contains_bad l a n c _ H.out hn).mono ?_); rintro e w2 ⟨he, hb2⟩; rw [Hbd.out] at he; subst he)
      go_ret
      refine ⟨?_, hb2⟩
      unfold checkE
      rw [Hok.out, Hbd.out, h12']; rfl
end Go.Proofs.YtpicmhbjiaegpaaGreatDoor

namespace Go.Proofs.YtpicmhbjiaegpaaGreatDoor
open Go.RowKit

/-- whether the first ones are equal -/
def eqTo (l m : List Opd) (k : Nat) : Bool := decide (l.take k = m.take k)
theorem eqTo_next {l m : List Opd} {k : Nat} {x y : Opd} (hx : l[k]? = some x) (hy : m[k]? = some y) (h : eqTo l m k = true) : eqTo l m (k + 1) = decide (x = y) := by
  have h := of_decide_eq_true h
  unfold eqTo
  rw [take_next hx, take_next hy, h]
  by_cases e : x = y
  · subst e; simp
  · rw [decide_eq_false e, decide_eq_false]
    intro he
    exact e (by simpa using he)
theorem eqTo_no {l m : List Opd} {k : Nat} {x y : Opd} (hx : l[k]? = some x) (hy : m[k]? = some y) (h : x ≠ y) : decide (l = m) = false := by
  refine decide_eq_false (fun e => ?_)
  subst e
  rw [hx] at hy
  exact h (Option.some.inj hy)
theorem cells_of {w : World} {b o : Nat} {x : Opd} {a0 a1 a2 a3 a4 : Int} (h : w.rangeAt b o (opCells x a0 a1 a2 a3 a4)) :
    w.cell? ⟨b, o, none⟩ = some (.string (bs x.nm)) ∧ w.cell? ⟨b, o + 1, none⟩ = some (.int .i64 a0) ∧ w.cell? ⟨b, o + 2, none⟩ = some (.int .i64 a1) ∧ w.cell? ⟨b, o + 3, none⟩ = some (.int .i64 a2) ∧ w.cell? ⟨b, o + 4, none⟩ = some (.int .i64 a3) ∧ w.cell? ⟨b, o + 5, none⟩ = some (.int .i64 a4) ∧ w.cell? ⟨b, o + 6, none⟩ = some (.int .i64 x.rel) ∧ w.cell? ⟨b, o + 7, none⟩ = some (.int .i64 x.tg) ∧ w.cell? ⟨b, o + 8, none⟩ = some (.int .i64 x.wt) :=
  ⟨h 0 _ rfl, h 1 _ rfl, h 2 _ rfl, h 3 _ rfl, h 4 _ rfl, h 5 _ rfl, h 6 _ rfl, h 7 _ rfl, h 8 _ rfl⟩

theorem eq_items (d : Nat) {e : TypeId} {k' : IntKind} (he : Tryz.prog.underlying e = some (.int k')) (xs ys : List Int) (n : Nat) (hx : xs.length = n) (hy : ys.length = n) (w : World) : ∀ is : List Nat, (∀ j ∈ is, j < n) →
    (Op.eqItems (d + 1) e 1 (xs.map (Value.int .i64)).toArray (ys.map (Value.int .i64)).toArray is).run Tryz.prog w = .ok (is.all fun j => xs.getD j 0 == ys.getD j 0) w
  | [], _ => rfl
  | j :: is, h => by
    have hj : j < n := h j (List.mem_cons_self ..)
    have ih := eq_items d he xs ys n hx hy w is (fun i hi => h i (List.mem_cons_of_mem _ hi))
    have hp : Tryz.prog.plainKey e = true := by simp [Program.plainKey, he]
    have p1 := run_part_plain (P := Tryz.prog) w hp (xs := (xs.map (Value.int .i64)).toArray) (off := j * 1) (v := .int .i64 (xs.getD j 0)) (by simp [show j < xs.length by omega, List.getD_eq_getElem?_getD])
    have p2 := run_part_plain (P := Tryz.prog) w hp (xs := (ys.map (Value.int .i64)).toArray) (off := j * 1) (v := .int .i64 (ys.getD j 0)) (by simp [show j < ys.length by omega, List.getD_eq_getElem?_getD])
    simp only [Op.eqItems, Sem.run_bind, p1, p2, Result.andThen_ok, run_equalIn_int w d e .i64 k' _ _ he]
    cases hc : (xs.getD j 0 == ys.getD j 0) with
    | true => simp only [Bool.not_true, Bool.false_eq_true, if_false, List.all_cons, hc, Bool.true_and]; exact ih
    | false => simp only [Bool.not_false, if_true, Sem.run_pure, List.all_cons, hc, Bool.false_and]

theorem all_eq {xs ys : List Int} {n : Nat} (hx : xs.length = n) (hy : ys.length = n) : ((List.range n).all fun j => xs.getD j 0 == ys.getD j 0) = decide (xs = ys) := by
  rw [Bool.eq_iff_iff, List.all_eq_true, decide_eq_true_eq]
  constructor
  · intro h
    apply List.ext_getElem (by omega)
    intro i h1 h2
    have := h i (List.mem_range.2 (by omega))
    simpa [List.getD_eq_getElem?_getD, h1, h2] using this
  · rintro rfl j _
    simp

theorem eq_ints (d : Nat) {t e : TypeId} {n : Nat} {k' : IntKind} (hu : Tryz.prog.underlying t = some (.array n e)) (hi : (Tryz.prog.info? e).isSome = true) (he : Tryz.prog.underlying e = some (.int k')) (hc : Tryz.prog.cellsOf e = 1) (xs ys : List Int) (hx : xs.length = n) (hy : ys.length = n) (w : World) :
    (Op.equalIn (d + 2) t (.agg (xs.map (Value.int .i64)).toArray) (.agg (ys.map (Value.int .i64)).toArray)).run Tryz.prog w = .ok (decide (xs = ys)) w := by
  obtain ⟨i, hi⟩ := Option.isSome_iff_exists.1 hi
  rw [run_equalIn_array w (d + 1) _ _ hu hi, hc, eq_items d he xs ys n hx hy w (List.range n) (fun j hj => List.mem_range.1 hj), all_eq hx hy]

theorem eq5 (a0 a1 a2 a3 a4 b0 b1 b2 b3 b4 : Int) (w : World) : (Op.equalIn 9999 48 (.agg #[.int .i64 a0, .int .i64 a1, .int .i64 a2, .int .i64 a3, .int .i64 a4]) (.agg #[.int .i64 b0, .int .i64 b1, .int .i64 b2, .int .i64 b3, .int .i64 b4])).run Tryz.prog w = .ok (decide ([a0, a1, a2, a3, a4] = [b0, b1, b2, b3, b4])) w :=
  eq_ints 9997 (n := 5) (k' := .i64) Tryz.underlying48 (by kernel_rfl) Tryz.underlying3 (by kernel_rfl) [a0, a1, a2, a3, a4] [b0, b1, b2, b3, b4] rfl rfl w
theorem neq_opd (x y : Opd) (a0 a1 a2 a3 a4 b0 b1 b2 b3 b4 : Int) (hx : x.ag = [a0, a1, a2, a3, a4]) (hy : y.ag = [b0, b1, b2, b3, b4]) (w : World) :
    (binOp .neq 50 (.agg #[.string (bs x.nm), .int .i64 a0, .int .i64 a1, .int .i64 a2, .int .i64 a3, .int .i64 a4, .int .i64 x.rel, .int .i64 x.tg, .int .i64 x.wt]) (.agg #[.string (bs y.nm), .int .i64 b0, .int .i64 b1, .int .i64 b2, .int .i64 b3, .int .i64 b4, .int .i64 y.rel, .int .i64 y.tg, .int .i64 y.wt])).run Tryz.prog w = .ok (.bool (!decide (x = y))) w := by
  have e5 := eq5 a0 a1 a2 a3 a4 b0 b1 b2 b3 b4 w
  rw [run_neq_struct, run_equalIn_agg w 9999 50 _ _ (by kernel_rfl) (by kernel_rfl)]
  have hcases : (x = y) ↔ (x.nm = y.nm ∧ [a0, a1, a2, a3, a4] = [b0, b1, b2, b3, b4] ∧ x.rel = y.rel ∧ x.tg = y.tg ∧ x.wt = y.wt) := by
    constructor
    · rintro rfl; rw [hx] at hy; exact ⟨rfl, hy, rfl, rfl, rfl⟩
    · rintro ⟨h1, h2, h3, h4, h5⟩
      rw [← hx, ← hy] at h2
      cases x; cases y; simp only at h1 h2 h3 h4 h5; subst h1 h2 h3 h4 h5; rfl
  have hno : ¬ (x = y) → (Value.bool !decide (x = y)) = Value.bool true := fun h => by rw [decide_eq_false h]; rfl
  clear hx hy
  simp [go_sem, e5]
  by_cases h1 : x.nm = y.nm
  · rw [if_pos h1]
    by_cases h2 : a0 = b0 → a1 = b1 → a2 = b2 → a3 = b3 → ¬a4 = b4
    · rw [if_pos h2, hno]
      intro e
      have h3 := (hcases.1 e).2.1
      simp only [List.cons.injEq, and_true] at h3
      exact h2 h3.1 h3.2.1 h3.2.2.1 h3.2.2.2.1 h3.2.2.2.2
    · rw [if_neg h2]
      have h2' : [a0, a1, a2, a3, a4] = [b0, b1, b2, b3, b4] := by
        apply Decidable.byContradiction
        intro hc
        exact h2 (fun p0 p1 p2 p3 p4 => hc (by rw [p0, p1, p2, p3, p4]))
      by_cases h3 : x.rel = y.rel
      · rw [if_pos h3]
        by_cases h4 : x.tg = y.tg
        · rw [if_pos h4]
          by_cases h5 : x.wt = y.wt
          · rw [if_pos h5, decide_eq_true (hcases.2 ⟨h1, h2', h3, h4, h5⟩)]; rfl
          · rw [if_neg h5, hno (fun e => h5 (hcases.1 e).2.2.2.2)]
        · rw [if_neg h4, hno (fun e => h4 (hcases.1 e).2.2.2.1)]
      · rw [if_neg h3, hno (fun e => h3 (hcases.1 e).2.2.1)]
  · rw [if_neg h1, hno (fun e => h1 (hcases.1 e).1)]

theorem exec_neq {a : Act} {o : Oper} {T U : TypeId} {p q : Operand} {xs ys : Array Value} {b : Bool} {z : World} (ho : o.op = .binOp .neq T p q U) (hp : a.eval p = .agg xs) (hq : a.eval q = .agg ys) (hm : Tryz.prog.eqGuardType Tryz.prog.depth T = false)
    (h : (binOp .neq T (.agg xs) (.agg ys)).run Tryz.prog z = .ok (.bool b) z) : (execOp a.eval o).run Tryz.prog z = .ok (.value (.bool b)) z := by
  unfold execOp
  simp [ho, hp, hq, h, run_eqGuard_agg (P := Tryz.prog) z .neq T p q xs ys hm]

set_option maxRecDepth 100000 in
set_option maxHeartbeats 1600000 in
theorem equal_any (l m : List Opd) (a b : Option Addr) (n k c d : Nat) (w : World) (h : RR OpdR 9 (fun b => b < w.heap.size) w a n c l) (h2 : RR OpdR 9 (fun b => b < w.heap.size) w b k d m) (hn : n ≤ 1000000) (hk : k ≤ 1000000) :
    Calls Tryz.prog 45 #[.slice a n c, .slice b k d] w (RetB w (.bool (decide (l = m)))) := by
  have H := Lib.hid h; have H2 := Lib.hid h2
  have hl1 := h.1; have hl2 := h2.1
  clear h h2
  by_cases hnk : n = k
  · subst hnk
    go_enter Tryz.func45, Tryz.ntmps45
    go_wp2_with fail
    have Hl1 := Lib.hid hl1; have Hl2 := Lib.hid hl2; clear hl1 hl2
    go_loopw [13] (fun iv wr => ∃ i : Nat, i ≤ n ∧ iv = .int .i64 (i : Int) ∧ eqTo l m i = true ∧ Below w.heap.size w wr) (fun iv _ => n - (intOf iv).toNat)
    case atStart => exact ⟨0, Nat.zero_le _, rfl, by unfold eqTo; simp, Below.refl _ _⟩
    case round =>
      obtain ⟨i, hi, rfl, he, hb⟩ := hrel
      have He := Lib.hid he; have Hb := Lib.hid hb; clear he hb
      by_cases hin : i < n
      · obtain ⟨b1, o1, x, cs, rfl, hlt1, hx, ⟨a0, a1, a2, a3, a4, ha, rfl⟩, hr⟩ := (H.out.go opdOkR Hb.out).at hin
        obtain ⟨b2, o2, y, cs, rfl, hlt2, hy, ⟨e0, e1, e2, e3, e4, hae, rfl⟩, hr2⟩ := (H2.out.go opdOkR Hb.out).at hin
        obtain ⟨x0, x1, x2, x3, x4, x5, x6, x7, x8⟩ := cells_of hr
        obtain ⟨y0, y1, y2, y3, y4, y5, y6, y7, y8⟩ := cells_of hr2
        have Hx := Lib.hid hx; have Hy := Lib.hid hy; have Ha := Lib.hid ha; have Hae := Lib.hid hae
        clear hr hr2 hx hy ha hae
        have hlb1 : b1 < wr.heap.size := hlt1
        have hlb2 : b2 < wr.heap.size := hlt2
        go_wp2_with fail
        refine wp_region_floats 9 [] [] [(0, true), (1, true), (2, true), (3, true), (4, true), (5, true), (6, true), (7, true), (8, true)] (by kernel_rfl) (by kernel_rfl) ⟨by simp, by simp, fun _ h => by cases h⟩ (fun _ _ _ _ _ h => h) (fun _ _ o _ _ h => by cases o <;> exact h) ?_
        iterate 8
          refine wpG_yield (v := ?_) rfl rfl (by rfl) ?_ ?_
          rotate_left
          · intro y hy
            have z0 := (hy.cell (p := ⟨b1, o1 + i * 9, none⟩) hlb1).trans x0
            have z1 := (hy.cell (p := ⟨b1, o1 + i * 9 + 1, none⟩) hlb1).trans x1
            have z2 := (hy.cell (p := ⟨b1, o1 + i * 9 + 2, none⟩) hlb1).trans x2
            have z3 := (hy.cell (p := ⟨b1, o1 + i * 9 + 3, none⟩) hlb1).trans x3
            have z4 := (hy.cell (p := ⟨b1, o1 + i * 9 + 4, none⟩) hlb1).trans x4
            have z5 := (hy.cell (p := ⟨b1, o1 + i * 9 + 5, none⟩) hlb1).trans x5
            have z6 := (hy.cell (p := ⟨b1, o1 + i * 9 + 6, none⟩) hlb1).trans x6
            have z7 := (hy.cell (p := ⟨b1, o1 + i * 9 + 7, none⟩) hlb1).trans x7
            have z8 := (hy.cell (p := ⟨b1, o1 + i * 9 + 8, none⟩) hlb1).trans x8
            have u0 := (hy.cell (p := ⟨b2, o2 + i * 9, none⟩) hlb2).trans y0
            have u1 := (hy.cell (p := ⟨b2, o2 + i * 9 + 1, none⟩) hlb2).trans y1
            have u2 := (hy.cell (p := ⟨b2, o2 + i * 9 + 2, none⟩) hlb2).trans y2
            have u3 := (hy.cell (p := ⟨b2, o2 + i * 9 + 3, none⟩) hlb2).trans y3
            have u4 := (hy.cell (p := ⟨b2, o2 + i * 9 + 4, none⟩) hlb2).trans y4
            have u5 := (hy.cell (p := ⟨b2, o2 + i * 9 + 5, none⟩) hlb2).trans y5
            have u6 := (hy.cell (p := ⟨b2, o2 + i * 9 + 6, none⟩) hlb2).trans y6
            have u7 := (hy.cell (p := ⟨b2, o2 + i * 9 + 7, none⟩) hlb2).trans y7
            have u8 := (hy.cell (p := ⟨b2, o2 + i * 9 + 8, none⟩) hlb2).trans y8
            go_simp
            with_reducible rfl
          try simp only [Act.put, List.setIfInBounds_toArray, List.set_cons_zero, List.set_cons_succ]
        refine wpG_yield (v := .bool (!decide (x = y))) rfl rfl (by rfl) ?_ ?_
        · intro z hz
          exact exec_neq rfl rfl rfl (by kernel_rfl) (neq_opd x y a0 a1 a2 a3 a4 e0 e1 e2 e3 e4 Ha.out Hae.out z)
        try simp only [Act.put, List.setIfInBounds_toArray, List.set_cons_zero, List.set_cons_succ]
        refine wpG_nil0 rfl (fun w3 hb3 => ?_)
        have Hb3 := Lib.hid (Hb.out.trans (Below.mono (below_undrew (k := 1) hb3) Hb.out.size))
        clear hb3 x0 x1 x2 x3 x4 x5 x6 x7 x8 y0 y1 y2 y3 y4 y5 y6 y7 y8
        by_cases hxy : x = y
        · have hd : decide (x = y) = true := decide_eq_true hxy
          have hn := Lib.hid ((eqTo_next Hx.out Hy.out He.out).trans hd)
          clear hxy
          go_wp2_with fail
          go_roundw
          case rel => exact ⟨i + 1, by omega, by go_num, hn.out, Hb3.out⟩
          case measure => simp [intOf]; omega
        · have hd : decide (x = y) = false := decide_eq_false hxy
          have hn := Lib.hid (eqTo_no Hx.out Hy.out hxy)
          clear hxy
          go_wp2_with fail
          go_ret
          exact ⟨by rw [hn.out]; rfl, Hb3.out⟩
      · obtain rfl : i = n := by omega
        have hfin : decide (l = m) = true := by
          have := of_decide_eq_true He.out
          rw [List.take_of_length_le (by rw [Hl1.out]; exact Nat.le_refl _), List.take_of_length_le (by rw [Hl2.out]; exact Nat.le_refl _)] at this
          exact decide_eq_true this
        have Hfin := Lib.hid hfin; clear hfin
        go_wp2_with fail
        go_ret
        exact ⟨by rw [Hfin.out]; rfl, Hb.out⟩
  · have hne : decide (l = m) = false := decide_eq_false (fun e => hnk (by rw [← hl1, ← hl2, e]))
    have Hne := Lib.hid hne
    have hnk' : ((n : Int) != (k : Int)) = true := by simp; omega
    clear hnk hne hl1 hl2
    go_enter Tryz.func45, Tryz.ntmps45
    go_wp2_with fail
    go_ret
    exact ⟨by rw [Hne.out]; rfl, Below.refl _ _⟩
theorem osame_any (l m : List Opd) (a b : Option Addr) (n k c d : Nat) (w : World) (h : RR OpdR 9 (fun b => b < w.heap.size) w a n c l) (h2 : RR OpdR 9 (fun b => b < w.heap.size) w b k d m) (hn : n ≤ 1000000) (hk : k ≤ 1000000) :
    Calls Tryz.prog 21 #[.slice a n c, .slice b k d] w (RetB w (.bool (decide (l = m)))) := by
  have H := Lib.hid h; have H2 := Lib.hid h2; clear h h2
  go_enter Tryz.func21, Tryz.ntmps21
  go_wp2_with fail
  refine (equal_any l m a b n k c d _ H.out H2.out hn hk).mono ?_
  rintro e w1 ⟨rfl, hb1⟩
  have Hb1 := Lib.hid hb1; clear hb1
  go_wp2_with fail
  go_ret
  exact ⟨rfl, Hb1.out⟩
end Go.Proofs.YtpicmhbjiaegpaaGreatDoor

namespace Go.Proofs.YtpicmhbjiaegpaaGreatDoor
open Go.RowKit

/-- the texts of the arguments that were looked at so far -/
def wacc (ks : List Nat) (xs : List Int) : Nat → List (List UInt8)
  | 0 => []
  | i + 1 => wacc ks xs i ++ (if ks.getD i 0 = 0 then [] else [numT (xs.getD i 0) (digitsOf (ks.getD i 0))])
theorem kinds_pos {nm : List UInt8} {ks : List Nat} (h : kindsOf nm = some ks) : nm.length = 4 ∧ ∀ k ∈ ks, k ≠ 0 := by
  unfold kindsOf at h
  cases hf : kindTab.find? (fun e => e.1 == nm) with
  | none => rw [hf] at h; cases h
  | some e =>
    rw [hf] at h
    have hm := List.mem_of_find?_eq_some hf
    have he : e.2 = ks := Option.some.inj h
    have hn : e.1 = nm := by simpa using List.find?_some hf
    have hall : ∀ e ∈ kindTab, e.1.length = 4 ∧ ∀ k ∈ e.2, k ≠ 0 := by decide
    obtain ⟨h1, h2⟩ := hall e hm
    rw [he] at h2; rw [hn] at h1
    exact ⟨h1, h2⟩
theorem wacc_all {ks : List Nat} (hl : ks.length ≤ 5) (hp : ∀ k ∈ ks, k ≠ 0) (a0 a1 a2 a3 a4 : Int) : wacc ks [a0, a1, a2, a3, a4] 5 = argTs ks [a0, a1, a2, a3, a4] := by
  match ks, hl, hp with
  | [], _, _ => rfl
  | [k], _, hp =>
    have h0 := hp k (by simp)
    simp [wacc, argTs, h0]
  | [k, k1], _, hp =>
    have h0 := hp k (by simp); have h1 := hp k1 (by simp)
    simp [wacc, argTs, h0, h1]
  | [k, k1, k2], _, hp =>
    have h0 := hp k (by simp); have h1 := hp k1 (by simp); have h2 := hp k2 (by simp)
    simp [wacc, argTs, h0, h1, h2]
  | [k, k1, k2, k3], _, hp =>
    have h0 := hp k (by simp); have h1 := hp k1 (by simp); have h2 := hp k2 (by simp); have h3 := hp k3 (by simp)
    simp [wacc, argTs, h0, h1, h2, h3]
  | [k, k1, k2, k3, k4], _, hp =>
    have h0 := hp k (by simp); have h1 := hp k1 (by simp); have h2 := hp k2 (by simp); have h3 := hp k3 (by simp); have h4 := hp k4 (by simp)
    simp [wacc, argTs, h0, h1, h2, h3, h4]
theorem wacc_len (ks : List Nat) (xs : List Int) : ∀ i, (wacc ks xs i).length ≤ i
  | 0 => Nat.le_refl _
  | i + 1 => by
    rw [wacc, List.length_append]
    have := wacc_len ks xs i
    split <;> simp <;> omega
theorem joinT_eq : ∀ (l : List (List UInt8)), Lib.join l [32] = joinT l
  | [] => rfl
  | [x] => by rw [Lib.join_one]; rfl
  | x :: y :: l => by
    have h := joinT_eq (y :: l)
    rw [Lib.join_cons] at h
    rw [Lib.join_cons, joinT, ← h]
    simp [Lib.joinTail]
theorem joinT_len {n : Nat} : ∀ (l : List (List UInt8)), (∀ x ∈ l, x.length ≤ n) → (joinT l).length ≤ l.length * (n + 1)
  | [], _ => by simp [joinT]
  | [x], h => by
    have := h x (by simp)
    simp [joinT]; omega
  | x :: y :: l, h => by
    have h1 := h x (by simp)
    have h2 := joinT_len (y :: l) (fun z hz => h z (List.mem_cons_of_mem _ hz))
    rw [joinT, List.length_append, List.length_cons, List.length_cons, Nat.succ_mul]
    omega
theorem numT_len {z : Int} {d : Nat} (h1 : -9223372036854775808 ≤ z) (h2 : z ≤ 9223372036854775807) (hd : d ≤ 18) : (numT z d).length ≤ 50 := by
  unfold numT wholeT
  have h3 : (Lib.decDigits (z.natAbs / 10 ^ d)).length ≤ 27 := digits_size (Nat.le_trans (length_digs_mono (Nat.div_le_self _ _)) (length_digs_int z h1 h2)) (by omega)
  have h4 := placesT_len d (z.natAbs % 10 ^ d)
  rw [List.length_append, List.length_append]
  have h5 : (if z < 0 then [45] else ([] : List UInt8)).length ≤ 1 := by split <;> simp
  have h6 : (if z.natAbs % 10 ^ d = 0 then ([] : List UInt8) else 46 :: placesT d (z.natAbs % 10 ^ d)).length ≤ 19 := by
    split
    · simp
    · simp; omega
  omega
/-- valid: the bounds that are needed -/
theorem inR_bd {n lo hi : Int} (h : inR n lo hi = true) : lo ≤ n ∧ n ≤ hi := by
  unfold inR at h
  rw [Bool.and_eq_true] at h
  exact ⟨of_decide_eq_true h.1, of_decide_eq_true h.2⟩
theorem range_bd (k : Nat) : -2000000 ≤ (rangeOf k).1 ∧ (rangeOf k).2.1 ≤ 1000000000 := by
  match k with
  | 0 => exact ⟨by decide, by decide⟩
  | 1 => exact ⟨by decide, by decide⟩
  | 2 => exact ⟨by decide, by decide⟩
  | 3 => exact ⟨by decide, by decide⟩
  | 4 => exact ⟨by decide, by decide⟩
  | 5 => exact ⟨by decide, by decide⟩
  | 6 => exact ⟨by decide, by decide⟩
  | 7 => exact ⟨by decide, by decide⟩
  | 8 => exact ⟨by decide, by decide⟩
  | k + 9 => exact ⟨by show (-2000000 : Int) ≤ 0; decide, by show (0 : Int) ≤ 1000000000; decide⟩
structure Good (x : Opd) (ks : List Nat) (a0 a1 a2 a3 a4 : Int) : Prop where
  hk : kindsOf x.nm = some ks
  hl : ks.length ≤ 5
  nm : x.nm.length = 4
  b0 : -2000000 ≤ a0 ∧ a0 ≤ 1000000000
  b1 : -2000000 ≤ a1 ∧ a1 ≤ 1000000000
  b2 : -2000000 ≤ a2 ∧ a2 ≤ 1000000000
  b3 : -2000000 ≤ a3 ∧ a3 ≤ 1000000000
  b4 : -2000000 ≤ a4 ∧ a4 ≤ 1000000000
  rel : x.rel = 1 ∨ x.rel = 2 ∨ x.rel = 3
  tg : -1000000000000 ≤ x.tg ∧ x.tg ≤ 1000000000000
  wt : 0 ≤ x.wt ∧ x.wt ≤ 1000
theorem good_of {x : Opd} {a0 a1 a2 a3 a4 : Int} (h : opdOk x = true) (ha : x.ag = [a0, a1, a2, a3, a4]) : ∃ ks, Good x ks a0 a1 a2 a3 a4 := by
  unfold opdOk at h
  cases hk : kindsOf x.nm with
  | none => rw [hk] at h; cases h
  | some ks =>
    rw [hk] at h
    simp only [Bool.and_eq_true] at h
    obtain ⟨⟨⟨h1, h2⟩, h3⟩, h4⟩ := h
    rw [ha, ← argsAcc_all] at h1
    simp only [argsAcc, List.getD_cons_zero, List.getD_cons_succ, Bool.and_eq_true] at h1
    obtain ⟨⟨⟨⟨⟨_, q0⟩, q1⟩, q2⟩, q3⟩, q4⟩ := h1
    have bd : ∀ {a : Int} {k : Nat}, inR a (rangeOf k).1 (rangeOf k).2.1 = true → -2000000 ≤ a ∧ a ≤ 1000000000 := fun {a k} h => by
      have h1 := inR_bd h; have h2 := range_bd k; omega
    have hr := inR_bd h2
    refine ⟨ks, hk, (kinds_small hk).1, (kinds_pos hk).1, bd q0, bd q1, bd q2, bd q3, bd q4, by omega, inR_bd h3, ?_⟩
    split at h4
    · have := inR_bd h4; omega
    · have := of_decide_eq_true h4; omega

/-! ### rows of strings -/
def strCs (l : List (List UInt8)) : List Value := l.map fun s => .string (bs s)
theorem strCs_append (a b : List (List UInt8)) : strCs (a ++ b) = strCs a ++ strCs b := List.map_append
theorem strCs_len (l : List (List UInt8)) : (strCs l).length = l.length := List.length_map _
theorem Tryz.infoStr : (Tryz.prog.info? 9).map (fun i => (i.zero, i.size, i.bytes)) = some (some (.string { data := #[] }), 1, 16) := by kernel_rfl
/-- append of strings to a row of the call's own -/
theorem wpList_append_strs {ops : Array Oper} {rest : List Oper} {o : Oper} {a : Act} {Q : Exit → Act → World → Prop} {W : World} (hgd : o.guard = none) (s x : Operand) (t : TypeId)
    (ho : o.op = .call { callee := .builtin .append, args := #[s, x], argTypes := #[t, t] }) (ht : Tryz.prog.underlying t = some (.slice 9))
    (base : Nat) (w : World) (va : Option Addr) (n vc : Nat) (l ys : List (List UInt8)) (hs : a.eval s = .slice va n vc) (hown : w.ownsRow base 9 1 (.slice va n vc) n (strCs l))
    (hW : W = w.alloc (.cells (strCs ys).toArray 9)) (hx : a.eval x = .slice (some ⟨w.heap.size, 0, none⟩) ys.length ys.length) (hn : n + ys.length ≤ 10000000) (hbase : base ≤ w.heap.size)
    (h : ∀ va' vc' w', w'.ownsRow base 9 1 (.slice va' (n + ys.length) vc') (n + ys.length) (strCs (l ++ ys)) → (∀ B w0, B ≤ base → Below B w0 w → Below B w0 w') → (∀ k, k < base → w'.heap[k]? = w.heap[k]?) → w.heap.size < w'.heap.size → wpList Tryz.prog ops Q rest (a.put o.dst (.slice va' (n + ys.length) vc')) w') :
    wpList Tryz.prog ops Q (o :: rest) a W := by
  subst hW
  refine wpList_append_cells hgd s x t ho base 9 (.string { data := #[] }) 1 16 ht Tryz.infoStr (by simp [Value.cells]) (by omega) _ n _ hs (ownsRow_below hown ((Below.refl _ _).alloc (Nat.le_refl _) _)) _ ys.length ys.length (strCs ys) hx (by rw [strCs_len, Nat.mul_one]) ?_ (by unfold strCs; simp [Value.oneCell']) (fun e => by cases e) (by omega) (by omega) (by simp; omega) ?_
  · intro _
    refine ⟨w.heap.size, 0, rfl, fun j u hj => ?_⟩
    have := obj_cell (heap_alloc_new w (.cells (strCs ys).toArray 9)) j
    rw [Nat.zero_add, this]
    simpa using hj
  · intro v' w' h2 h3
    rw [← strCs_append] at h2
    obtain ⟨va', vc', rfl⟩ := owns_slice h2
    exact h va' vc' w' h2 (fun B w0 hB hb => grown_below hb hown h3 hB hbase) (fun k hk => grown_old hown h3 hk hbase) (by have := h3.size; simp at this; omega)
/-- a row just made -/
theorem owns_strs (w : World) (base : Nat) (ys : List (List UInt8)) (hb : base ≤ w.heap.size) (hy : 0 < ys.length) (hl : ys.length ≤ 1000) : (w.alloc (.cells (strCs ys).toArray 9)).ownsRow base 9 1 (.slice (some ⟨w.heap.size, 0, none⟩) ys.length ys.length) ys.length (strCs ys) := by
  refine ⟨by rw [strCs_len, Nat.mul_one], Or.inr ⟨w.heap.size, ys.length, (strCs ys).toArray, rfl, hb, heap_alloc_new _ _, Nat.le_refl _, by unfold maxLen; omega, by simp [strCs_len], by simp only [Nat.mul_one]; exact List.take_of_length_le (by simp [strCs_len])⟩⟩
theorem owns_str_at {w : World} {base : Nat} {a : Option Addr} {n c : Nat} {l : List (List UInt8)} (h : w.ownsRow base 9 1 (.slice a n c) n (strCs l)) (hl : 0 < l.length) :
    ∃ g, a = some ⟨g, 0, none⟩ ∧ base ≤ g ∧ g < w.heap.size ∧ n = l.length ∧ n ≤ c ∧ ∀ (j : Nat) x, (l.map bs)[j]? = some x → w.cell? ⟨g, 0 + j, none⟩ = some (.string x) := by
  have hn := h.1
  rw [strCs_len] at hn
  rcases (owns_cells h).2 with ⟨e, h0⟩ | ⟨g, cap, e, hg, hcap, hcells⟩
  · omega
  · cases e
    refine ⟨g, rfl, hg, hcells.lt, by omega, hcap, fun j x hj => ?_⟩
    rw [List.getElem?_map] at hj
    cases hlj : l[j]? with
    | none => rw [hlj] at hj; cases hj
    | some s =>
      rw [hlj] at hj
      cases hj
      have hjl := (List.getElem?_eq_some_iff.1 hlj).1
      rw [Nat.zero_add, hcells.cell (j := j) (by rw [strCs_len]; exact hjl)]
      simp only [strCs, List.getElem_map]
      rw [(List.getElem?_eq_some_iff.1 hlj).2]
end Go.Proofs.YtpicmhbjiaegpaaGreatDoor

namespace Go.Proofs.YtpicmhbjiaegpaaGreatDoor
open Go.RowKit

/-- a number of a word, in the words of Parse's contract -/
theorem numOf_par (s : List UInt8) (lo hi : Int) (d : Nat) : numOf s lo hi d = if parE s d = 0 ∧ inR (parN s d) lo hi = true then some (parN s d) else none := by
  have hE : parE s d = (match decForm s with | none => 5 | some p => if p ≤ d then (if fits (numV s * 10 ^ (d - p)) = true then 0 else 6) else 5) := rfl
  have hN : parN s d = (match decForm s with | none => 0 | some p => if p ≤ d ∧ fits (numV s * 10 ^ (d - p)) = true then numV s * 10 ^ (d - p) else 0) := rfl
  unfold numOf
  cases hd : decForm s with
  | none =>
    rw [hd] at hE
    rw [hE]; rfl
  | some p =>
    rw [hd] at hE hN
    simp only at hE hN ⊢
    generalize numV s * 10 ^ (d - p) = V at *
    have h3 : fits V = true ↔ -9223372036854775808 ≤ V ∧ V ≤ 9223372036854775807 := by unfold fits; exact decide_eq_true_iff
    have e : inR V lo hi = true ↔ lo ≤ V ∧ V ≤ hi := by
      unfold inR; rw [Bool.and_eq_true, decide_eq_true_iff, decide_eq_true_iff]
    by_cases h1 : p ≤ d
    · by_cases h2 : fits V = true
      · rw [if_pos h1, if_pos h2] at hE
        rw [if_pos ⟨h1, h2⟩] at hN
        rw [hE, hN]
        by_cases h4 : lo ≤ V ∧ V ≤ hi
        · rw [if_pos ⟨h1, (h3.1 h2).1, (h3.1 h2).2, h4.1, h4.2⟩, if_pos ⟨rfl, e.2 h4⟩]
        · rw [if_neg (fun q => h4 ⟨q.2.2.2.1, q.2.2.2.2⟩), if_neg (fun q => h4 (e.1 q.2))]
      · rw [if_pos h1, if_neg h2] at hE
        rw [hE, if_neg (fun q => h2 (h3.2 ⟨q.2.1, q.2.2.1⟩)), if_neg (fun q => absurd q.1 (by decide))]
    · rw [if_neg h1] at hE
      rw [hE, if_neg (fun q => h1 q.1), if_neg (fun q => absurd q.1 (by decide))]

/-- words in memory, in blocks below B -/
def Wds (w : World) (a : Option Addr) (n c : Nat) (ws : List (List UInt8)) (B : Nat) : Prop :=
  ws.length = n ∧ n ≤ c ∧ (0 < n → ∃ g off, a = some ⟨g, off, none⟩ ∧ g < B ∧ ∀ i x, ws[i]? = some x → w.cell? ⟨g, off + i, none⟩ = some (.string (bs x)))
/-- the reader at block b -/
def RdrB (w : World) (b : Nat) (ws : List (List UInt8)) : Prop := ∃ a n c, w.heap[b]? = some (.cells #[.slice a n c] 109 (0, 0)) ∧ Wds w a n c ws b ∧ n ≤ 10000000
/-- all but block b is as it was -/
structure But (b : Nat) (w w' : World) : Prop where
  bel : Below b w w'
  keep : ∀ k, k < w.heap.size → k ≠ b → w'.heap[k]? = w.heap[k]?
  size : w.heap.size ≤ w'.heap.size
theorem But.refl (b : Nat) (w : World) : But b w w := ⟨Below.refl _ _, fun _ _ _ => rfl, Nat.le_refl _⟩
theorem But.trans {b : Nat} {w w1 w2 : World} (h1 : But b w w1) (h2 : But b w1 w2) : But b w w2 :=
  ⟨h1.bel.trans h2.bel, fun k hk hne => (h2.keep k (Nat.lt_of_lt_of_le hk h1.size) hne).trans (h1.keep k hk hne), Nat.le_trans h1.size h2.size⟩
theorem But.of_below {b : Nat} {w w' : World} (h : Below w.heap.size w w') (hb : b ≤ w.heap.size) : But b w w' := ⟨h.mono hb, fun k hk _ => h.block k hk, h.size⟩
theorem Wds.kept {w w' : World} {a : Option Addr} {n c B B' : Nat} {ws : List (List UInt8)} (h : Wds w a n c ws B) (hk : ∀ k, k < B → w'.heap[k]? = w.heap[k]?) (hB : B ≤ B') : Wds w' a n c ws B' := by
  refine ⟨h.1, h.2.1, fun h0 => ?_⟩
  obtain ⟨g, off, e, hg, hc⟩ := h.2.2 h0
  refine ⟨g, off, e, by omega, fun i x hx => ?_⟩
  rw [← hc i x hx]
  simp only [World.cell?, hk g hg]
theorem RdrB.lt {w : World} {b : Nat} {ws : List (List UInt8)} (h : RdrB w b ws) : b < w.heap.size := by
  obtain ⟨a, n, c, h1, _⟩ := h; exact lt_of_block h1
theorem RdrB.below {w w' : World} {b : Nat} {ws : List (List UInt8)} (h : RdrB w b ws) (hb : Below w.heap.size w w') : RdrB w' b ws := by
  have hlt := h.lt
  obtain ⟨a, n, c, h1, h2, h3⟩ := h
  exact ⟨a, n, c, (hb.block b hlt).trans h1, h2.kept (fun k hk => hb.block k (by omega)) (Nat.le_refl _), h3⟩
/-- the panic of a malformed line -/
def Mal : Ending := .panicked [{ v := .iface 103 (.agg #[]), recovered := false }]
def NextP (w : World) (b : Nat) (e : Ending) (w' : World) : List (List UInt8) → Prop
  | [] => e = Mal ∧ w' = w
  | s :: r => e = .returned (.string (bs s)) ∧ RdrB w' b r ∧ But b w w'
set_option maxHeartbeats 800000 in
theorem next_any (ws : List (List UInt8)) (b : Nat) (w : World) (h : RdrB w b ws) : Calls Tryz.prog 77 #[.pointer (some ⟨b, 0, none⟩)] w fun e w' => NextP w b e w' ws := by
  have hlt := h.lt
  obtain ⟨a, n, c, h1, h2, h3⟩ := h
  have hcl : w.cell? ⟨b, 0, none⟩ = some (.slice a n c) := (obj_cell h1 0).trans rfl
  have hfr : w.frozen? ⟨b, 0, none⟩ = false := obj_free h1 _
  cases ws with
  | nil =>
    obtain rfl : n = 0 := h2.1.symm
    have H1 := Lib.hid h1; have H2 := Lib.hid h2; clear h1 h2
    go_enter Tryz.func77, Tryz.ntmps77
    go_wp2_with fail
    exact ⟨rfl, rfl, rfl⟩
  | cons s r =>
    obtain ⟨m, rfl⟩ : ∃ m, n = m + 1 := ⟨r.length, h2.1.symm⟩
    obtain ⟨g, off, rfl, hg, hc⟩ := h2.2.2 (by omega)
    have hs : w.cell? ⟨g, off, none⟩ = some (.string (bs s)) := hc 0 s rfl
    have hcap := h2.2.1
    have hlen := h2.1
    have Hc := Lib.hid hc; have H1 := Lib.hid h1; have Hlen := Lib.hid hlen; clear hc h1 h2 hlen
    go_enter Tryz.func77, Tryz.ntmps77
    go_wp2_with fail
    · go_ret
      have hm : m = 0 := by omega
      subst hm
      refine ⟨rfl, ⟨some ⟨g, off, none⟩, 0, 0, obj_setCell H1.out 0 (.slice (some ⟨g, off, none⟩) 0 0), ⟨by have := Hlen.out; simpa using this, Nat.le_refl _, fun h => absurd h (by omega)⟩, by omega⟩, ?_, ?_, ?_⟩
      · exact (Below.refl b w).setCell (p := ⟨b, 0, none⟩) (Nat.le_refl _) _
      · exact fun k hk hne => Below.heap_setCell _ _ _ _ (fun e => hne e)
      · simp
    · go_ret
      refine ⟨rfl, ⟨some ⟨g, off + 1, none⟩, m, c - 1, obj_setCell H1.out 0 (.slice (some ⟨g, off + 1, none⟩) m (c - 1)), ⟨by have := Hlen.out; simpa using this, by omega, fun h => ⟨g, off + 1, rfl, hg, ?_⟩⟩, by omega⟩, ?_, ?_, ?_⟩
      · intro i x hx
        have h4 := Hc.out (i + 1) x (by rw [List.getElem?_cons_succ]; exact hx)
        rw [show off + 1 + i = off + (i + 1) by omega, ← h4]
        have hk := Below.heap_setCell w ⟨b, 0, none⟩ (.slice (some ⟨g, off + 1, none⟩) m (c - 1)) g (fun e => by have e2 : g = b := e; omega)
        simp only [World.cell?, hk]
      · exact (Below.refl b w).setCell (p := ⟨b, 0, none⟩) (Nat.le_refl _) _
      · exact fun k hk hne => Below.heap_setCell _ _ _ _ (fun e => hne e)
      · simp
/-- a number, within limits, of the next word -/
def NumP (w : World) (b : Nat) (lo hi : Int) (d : Nat) (e : Ending) (w' : World) : List (List UInt8) → Prop
  | [] => e = Mal ∧ But b w w'
  | s :: r => match numOf s lo hi d with
    | none => e = Mal ∧ But b w w'
    | some n => e = .returned (.int .i64 n) ∧ RdrB w' b r ∧ But b w w'
theorem numP_some {w w' : World} {b d : Nat} {lo hi n : Int} {e : Ending} {s : List UInt8} {r : List (List UInt8)} (hn : numOf s lo hi d = some n) (he : e = .returned (.int .i64 n)) (h1 : RdrB w' b r) (h2 : But b w w') : NumP w b lo hi d e w' (s :: r) := by
  show (match numOf s lo hi d with | none => e = Mal ∧ But b w w' | some n => e = .returned (.int .i64 n) ∧ RdrB w' b r ∧ But b w w')
  rw [hn]; exact ⟨he, h1, h2⟩
theorem numP_none {w w' : World} {b d : Nat} {lo hi : Int} {e : Ending} {s : List UInt8} {r : List (List UInt8)} (hn : numOf s lo hi d = none) (he : e = Mal) (h2 : But b w w') : NumP w b lo hi d e w' (s :: r) := by
  show (match numOf s lo hi d with | none => e = Mal ∧ But b w w' | some n => e = .returned (.int .i64 n) ∧ RdrB w' b r ∧ But b w w')
  rw [hn]; exact ⟨he, h2⟩
set_option maxHeartbeats 800000 in
theorem number_any (ws : List (List UInt8)) (b : Nat) (lo hi : Int) (d : Nat) (w : World) (h : RdrB w b ws) (hg : GW w) (hb8 : 8 ≤ b) (hws : ∀ s ∈ ws, s.length ≤ 100000) (hd : d ≤ 18) :
    Calls Tryz.prog 78 #[.pointer (some ⟨b, 0, none⟩), .int .i64 lo, .int .i64 hi, .int .i64 (d : Int)] w fun e w' => NumP w b lo hi d e w' ws := by
  have H := Lib.hid h; have Hg := Lib.hid hg; clear h hg
  cases ws with
  | nil =>
    go_enter Tryz.func78, Tryz.ntmps78
    go_wp2_with fail
    refine (next_any [] b _ H.out).mono ?_
    rintro e w1 ⟨rfl, rfl⟩
    unfold Mal
    go_wp2_with fail
    exact ⟨rfl, rfl, But.refl _ _⟩
  | cons s r =>
    have hnp := numOf_par s lo hi d
    have hs := hws s List.mem_cons_self
    go_enter Tryz.func78, Tryz.ntmps78
    go_wp2_with fail
    refine (next_any (s :: r) b _ H.out).mono ?_
    rintro e w1 ⟨rfl, hr, hbut⟩
    have Hr := Lib.hid hr; have Hbut := Lib.hid hbut; have Hnp := Lib.hid hnp; clear hr hbut hnp
    go_wp2_with fail
    refine (decParse_any s d _ hs hd (Hg.out.of Hbut.out.bel hb8)).mono ?_
    rintro e w2 ⟨rfl, hb2⟩
    have hr2 := Hr.out.below hb2
    have hbut2 := Hbut.out.trans (But.of_below hb2 (Nat.le_of_lt Hr.out.lt))
    have Hr2 := Lib.hid hr2; have Hbut2 := Lib.hid hbut2; clear hr2 hbut2 hb2
    cases hn : numOf s lo hi d with
    | some n =>
      have hnp := Hnp.out
      rw [hn] at hnp
      by_cases hc : parE s d = 0 ∧ inR (parN s d) lo hi = true
      · rw [if_pos hc] at hnp
        cases hnp
        have hc1 := hc.1
        rw [hc1]
        go_wp2_with ((with_reducible refine (within_any _ _ _ _).mono ?_); rintro e w' ⟨rfl, rfl⟩; rw [hc.2])
        go_ret
        exact numP_some hn rfl Hr2.out Hbut2.out
      · rw [if_neg hc] at hnp; cases hnp
    | none =>
      have hnp := Hnp.out
      rw [hn] at hnp
      by_cases hE : parE s d = 0
      · have hI : inR (parN s d) lo hi = false := by
          cases h : inR (parN s d) lo hi
          · rfl
          · rw [if_pos ⟨hE, h⟩] at hnp; cases hnp
        clear hnp
        rw [hE]
        go_wp2_with ((with_reducible refine (within_any _ _ _ _).mono ?_); rintro e w' ⟨rfl, rfl⟩; rw [hI])
        refine ⟨rfl, ?_⟩
        exact numP_none hn rfl Hbut2.out
      · clear hnp
        have hE1 : (parE s d == 0) = false := beq_eq_false_iff_ne.2 hE
        go_wp2_with fail
        refine ⟨rfl, ?_⟩
        exact numP_none hn rfl Hbut2.out
end Go.Proofs.YtpicmhbjiaegpaaGreatDoor

namespace Go.Proofs.YtpicmhbjiaegpaaGreatDoor
open Go.RowKit

section
variable {bx : Nat} {P : Program} {ops : Array Oper} {Q : Exit → Act → World → Prop} {md : Region.Mode}

/-- Whatever order is picked from here on; behind each operation before number n what was there is as it was. -/
def wpRX (bx : Nat) (P : Program) (md : Region.Mode) (ops : Array Oper) (Q : Exit → Act → World → Prop) (n : Nat) : Nat → Array Bool → Act → World → Prop
  | 0, listed, a, w => Region.ready md ops listed = [] ∧ Q .normal a w
  | fuel + 1, listed, a, w =>
    (Region.ready md ops listed = [] → Q .normal a w) ∧
    ∀ i ∈ Region.ready md ops listed, wpOp P ops Q i (fun a' w' => (i < n → But bx w w') ∧ wpRX bx P md ops Q n fuel (listed.setIfInBounds i true) a' w') a w

theorem wpAny_of_RX {n : Nat} : ∀ (fuel : Nat) (listed : Array Bool) (a : Act) (w : World), wpRX bx P md ops Q n fuel listed a w → wpAny P md ops Q fuel listed a w
  | 0, _, _, _, h => h
  | fuel + 1, _, _, _, h => ⟨h.1, fun i hi => wpOp_mono (fun a' w' h' => wpAny_of_RX fuel _ a' w' h'.2) (h.2 i hi)⟩

theorem YieldsIf.stayX {o : Oper} {v : Value} {a : Act} {w w' : World} (h : YieldsIf P ops (fun x => But bx w x) o v a) (hb : But bx w w') :
    YieldsIf P ops (fun x => But bx w' x) o v a :=
  h.imp (fun ⟨h1, h2⟩ => ⟨h1, fun x hx => h2 x (hb.trans hx)⟩) id

theorem wpR_firstX2 {n i : Nat} {oi : Oper} {v : Value} (hi : ops[i]? = some oi) (hsel : ∀ (j : Nat) (o : Oper) cs b, ops[j]? = some o → o.op ≠ .select cs b)
    (hs : Region.sinkB md ops n = true) (hc : Region.chainB md ops n = true) (hn : n < ops.size) (hin : i < n)
    (hQ : ∀ c a w, Q (.panic c) (a.put oi.dst v) w → Q (.panic c) a w) :
    ∀ (fuel : Nat) (listed : Array Bool) (a : Act) (w : World), HeadInv md ops n listed →
      (∀ j oj, ops[j]? = some oj → j ≠ i → listed.getD j true = false → (∀ e ∈ oj.after, Region.binds md e = true → e.on ≠ i) → oi.apart ops oj = true) →
      i ∈ Region.ready md ops listed → YieldsIf P ops (fun x => But bx w x) oi v a →
      wpRX bx P md ops Q n fuel (listed.setIfInBounds i true) (a.put oi.dst v) w → wpRX bx P md ops Q n (fuel + 1) listed a w := by
  intro fuel
  induction fuel with
  | zero =>
    intro listed a w _ _ hr hy H
    refine ⟨fun h => (by rw [h] at hr; cases hr), fun j hj => ?_⟩
    by_cases hji : j = i
    · subst hji; exact hy.wpOp hi (But.refl _ _) ⟨fun _ => But.refl _ _, H⟩
    · have := ready_mono hj hji
      rw [H.1] at this
      cases this
  | succ fuel ih =>
    intro listed a w inv hfree hr hy H
    have hun := (mem_ready.1 hr).1
    refine ⟨fun h => (by rw [h] at hr; cases hr), fun j hj => ?_⟩
    have hjn : j < n := by
      rcases Nat.lt_or_ge j n with h | h
      · exact h
      · exact absurd hj (tail_waits hs hc hn inv _ i rfl hin hun j h)
    by_cases hji : j = i
    · subst hji; exact hy.wpOp hi (But.refl _ _) ⟨fun _ => But.refl _ _, H⟩
    · have h1 := H.2 j (ready_mono hj hji)
      obtain ⟨hjun, oj, hoj, hall⟩ := mem_ready.1 hj
      have hnot : ∀ e ∈ oj.after, Region.binds md e = true → e.on ≠ i := fun e he hb heq => by
        have h1 := hall e he hb
        rw [heq, getD_both hun] at h1
        cases h1
      have h2 := wpOp_putIf hoj (hfree j oj hoj hji hjun hnot) (fun cs b => hsel i oi cs b hi) (fun cs b => hsel j oj cs b hoj) hQ hy h1
      have hfree' : ∀ k ok, ops[k]? = some ok → k ≠ i → (listed.setIfInBounds j true).getD k true = false →
          (∀ e ∈ ok.after, Region.binds md e = true → e.on ≠ i) → oi.apart ops ok = true := fun k ok hk hki hun hno => by
        refine hfree k ok hk hki ?_ hno
        by_cases hjk : j = k
        · subst hjk; exact hjun
        · rw [getD_set_ne true hjk] at hun; exact hun
      refine wpOp_mono (fun a' w' h3 => ⟨h3.2.1, ih (listed.setIfInBounds j true) a' w' (inv.set hj hjn) hfree' (ready_mono hr (Ne.symm hji)) (YieldsIf.stayX h3.1 (h3.2.1 hjn)) ?_⟩) h2
      rw [Array.setIfInBounds_comm _ _ hji]
      exact h3.2.2

/-- the walk in the chosen order -/
def wpOrdX (bx : Nat) (P : Program) (ops : Array Oper) (Q : Exit → Act → World → Prop) (n : Nat) : List (Nat × Bool) → Act → World → Prop
  | [], a, w => wpList P ops Q (ops.toList.drop n) a w
  | (i, true) :: rest, a, w => ∃ o v, ops[i]? = some o ∧ YieldsIf P ops (fun x => But bx w x) o v a ∧ (∀ c a w, Q (.panic c) (a.put o.dst v) w → Q (.panic c) a w) ∧ wpOrdX bx P ops Q n rest (a.put o.dst v) w
  | (i, false) :: rest, a, w => wpOp P ops Q i (fun a' w' => But bx w w' ∧ wpOrdX bx P ops Q n rest a' w') a w

theorem wpR_of_seqX {n : Nat} {Q' : Exit → Act → World → Prop} : ∀ (l : List Oper) (k : Nat) (listed : Array Bool) (a : Act) (w : World), n ≤ k → (∀ j, l[j]? = ops[k + j]?) →
    Region.seqB md ops l.length k listed = true → wpList P ops Q' l a w → wpRX bx P md ops Q' n l.length listed a w
  | [], _, _, _, _, _, _, hB, h => ⟨by simpa [Region.seqB] using hB, h⟩
  | o :: l, k, listed, a, w, hk, hl, hB, h => by
    have h0 : ops[k]? = some o := by simpa using (hl 0).symm
    simp only [List.length_cons, Region.seqB, Bool.and_eq_true, decide_eq_true_eq] at hB
    refine ⟨fun h1 => (by rw [hB.1] at h1; cases h1), fun i hi => ?_⟩
    rw [hB.1] at hi
    have hik : i = k := by simpa using hi
    subst hik
    have hw : wpOp P ops Q' i (wpList P ops Q' l) a w := by unfold wpOp; simp only [h0]; exact h
    exact wpOp_mono (fun a' w' h' => ⟨fun hlt => absurd hlt (by omega), wpR_of_seqX l (i + 1) _ a' w' (by omega) (fun j => by have := hl (j + 1); simpa [Nat.add_assoc, Nat.add_comm 1 j] using this) hB.2 h'⟩) hw

theorem wpR_of_ordX {n : Nat} (hsel : Region.noSelect ops = true) (hs : Region.sinkB md ops n = true) (hc : Region.chainB md ops n = true) (hn : n < ops.size) :
    ∀ (ord : List (Nat × Bool)) (listed : Array Bool) (a : Act) (w : World), HeadInv md ops n listed → ordB md ops n ord listed = true → wpOrdX bx P ops Q n ord a w →
      wpRX bx P md ops Q n (ord.length + (ops.size - n)) listed a w
  | [], listed, a, w, _, hB, h => by
    have := wpR_of_seqX (bx := bx) (md := md) (n := n) (Q' := Q) (ops.toList.drop n) n listed a w (Nat.le_refl _) (fun j => by simp [List.getElem?_drop]) (by simpa [ordB] using hB) h
    simpa using this
  | (i, true) :: rest, listed, a, w, inv, hB, h => by
    obtain ⟨o, v, ho, hy, hQ, h⟩ := h
    simp only [ordB, if_true, Bool.and_eq_true, decide_eq_true_eq] at hB
    obtain ⟨⟨⟨h1, h2⟩, h3⟩, h4⟩ := hB
    have hr : i ∈ Region.ready md ops listed := by simpa using h1
    have := wpR_firstX2 ho (Region.noSelect_spec hsel) hs hc hn h3 hQ _ listed a w inv (Region.free_spec ho h2) hr hy (wpR_of_ordX hsel hs hc hn rest _ _ w (inv.set hr h3) h4 h)
    rw [List.length_cons, show rest.length + 1 + (ops.size - n) = rest.length + (ops.size - n) + 1 by omega]
    exact this
  | (i, false) :: rest, listed, a, w, inv, hB, h => by
    simp only [ordB, Bool.false_eq_true, if_false, Bool.and_eq_true, decide_eq_true_eq] at hB
    obtain ⟨⟨h1, h3⟩, h4⟩ := hB
    have hr : i ∈ Region.ready md ops listed := by rw [h1]; simp
    rw [List.length_cons, show rest.length + 1 + (ops.size - n) = rest.length + (ops.size - n) + 1 by omega]
    refine ⟨fun h0 => (by rw [h0] at h1; cases h1), fun j hj => ?_⟩
    rw [h1] at hj
    obtain rfl : j = i := by simpa using hj
    exact wpOp_mono (fun a' w' h' => ⟨fun _ => h'.1, wpR_of_ordX hsel hs hc hn rest _ a' w' (inv.set hr h3) h4 h'.2⟩) h

/-- THE BEGINNING -/
theorem wp_region_eagerX {id : Nat} {a : Act} {w : World} (n : Nat) (ord : List (Nat × Bool)) (hm : P.follows .mixedOrders = true) (hB : eagerB .any ops n ord = true)
    (h : wpOrdX bx P ops Q n ord a w.drew) : (Code.region id ops true).wp P Q a w := by
  simp only [eagerB, Bool.and_eq_true, decide_eq_true_eq] at hB
  obtain ⟨⟨⟨⟨⟨hsel, hn⟩, hl⟩, hs⟩, hc⟩, ho⟩ := hB
  have inv0 : HeadInv .any ops n (Array.replicate ops.size false) :=
    ⟨by simp, fun j oj _ hl => (by rw [getD_replicate_false] at hl; cases hl), fun t _ ht => getD_in (by simpa using ht) (getD_replicate_false _ _)⟩
  have := wpR_of_ordX (P := P) (Q := Q) hsel hs hc hn ord _ a w.drew inv0 ho h
  rw [hl, show n + (ops.size - n) = ops.size by omega] at this
  exact wp_region_any hm (wpAny_of_RX _ _ _ _ this)

/-- an operation that merely yields -/
theorem wpOrd_yieldX {n i : Nat} {rest : List (Nat × Bool)} {o : Oper} {v : Value} {a : Act} {w : World} (hi : ops.toList[i]? = some o) (hQ : ∀ c a w, Q (.panic c) (a.put o.dst v) w → Q (.panic c) a w)
    (hw : Region.wanted o (yielded ops a.tmps) = true) (hy : ∀ x, But bx w x → (execOp a.eval o).run P x = .ok (.value v) x)
    (h : wpOrdX bx P ops Q n rest (a.put o.dst v) w) : wpOrdX bx P ops Q n ((i, true) :: rest) a w :=
  ⟨o, v, by rw [← Array.getElem?_toList]; exact hi, Or.inl ⟨hw, hy⟩, hQ, h⟩

/-- an operation whose guard is false -/
theorem wpOrd_skipX {n i : Nat} {rest : List (Nat × Bool)} {o : Oper} {a : Act} {w : World} (hi : ops.toList[i]? = some o) (hQ : ∀ c a w, Q (.panic c) (a.put o.dst undef) w → Q (.panic c) a w)
    (hw : Region.wanted o (yielded ops a.tmps) = false)
    (h : wpOrdX bx P ops Q n rest (a.put o.dst undef) w) : wpOrdX bx P ops Q n ((i, true) :: rest) a w :=
  ⟨o, undef, by rw [← Array.getElem?_toList]; exact hi, Or.inr ⟨hw, rfl⟩, hQ, h⟩

/-- an operation that comes up alone: a call, a new variable -/
theorem wpOrd_stepX {n i : Nat} {rest : List (Nat × Bool)} {o : Oper} {a : Act} {w : World} (hi : ops.toList[i]? = some o) (hg : o.guard = none)
    (h : ∀ K : Act → World → Prop, (∀ a' w', But bx w w' → wpOrdX bx P ops Q n rest a' w' → K a' w') → o.wp P a w K Q) : wpOrdX bx P ops Q n ((i, false) :: rest) a w := by
  have hw : Region.wanted o (yielded ops a.tmps) = true := by simp [Region.wanted, hg]
  rw [Array.getElem?_toList] at hi
  show wpOp P ops Q i _ a w
  unfold wpOp
  simp only [hi, hw, if_true]
  exact .inl (h _ fun a' w' h1 h2 => ⟨h1, h2⟩)

theorem wpOrd_nilX {n : Nat} {a : Act} {w : World} {l : List Oper} (hl : ops.toList.drop n = l) (h : wpList P ops Q l a w) : wpOrdX bx P ops Q n [] a w := by
  subst hl; exact h

end
end Go.Proofs.YtpicmhbjiaegpaaGreatDoor
