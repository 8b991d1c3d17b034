/-
  DERIVED. Several texts in one: OkI, OkL, OkM, LwA.
-/
import Derived.Test.YtpicmhbjiaegpaaGreatDoorHOkH
import Derived.Test.YtpicmhbjiaegpaaGreatDoorGac
import Derived.Test.YtpicmhbjiaegpaaGreatDoorHOkK
import Derived.Defers
import Derived.Recover
namespace Go.Proofs.YtpicmhbjiaegpaaGreatDoor
open Go.RowKit

theorem isBuilder_below {T e : TypeId} {B b : Nat} {xs : List Value} {w w' : World} (h : Lib.IsBuilder T e B b xs w) (hb : Below w.heap.size w w') : Lib.IsBuilder T e B b xs w' := by
  have one : ∀ {p : Value}, Lib.BuilderAt T e B b p xs w → Lib.BuilderAt T e B b p xs w' := by
    rintro p ⟨h1, v, h2, h3, h4⟩
    exact ⟨h1, v, (hb.block b (lt_of_block h2)).trans h2, ownsRow_below h3 hb, h4⟩
  exact h.imp one one
theorem string_any (B b : Nat) (l : List UInt8) (w : World) (h : Lib.IsBuilder 78 5 B b (Lib.byteCells l) w) (hB : B ≤ w.heap.size) :
    Calls Tryz.prog 41 #[.pointer (some ⟨b, 0, none⟩)] w fun e w' => e = .returned (.string (bs l)) ∧ Below B w w' :=
  Tryz.Builder_String_any B b l w h hB

/-! ### lengths -/
theorem abs_lt {z : Int} {n : Nat} (h1 : -(n : Int) < z) (h2 : z < (n : Int)) : z.natAbs < n := by omega
theorem argT_len {a : Int} {k : Nat} (h : inR a (rangeOf k).1 (rangeOf k).2.1 = true) : (numT a (digitsOf k)).length ≤ 12 := by
  have hb := inR_bd h
  match k, hb with
  | 0, hb => exact Nat.le_trans (numT_le (k := 4) (d := 0) (abs_lt (n := 10000) (Int.lt_of_lt_of_le (by decide) hb.1) (Int.lt_of_le_of_lt hb.2 (by decide))) (by decide)) (by decide)
  | 1, hb => exact Nat.le_trans (numT_le (k := 4) (d := 0) (abs_lt (n := 10000) (Int.lt_of_lt_of_le (by decide) hb.1) (Int.lt_of_le_of_lt hb.2 (by decide))) (by decide)) (by decide)
  | 2, hb => exact Nat.le_trans (numT_le (k := 4) (d := 0) (abs_lt (n := 10000) (Int.lt_of_lt_of_le (by decide) hb.1) (Int.lt_of_le_of_lt hb.2 (by decide))) (by decide)) (by decide)
  | 3, hb => exact Nat.le_trans (numT_le (k := 4) (d := 0) (abs_lt (n := 10000) (Int.lt_of_lt_of_le (by decide) hb.1) (Int.lt_of_le_of_lt hb.2 (by decide))) (by decide)) (by decide)
  | 4, hb => exact Nat.le_trans (numT_le (k := 4) (d := 0) (abs_lt (n := 10000) (Int.lt_of_lt_of_le (by decide) hb.1) (Int.lt_of_le_of_lt hb.2 (by decide))) (by decide)) (by decide)
  | 5, hb => exact Nat.le_trans (numT_le (k := 4) (d := 0) (abs_lt (n := 10000) (Int.lt_of_lt_of_le (by decide) hb.1) (Int.lt_of_le_of_lt hb.2 (by decide))) (by decide)) (by decide)
  | 6, hb => exact Nat.le_trans (numT_le (k := 4) (d := 0) (abs_lt (n := 10000) (Int.lt_of_lt_of_le (by decide) hb.1) (Int.lt_of_le_of_lt hb.2 (by decide))) (by decide)) (by decide)
  | 7, hb => exact Nat.le_trans (numT_le (k := 4) (d := 6) (abs_lt (n := 10000000000) (Int.lt_of_lt_of_le (by decide) hb.1) (Int.lt_of_le_of_lt hb.2 (by decide))) (by decide)) (by decide)
  | 8, hb => exact Nat.le_trans (numT_le (k := 4) (d := 6) (abs_lt (n := 10000000000) (Int.lt_of_lt_of_le (by decide) hb.1) (Int.lt_of_le_of_lt hb.2 (by decide))) (by decide)) (by decide)
  | k + 9, hb => exact Nat.le_trans (numT_le (k := 4) (d := 0) (abs_lt (n := 10000) (Int.lt_of_lt_of_le (by decide : (-(10000 : Nat) : Int) < 0) hb.1) (Int.lt_of_le_of_lt hb.2 (by decide : (0 : Int) < (10000 : Nat)))) (by decide)) (by decide)
theorem argTs_len : ∀ (ks : List Nat) (us : List Int), argsOk ks us = true → ((argTs ks us).map fun w => w.length + 1).sum ≤ 13 * ks.length
  | [], us, _ => by cases us <;> simp [argTs]
  | k :: ks, [], _ => by simp [argTs]
  | k :: ks, a :: us, h => by
    rw [argsOk, Bool.and_eq_true] at h
    have h1 := argT_len h.1
    have h2 := argTs_len ks us h.2
    rw [argTs, List.map_cons, List.sum_cons, List.length_cons]
    omega
theorem lineT_len {x : Opd} (h : opdOk x = true) : (lineT x).length ≤ 99 := by
  unfold opdOk at h
  cases hk : kindsOf x.nm with
  | none => rw [hk] at h; cases h
  | some ks =>
    rw [hk] at h
    simp only [Bool.and_eq_true] at h
    obtain ⟨⟨⟨h1, h2⟩, h3⟩, h4⟩ := h
    have hn := (kinds_pos hk).1
    have hl := kinds5 hk
    have e1 := argTs_len ks x.ag h1
    have e2 := relT_len x.rel
    have hb := inR_bd h3
    have e3 : (numT x.tg 6).length ≤ 16 := Nat.le_trans (numT_le (k := 8) (d := 6) (abs_lt (n := 100000000000000) (by omega) (by omega)) (by decide)) (by decide)
    have e4 : x.rel = 1 → (numT x.wt 0).length ≤ 6 := by
      intro e
      rw [if_pos e] at h4
      have hw := inR_bd h4
      exact Nat.le_trans (numT_le (k := 4) (d := 0) (abs_lt (n := 10000) (by omega) (by omega)) (by decide)) (by decide)
    refine Nat.le_trans (joinT_sum _) ?_
    unfold wordsT
    rw [hk, Option.getD_some]
    simp only [List.map_cons, List.map_append, List.sum_cons, List.sum_append]
    have e5 : ((if x.rel = 1 then [numT x.wt 0] else []).map fun w : List UInt8 => w.length + 1).sum ≤ 7 := by
      split
      · rename_i e; have := e4 e; simp; omega
      · simp
    omega
theorem opdsT_len : ∀ (l : List Opd), (∀ x ∈ l, opdOk x = true) → (opdsT l).length ≤ 100 * l.length
  | [], _ => by simp [opdsT]
  | x :: l, h => by
    have h1 := lineT_len (h x List.mem_cons_self)
    have h2 := opdsT_len l (fun y hy => h y (List.mem_cons_of_mem _ hy))
    rw [opdsT_cons, List.length_append, List.length_cons, List.length_cons]; omega
theorem opdsT_next {l : List Opd} {k : Nat} {x : Opd} (h : l[k]? = some x) : opdsT (l.take (k + 1)) = opdsT (l.take k) ++ (lineT x ++ [10]) := by
  rw [take_next h, opdsT_append, opdsT_cons]; simp [opdsT]

def textB (l : List Opd) : List UInt8 := if opdsOk l then opdsT l else []
def RetTx (w : World) (l : List Opd) (e : Ending) (w' : World) : Prop := e = .returned (.tuple #[.string (bs (textB l)), .int .i64 (checkE l)]) ∧ Below w.heap.size w w'
set_option maxRecDepth 100000 in
set_option maxHeartbeats 1600000 in
theorem oText_any (l : List Opd) (a : Option Addr) (n c : Nat) (w : World) (h : RR OpdR 9 (fun b => b < w.heap.size) w a n c l) (hn : n ≤ 1000000) (hg : GW w) :
    Calls Tryz.prog 18 #[.slice a n c] w (RetTx w l) := by
  have hlen := h.1
  have H := Lib.hid h; have Hg := Lib.hid hg; clear h hg
  go_enter Tryz.func18, Tryz.ntmps18
  go_wp2_with fail
  refine (check_any l a n c _ H.out hn).mono ?_
  rintro e w1 ⟨rfl, hb1⟩
  have Hb1 := Lib.hid hb1; clear hb1
  cases hok : opdsOk l
  · have hc : checkE l = 330 := by unfold checkE; rw [hok]; rfl
    have Hc := Lib.hid hc
    have htx : textB l = [] := by unfold textB; rw [hok]; rfl
    have Htx := Lib.hid htx
    rw [hc]
    clear hc htx
    go_wp2_with fail
    go_ret2
    exact ⟨by rw [Htx.out, Hc.out]; rfl, Hb1.out⟩
  · have hc : checkE l = 0 := by unfold checkE; rw [hok]; rfl
    have Hc := Lib.hid hc
    have htx : textB l = opdsT l := by unfold textB; rw [hok]; rfl
    have Htx := Lib.hid htx
    have hall := (opdsOk_all hok).2
    have h12 := (opdsOk_all hok).1
    have Hall := Lib.hid hall
    rw [hc]
    clear hc htx hok hall
    have hfb := Lib.fresh_isBuilder 78 5 w1
    have hbw : Below w.heap.size w (w1.alloc (.cells #[.pointer none, .slice none 0 0] 78)) := Hb1.out.alloc Hb1.out.size _
    have hsz : w1.heap.size < (w1.alloc (.cells #[.pointer none, .slice none 0 0] 78)).heap.size := by simp
    have Hfb := Lib.hid hfb; have Hbw := Lib.hid hbw
    clear hfb hbw
    go_wp2_with fail
    generalize (w1.alloc (.cells #[.pointer none, .slice none 0 0] 78)) = w2 at *
    have hs1 := Hb1.out.size
    generalize w1.heap.size = B at *
    clear Hb1
    go_loopw [15] (fun iv wr => ∃ k : Nat, k ≤ n ∧ iv = .int .i64 (k : Int) ∧ Lib.IsBuilder 78 5 B B (Lib.byteCells (opdsT (l.take k))) wr ∧ Below w.heap.size w wr ∧ B < wr.heap.size) (fun iv _ => n - (intOf iv).toNat)
    case atStart => exact ⟨0, Nat.zero_le _, rfl, Hfb.out, Hbw.out, hsz⟩
    case round =>
      obtain ⟨k, hk, rfl, hbl, hb, hBs⟩ := hrel
      have Hbl := Lib.hid hbl; have Hb := Lib.hid hb
      clear hbl hb Hfb Hbw
      by_cases hkn : k < n
      · obtain ⟨b, off, x, cs, rfl, hlt, hx, ⟨a0, a1, a2, a3, a4, ha, rfl⟩, hr⟩ := (H.out.go opdOkR Hb.out).at hkn
        have Hx := Lib.hid hx; have Hr := Lib.hid hr; have Ha := Lib.hid ha
        have hxo := Hall.out x (List.mem_of_getElem? hx)
        obtain ⟨ks, hgd⟩ := good_of hxo ha
        have Hgd := Lib.hid hgd
        have hll := lineT_len hxo
        have hlk := opdsT_len (l.take k) (fun y hy => Hall.out y (List.mem_of_mem_take hy))
        have hlk2 : (opdsT (l.take k)).length ≤ 1200 := Nat.le_trans hlk (by rw [List.length_take]; omega)
        clear hx hr ha hgd hlk
        have hal := (Below.refl wr.heap.size wr).alloc (Nat.le_refl _) (.cells #[.string (bs x.nm), .int .i64 a0, .int .i64 a1, .int .i64 a2, .int .i64 a3, .int .i64 a4, .int .i64 x.rel, .int .i64 x.tg, .int .i64 x.wt] 50)
        have Hal := Lib.hid hal; clear hal
        go_wp2_with (refine wpL_load_op Hr.out rfl (.tmp 17) rfl rfl ?_)
        refine (otext_any x ks a0 a1 a2 a3 a4 Ha.out Hgd.out _ ((Hg.out.below Hb.out).below Hal.out)).mono ?_
        rintro e w4 ⟨rfl, hb4⟩
        have hb5 := Hal.out.trans (hb4.mono Hal.out.size)
        have Hbl4 := Lib.hid (isBuilder_below Hbl.out hb5); have Hb4 := Lib.hid (Hb.out.trans (hb5.mono Hb.out.size)); have hs4 := hb5.size
        clear hb4 hb5 Hal Hbl Hb
        have happ : bs (lineT x) ++ bs [10] = bs (lineT x ++ [10]) := bs_append _ _
        go_wp2_with fail
        refine (writeString_any B B (opdsT (l.take k)) (lineT x ++ [10]) _ Hbl4.out (by simp; omega) (by omega)).mono ?_
        rintro e w5 ⟨rfl, hbl5, hb5⟩
        rw [← opdsT_next Hx.out] at hbl5
        have Hbl5 := Lib.hid hbl5; have Hb5 := Lib.hid (Hb4.out.trans (hb5.mono hs1)); have hs5 := hb5.size
        clear hbl5 hb5 Hbl4 Hb4
        go_wp2_with fail
        go_roundw
        case rel => exact ⟨k + 1, by omega, by go_num, Hbl5.out, Hb5.out, by omega⟩
        case measure => simp [intOf]; omega
      · obtain rfl : k = n := by omega
        go_wp2_with fail
        refine (string_any B B (opdsT (l.take k)) _ Hbl.out (by omega)).mono ?_
        rintro e w4 ⟨rfl, hb4⟩
        go_wp2_with fail
        go_ret2
        refine ⟨?_, Hb.out.trans (hb4.mono hs1)⟩
        rw [Htx.out, Hc.out, ← hlen, List.take_length]; rfl
end Go.Proofs.YtpicmhbjiaegpaaGreatDoor

namespace Go.Proofs.YtpicmhbjiaegpaaGreatDoor
open Go.RowKit

def zeroOp : Value := .agg #[.string { data := #[] }, .int .i64 0, .int .i64 0, .int .i64 0, .int .i64 0, .int .i64 0, .int .i64 0, .int .i64 0, .int .i64 0]
def MalE : List PanicEntry := [{ v := .iface 103 (.agg #[]), recovered := false }]

theorem other_stored {w : World} {g q : Nat} {nm : List UInt8} {a0 a1 a2 a3 a4 rel tg wt : Int} {cs : Array Value} {T : TypeId} (h : w.heap[q]? = some (.cells cs T (0, 0))) (hne : g ≠ q) : (W9 w g nm a0 a1 a2 a3 a4 rel tg wt).heap[q]? = some (.cells cs T (0, 0)) := (obj_other (obj_other (obj_other (obj_other (obj_other (obj_other (obj_other (obj_other (obj_other h ⟨g, 0, none⟩ hne (.string (bs nm))) ⟨g, 1, none⟩ hne (.int .i64 a0)) ⟨g, 2, none⟩ hne (.int .i64 a1)) ⟨g, 3, none⟩ hne (.int .i64 a2)) ⟨g, 4, none⟩ hne (.int .i64 a3)) ⟨g, 5, none⟩ hne (.int .i64 a4)) ⟨g, 6, none⟩ hne (.int .i64 rel)) ⟨g, 7, none⟩ hne (.int .i64 tg)) ⟨g, 8, none⟩ hne (.int .i64 wt))
theorem below_stored {B g : Nat} {w w' : World} {nm : List UInt8} {a0 a1 a2 a3 a4 rel tg wt : Int} (h : Below B w w') (hg : B ≤ g) : Below B w (W9 w' g nm a0 a1 a2 a3 a4 rel tg wt) := (Below.setCell (p := ⟨g, 8, none⟩) (Below.setCell (p := ⟨g, 7, none⟩) (Below.setCell (p := ⟨g, 6, none⟩) (Below.setCell (p := ⟨g, 5, none⟩) (Below.setCell (p := ⟨g, 4, none⟩) (Below.setCell (p := ⟨g, 3, none⟩) (Below.setCell (p := ⟨g, 2, none⟩) (Below.setCell (p := ⟨g, 1, none⟩) (Below.setCell (p := ⟨g, 0, none⟩) h hg (.string (bs nm))) hg (.int .i64 a0)) hg (.int .i64 a1)) hg (.int .i64 a2)) hg (.int .i64 a3)) hg (.int .i64 a4)) hg (.int .i64 rel)) hg (.int .i64 tg)) hg (.int .i64 wt))

theorem step_list {P : Program} {ops : Array Oper} {l : List Oper} {Q : Exit → Act → World → Prop} {a : Act} {w : World} (F : World → Prop) (hF : F w) (h : ∀ w', F w' → wpList P ops Q l a w') : wpList P ops Q l a w := h w hF
theorem step_world {P : Program} {c : Code} {Q : Exit → Act → World → Prop} {a : Act} {w : World} (F : World → Prop) (hF : F w) (h : ∀ w', F w' → c.wp P Q a w') : c.wp P Q a w := h w hF
theorem wpL_store_op {ops : Array Oper} {rest : List Oper} {op : Oper} {ac : Act} {w : World} {Q : Exit → Act → World → Prop} {g : Nat} {cs : Array Value} {nm : List UInt8} {a0 a1 a2 a3 a4 rel tg wt : Int} (h : w.heap[g]? = some (.cells cs 50 (0, 0))) (hsz : cs.size = 9) (hgd : op.guard = none) (x y : Operand) (ho : op.op = .store 50 x y)
    (hx : ac.eval x = .pointer (some ⟨g, 0, none⟩)) (hy : ac.eval y = .agg #[.string (bs nm), .int .i64 a0, .int .i64 a1, .int .i64 a2, .int .i64 a3, .int .i64 a4, .int .i64 rel, .int .i64 tg, .int .i64 wt]) (hk : wpList Tryz.prog ops Q rest (ac.put op.dst undef) (W9 w g nm a0 a1 a2 a3 a4 rel tg wt)) : wpList Tryz.prog ops Q (op :: rest) ac w :=
  wpList_store_mid hgd 50 x y ho g 0 _ hx hy (fun j hj => by
    have hj : j < 9 := hj
    simp [World.cell?, World.frozen?, h, hsz, hj]) Tryz.infoOpd (by simp [Value.oneCell']) hk

theorem catch_idle (p q : Addr) (w : World) :
    CallsD Tryz.prog 58 #[.pointer (some p), .pointer (some q)] .returning w fun e u' w' => e = .returned (.tuple #[]) ∧ u' = .returning ∧ w' = w := by
  refine callsD_of_wpS Tryz.func58 rfl fun c₀ cs hu => ?_
  apply wpS_seq
  apply wpS_region
  simp [wpOpsS, go_sem, recoverD, hu, Tryz.ntmps58, Exit.thenS]
  apply wpS_seq
  apply wpS_region
  simp [wpOpsS, go_sem, Exit.thenS]
  refine wpS_cond (t := false) (by simp [Act.eval, Array.replicate]) ?_
  simp only [Bool.false_eq_true, if_false]
  refine wpS_of_wp (wp_skip ?_)
  cases c₀
  simp_all [bodyPostS, results, Tryz.results58]

set_option maxRecDepth 100000 in
set_option maxHeartbeats 1600000 in
theorem catch_panicking (p q : Nat) (hpq : p ≠ q) (older : List PanicEntry) (w : World) {c0 c1 c2 c3 c4 c5 c6 c7 c8 d : Value} (hp : w.heap[p]? = some (.cells #[c0, c1, c2, c3, c4, c5, c6, c7, c8] 50 (0, 0))) (hq : w.heap[q]? = some (.cells #[d] 4 (0, 0))) :
    CallsD Tryz.prog 58 #[.pointer (some ⟨p, 0, none⟩), .pointer (some ⟨q, 0, none⟩)] (.panicking ({ v := .iface 103 (.agg #[]), recovered := false } :: older)) w fun e u' w' =>
      e = .returned (.tuple #[]) ∧ u' = .panicking ({ v := .iface 103 (.agg #[]), recovered := true } :: older) ∧ OpdB w' p [] 0 0 0 0 0 0 0 0 ∧ w'.heap[q]? = some (.cells #[.bool false] 4 (0, 0)) ∧ Below (min p q) w w' := by
  refine callsD_of_wpS Tryz.func58 rfl fun c₀ cs hu => ?_
  apply wpS_seq
  apply wpS_region
  simp [wpOpsS, go_sem, recoverD, hu, Tryz.ntmps58, Exit.thenS]
  refine wpS_of_wp (wp_mono (Q := fun e a' w' => e = .normal ∧ a'.defers = [] ∧ OpdB w' p [] 0 0 0 0 0 0 0 0 ∧ w'.heap[q]? = some (.cells #[.bool false] 4 (0, 0)) ∧ Below (min p q) w w') ?_ ?_)
  rotate_left
  · rintro e a' w' ⟨rfl, hd, h1, h2, h3⟩
    exact ⟨hd, _, rfl, _, by simp [results, Tryz.results58], rfl, rfl, h1, h2, h3⟩
  have htm : (#[Value.pointer (some ⟨p, 0, none⟩), Value.pointer (some ⟨q, 0, none⟩)] ++ ((Array.replicate 15 undef).setIfInBounds 3 (Value.iface 103 (Value.agg #[]))).setIfInBounds 0 (Value.iface 103 (Value.agg #[]))) = #[Value.pointer (some ⟨p, 0, none⟩), Value.pointer (some ⟨q, 0, none⟩), Value.iface 103 (Value.agg #[]), undef, undef, Value.iface 103 (Value.agg #[]), undef, undef, undef, undef, undef, undef, undef, undef, undef, undef, undef] := by rfl
  rw [htm]
  clear htm
  have hpl := lt_of_block hp
  have hql := lt_of_block hq
  have hal := (Below.refl w.heap.size w).alloc (Nat.le_refl _) (.cells #[] 103)
  have hp1 := (hal.block p hpl).trans hp
  have hq1 := (hal.block q hql).trans hq
  have hd := obj_cell hq1 0
  have hdf := obj_free hq1 0
  have Hp1 := Lib.hid hp1; have Hq1 := Lib.hid hq1; have Hal := Lib.hid hal; have Hu := Lib.hid hu
  clear hp1 hq1 hal hp hq hu
  have hta : ∀ x : World, (Instr.typeAssert (.iface 103 (.agg #[])) 20 103 true).run Tryz.prog x = .ok (.tuple #[.agg #[], .bool true]) x := fun _ => by kernel_rfl
  go_upto_region 5 with fail
  generalize (w.alloc (.cells #[] 103)) = w1 at *
  have s1 := opd_stored (nm := []) (a0 := 0) (a1 := 0) (a2 := 0) (a3 := 0) (a4 := 0) (rel := 0) (tg := 0) (wt := 0) Hp1.out
  have s2 := other_stored (nm := []) (a0 := 0) (a1 := 0) (a2 := 0) (a3 := 0) (a4 := 0) (rel := 0) (tg := 0) (wt := 0) Hq1.out hpq
  have s3 : Below (min p q) w (W9 w1 p [] 0 0 0 0 0 0 0 0) := below_stored (nm := []) (a0 := 0) (a1 := 0) (a2 := 0) (a3 := 0) (a4 := 0) (rel := 0) (tg := 0) (wt := 0) (Hal.out.mono (by omega)) (Nat.min_le_left _ _)
  have S1 := Lib.hid s1; have S2 := Lib.hid s2; have S3 := Lib.hid s3
  clear s1 s2 s3 hd hdf
  go_wp2_with (refine wpL_store_op (nm := []) (a0 := 0) (a1 := 0) (a2 := 0) (a3 := 0) (a4 := 0) (rel := 0) (tg := 0) (wt := 0) Hp1.out rfl rfl (.tmp 0) (.tmp 16) rfl rfl rfl ?_; refine step_list (fun wx => OpdB wx p [] 0 0 0 0 0 0 0 0 ∧ wx.heap[q]? = some (.cells #[d] 4 (0, 0)) ∧ Below (min p q) w wx) ⟨S1.out, S2.out, S3.out⟩ ?_; rintro wx ⟨s1, s2, s3⟩; have hd := obj_cell s2 0; have hdf := obj_free s2 0; have T1 := Lib.hid s1; have T2 := Lib.hid s2; have T3 := Lib.hid s3; clear s1 s2 s3)
  exact ⟨obj_other T1.out ⟨q, 0, none⟩ (fun e => hpq e.symm) (.bool false), obj_setCell T2.out 0 (.bool false), Below.setCell (p := ⟨q, 0, none⟩) T3.out (Nat.min_le_right _ _) (.bool false)⟩

def lineV : Option Opd → Value
  | some x => .tuple #[opV x, .bool true]
  | none => .tuple #[zeroOp, .bool false]
def RetLine (w : World) (ws : List (List UInt8)) (e : Ending) (w' : World) : Prop := e = .returned (lineV (readOf ws)) ∧ Below w.heap.size w w'
theorem results_line {fn : Func} {p q : Tmp} {tmps : Array Value} {w : World} {g r : Nat} {b : Bool} {nm : List UInt8} {a0 a1 a2 a3 a4 rel tg wt : Int} (h : fn.results = #[.cell p 50, .cell q 4]) (hp : tmps.getD p undef = .pointer (some ⟨g, 0, none⟩)) (hq : tmps.getD q undef = .pointer (some ⟨r, 0, none⟩)) (hs : OpdB w g nm a0 a1 a2 a3 a4 rel tg wt) (hb : w.heap[r]? = some (.cells #[.bool b] 4 (0, 0))) :
    (results fn tmps).run Tryz.prog w = .ok (.tuple #[.agg #[.string (bs nm), .int .i64 a0, .int .i64 a1, .int .i64 a2, .int .i64 a3, .int .i64 a4, .int .i64 rel, .int .i64 tg, .int .i64 wt], .bool b]) w := by
  have h2 : (results fn tmps).run Tryz.prog w = ((asAddr (tmps.getD p undef)).run Tryz.prog w).andThen fun a w1 => ((loadVar 50 a).run Tryz.prog w1).andThen fun v w2 => ((asAddr (tmps.getD q undef)).run Tryz.prog w2).andThen fun a2 w3 => ((loadVar 4 a2).run Tryz.prog w3).andThen fun v2 w4 => .ok (.tuple #[v, v2]) w4 := by
    simp only [results, h]
    simp [Sem.run_bind, Result.andThen]
  rw [h2, hp, hq]
  simp only [asAddr, Sem.run_pure, Result.andThen_ok]
  rw [run_loadVar_row w g 50 50 _ (0, 0) _ hs Tryz.underlying50 rfl Tryz.infoOpd]
  simp only [Result.andThen_ok]
  have hc : w.cell? ⟨r, 0, none⟩ = some (.bool b) := obj_cell hb 0
  go_simp
set_option maxRecDepth 100000 in
set_option maxHeartbeats 1600000 in
theorem line_any (ws : List (List UInt8)) (a : Option Addr) (n c : Nat) (w : World) (h : Wds w a n c ws w.heap.size) (hn : n ≤ 10000000) (hg : GW w) (hws : ∀ s ∈ ws, s.length ≤ 100000) :
    Calls Tryz.prog 36 #[.slice a n c] w (RetLine w ws) := by
  have hg8 := hg.sz
  have hal1 := (Below.refl w.heap.size w).alloc (Nat.le_refl _) (.cells #[.string { data := #[] }, .int .i64 0, .int .i64 0, .int .i64 0, .int .i64 0, .int .i64 0, .int .i64 0, .int .i64 0, .int .i64 0] 50)
  have hal2 := hal1.alloc hal1.size (.cells #[.bool false] 4)
  have hal3 := hal2.alloc hal2.size (.cells #[.slice a n c] 109)
  have hT : (((w.alloc (.cells #[.string { data := #[] }, .int .i64 0, .int .i64 0, .int .i64 0, .int .i64 0, .int .i64 0, .int .i64 0, .int .i64 0, .int .i64 0] 50)).alloc (.cells #[.bool false] 4)).alloc (.cells #[.slice a n c] 109)).heap[w.heap.size]? = some (.cells #[.string { data := #[] }, .int .i64 0, .int .i64 0, .int .i64 0, .int .i64 0, .int .i64 0, .int .i64 0, .int .i64 0, .int .i64 0] 50 (0, 0)) :=
    (Below.heap_alloc _ _ _ (by simp <;> omega)).trans ((Below.heap_alloc _ _ _ (by simp)).trans (heap_alloc_new _ _))
  have hB : (((w.alloc (.cells #[.string { data := #[] }, .int .i64 0, .int .i64 0, .int .i64 0, .int .i64 0, .int .i64 0, .int .i64 0, .int .i64 0, .int .i64 0] 50)).alloc (.cells #[.bool false] 4)).alloc (.cells #[.slice a n c] 109)).heap[w.heap.size + 1]? = some (.cells #[.bool false] 4 (0, 0)) := by
    refine (Below.heap_alloc _ _ _ (by simp)).trans ?_
    have := heap_alloc_new (w.alloc (.cells #[.string { data := #[] }, .int .i64 0, .int .i64 0, .int .i64 0, .int .i64 0, .int .i64 0, .int .i64 0, .int .i64 0, .int .i64 0] 50)) (.cells #[.bool false] 4)
    rw [size_alloc] at this
    exact this
  have hR : (((w.alloc (.cells #[.string { data := #[] }, .int .i64 0, .int .i64 0, .int .i64 0, .int .i64 0, .int .i64 0, .int .i64 0, .int .i64 0, .int .i64 0] 50)).alloc (.cells #[.bool false] 4)).alloc (.cells #[.slice a n c] 109)).heap[w.heap.size + 1 + 1]? = some (.cells #[.slice a n c] 109 (0, 0)) := by
    have := heap_alloc_new ((w.alloc (.cells #[.string { data := #[] }, .int .i64 0, .int .i64 0, .int .i64 0, .int .i64 0, .int .i64 0, .int .i64 0, .int .i64 0, .int .i64 0] 50)).alloc (.cells #[.bool false] 4)) (.cells #[.slice a n c] 109)
    rw [size_alloc, size_alloc] at this
    exact this
  have hr : RdrB (((w.alloc (.cells #[.string { data := #[] }, .int .i64 0, .int .i64 0, .int .i64 0, .int .i64 0, .int .i64 0, .int .i64 0, .int .i64 0, .int .i64 0] 50)).alloc (.cells #[.bool false] 4)).alloc (.cells #[.slice a n c] 109)) (w.heap.size + 1 + 1) ws :=
    ⟨a, n, c, hR, h.kept (fun k hk => hal3.block k hk) (by omega), hn⟩
  have HT := Lib.hid hT; have HB := Lib.hid hB; have HR := Lib.hid hr; have Hal := Lib.hid hal3
  have Hg := Lib.hid (hg.below hal3); have Hws := Lib.hid hws
  clear h hg hws hal1 hal2 hal3 hT hB hR hr
  go_enter_defers Tryz.func36, Tryz.ntmps36
  go_wp2_with fail
  generalize (((w.alloc (.cells #[.string { data := #[] }, .int .i64 0, .int .i64 0, .int .i64 0, .int .i64 0, .int .i64 0, .int .i64 0, .int .i64 0, .int .i64 0] 50)).alloc (.cells #[.bool false] 4)).alloc (.cells #[.slice a n c] 109)) = w3 at *
  refine (operand_any ws (w.heap.size + 1 + 1) w3 HR.out Hg.out (by omega) Hws.out).mono ?_
  rintro e w4 ⟨hbut, hm⟩
  have hTl := lt_of_block HT.out
  have hBl := lt_of_block HB.out
  have hT4 := (hbut.keep w.heap.size hTl (by omega)).trans HT.out
  have hB4 := (hbut.keep (w.heap.size + 1) hBl (by omega)).trans HB.out
  have hw4 := Hal.out.trans (hbut.bel.mono (by omega))
  have HT4 := Lib.hid hT4; have HB4 := Lib.hid hB4; have Hw4 := Lib.hid hw4
  clear hT4 hB4 hw4 hbut HT HB HR Hg Hal
  cases hro : readOf ws with
  | none =>
    rw [hro] at hm
    subst hm
    have Hro := Lib.hid hro; clear hro
    unfold Mal
    show Leaves _ _ _ _ _ _ _
    refine leaves_cons (f := 58) (args := #[.pointer (some ⟨w.heap.size, 0, none⟩), .pointer (some ⟨w.heap.size + 1, 0, none⟩)]) (by simp) (by simp [go_sem]) ?_
    refine (catch_panicking w.heap.size (w.heap.size + 1) (by omega) [] w4 HT4.out HB4.out).mono ?_
    rintro e u' w5 ⟨rfl, rfl, h1, h2, h3⟩
    simp only [Leaves, settle, List.dropWhile_nil]
    exact ⟨_, results_line rfl rfl rfl h1 h2, by rw [Hro.out]; rfl, Hw4.out.trans (h3.mono (by omega))⟩
  | some x =>
    rw [hro] at hm
    subst hm
    have Hro := Lib.hid hro; clear hro
    unfold opV
    generalize hA0 : argAt x.ag 0 = a0
    generalize hA1 : argAt x.ag 1 = a1
    generalize hA2 : argAt x.ag 2 = a2
    generalize hA3 : argAt x.ag 3 = a3
    generalize hA4 : argAt x.ag 4 = a4
    generalize hNm : x.nm = nm
    generalize hRl : x.rel = rel
    generalize hTg : x.tg = tg
    generalize hWt : x.wt = wt
    have hopV : opV x = .agg #[.string (bs nm), .int .i64 a0, .int .i64 a1, .int .i64 a2, .int .i64 a3, .int .i64 a4, .int .i64 rel, .int .i64 tg, .int .i64 wt] := by
      unfold opV; rw [hA0, hA1, hA2, hA3, hA4, hNm, hRl, hTg, hWt]
    have HopV := Lib.hid hopV
    clear hopV hA0 hA1 hA2 hA3 hA4 hNm hRl hTg hWt
    have S1 := Lib.hid (opd_stored (nm := nm) (a0 := a0) (a1 := a1) (a2 := a2) (a3 := a3) (a4 := a4) (rel := rel) (tg := tg) (wt := wt) HT4.out)
    have S2 := Lib.hid (other_stored (g := w.heap.size) (nm := nm) (a0 := a0) (a1 := a1) (a2 := a2) (a3 := a3) (a4 := a4) (rel := rel) (tg := tg) (wt := wt) HB4.out (by omega))
    have s3 : Below w.heap.size w (W9 w4 w.heap.size nm a0 a1 a2 a3 a4 rel tg wt) := below_stored (nm := nm) (a0 := a0) (a1 := a1) (a2 := a2) (a3 := a3) (a4 := a4) (rel := rel) (tg := tg) (wt := wt) Hw4.out (Nat.le_refl _)
    have S3 := Lib.hid s3; clear s3
    go_wp2_with (refine wpL_store_op (nm := nm) (a0 := a0) (a1 := a1) (a2 := a2) (a3 := a3) (a4 := a4) (rel := rel) (tg := tg) (wt := wt) HT4.out rfl rfl (.tmp 2) (.tmp 11) rfl rfl rfl ?_; refine step_list (fun wx => OpdB wx w.heap.size nm a0 a1 a2 a3 a4 rel tg wt ∧ wx.heap[w.heap.size + 1]? = some (.cells #[.bool false] 4 (0, 0)) ∧ Below w.heap.size w wx) ⟨S1.out, S2.out, S3.out⟩ ?_; rintro wx ⟨s1, s2, s3⟩; have hd := obj_cell s2 0; have hdf := obj_free s2 0; have T1 := Lib.hid s1; have T2 := Lib.hid s2; have T3 := Lib.hid s3; clear s1 s2 s3)
    show Leaves _ _ _ _ _ _ _
    refine leaves_cons (f := 58) (args := #[.pointer (some ⟨w.heap.size, 0, none⟩), .pointer (some ⟨w.heap.size + 1, 0, none⟩)]) (by simp) (by simp [go_sem]) ?_
    refine (catch_idle ⟨w.heap.size, 0, none⟩ ⟨w.heap.size + 1, 0, none⟩ _).mono ?_
    rintro e u' w5 ⟨rfl, rfl, rfl⟩
    simp only [Leaves, settle]
    exact ⟨_, results_line rfl rfl rfl (obj_other T1.out ⟨w.heap.size + 1, 0, none⟩ (by simp) (.bool true)) (obj_setCell T2.out 0 (.bool true)), by rw [Hro.out, lineV, HopV.out], T3.out.setCell (p := ⟨w.heap.size + 1, 0, none⟩) (by simp) (.bool true)⟩
end Go.Proofs.YtpicmhbjiaegpaaGreatDoor

namespace Go.Proofs.YtpicmhbjiaegpaaGreatDoor
open Go.RowKit

/-! ### words -/
theorem words_ne : ∀ (l u : List UInt8), ∀ s ∈ wordsOf u l, s ≠ []
  | [], u, s, h => by
    rw [wordsOf] at h
    split at h
    · cases h
    · rw [List.mem_singleton] at h; subst h; assumption
  | b :: l, u, s, h => by
    rw [wordsOf] at h
    split at h
    · split at h
      · exact words_ne l _ s h
      · rcases List.mem_cons.1 h with rfl | h
        · assumption
        · exact words_ne l _ s h
    · exact words_ne l _ s h
theorem words_len : ∀ (l u : List UInt8), ∀ s ∈ wordsOf u l, s.length ≤ u.length + l.length
  | [], u, s, h => by
    rw [wordsOf] at h
    split at h
    · cases h
    · rw [List.mem_singleton] at h; subst h; simp
  | b :: l, u, s, h => by
    rw [wordsOf] at h
    rw [List.length_cons]
    split at h
    · split at h
      · have := words_len l _ s h; simp at this; omega
      · rcases List.mem_cons.1 h with rfl | h
        · omega
        · have := words_len l _ s h; simp at this; omega
    · have := words_len l _ s h; simp at this; omega
theorem words_many : ∀ (l u : List UInt8), (wordsOf u l).length ≤ l.length + 1
  | [], u => by
    rw [wordsOf]
    split <;> simp
  | b :: l, u => by
    rw [wordsOf, List.length_cons]
    split
    · split
      · have := words_many l []; omega
      · have := words_many l []; rw [List.length_cons]; omega
    · have := words_many l (u ++ [b]); omega
theorem lines_len : ∀ (l u : List UInt8), ∀ s ∈ linesOf u l, s.length ≤ u.length + l.length
  | [], u, s, h => by
    rw [linesOf, List.mem_singleton] at h; subst h; simp
  | b :: l, u, s, h => by
    rw [linesOf] at h
    rw [List.length_cons]
    split at h
    · rcases List.mem_cons.1 h with rfl | h
      · omega
      · have := lines_len l _ s h; simp at this; omega
    · have := lines_len l _ s h; simp at this; omega
theorem lines_many : ∀ (l u : List UInt8), (linesOf u l).length ≤ l.length + 1
  | [], u => by simp [linesOf]
  | b :: l, u => by
    rw [linesOf, List.length_cons]
    split
    · have := lines_many l []; rw [List.length_cons]; omega
    · have := lines_many l (u ++ [b]); omega

/-! ### the library's functions -/
theorem splitL_any (l : List UInt8) (w : World) (hg : GW w) (hl : l.length ≤ 1000000) : Calls Tryz.prog 33 #[.string (bs l), .string (bs [10])] w fun e w' =>
    e = .returned (.slice (some ⟨w.heap.size, 0, none⟩) (linesOf [] l).length (linesOf [] l).length) ∧ w' = w.alloc (.cells (strCs (linesOf [] l)).toArray 9) := by
  obtain ⟨m, hm⟩ := hg.m
  refine (Tryz.strings_Split (bs l) (bs [10]) m w (by rw [size_of_bs]; omega) hm (by decide)).mono ?_
  rintro e w' ⟨rfl, rfl⟩
  have h1 := splitB_lines l
  have h2 := count_lines l.length l (Nat.le_refl _)
  rw [h1, show Lib.countB (bs l) (bs [10]) = Lib.count l [10] from rfl, ← h2, List.map_map]
  exact ⟨rfl, rfl⟩
theorem isBlank_any (x : Nat) (w : World) (hx : x ≤ 1114111) : Calls Tryz.prog 35 #[.int .i32 (x : Int)] w fun e w' => e = .returned (.bool (spR x)) ∧ w = w' := by
  by_cases h1 : x = 32
  · subst h1
    go_enter Tryz.func35, Tryz.ntmps35
    go_wp2_with fail
    go_ret
    exact ⟨rfl, rfl⟩
  · have h1' : ((x : Int) == 32) = false := by rw [beq_eq_false_iff_ne]; omega
    have hs : spR x = (x == 9) := by unfold spR; rw [beq_eq_false_iff_ne.2 h1]; rfl
    have Hs := Lib.hid hs; clear hs h1
    by_cases h2 : x = 9
    · subst h2
      go_enter Tryz.func35, Tryz.ntmps35
      go_wp2_with fail
      go_ret
      exact ⟨rfl, rfl⟩
    · have h2' : ((x : Int) == 9) = false := by rw [beq_eq_false_iff_ne]; omega
      have h3 : (x == 9) = false := beq_eq_false_iff_ne.2 h2
      have H3 := Lib.hid h3; clear h3 h2
      go_enter Tryz.func35, Tryz.ntmps35
      go_wp2_with fail
      go_ret
      exact ⟨by rw [Hs.out, H3.out]; rfl, rfl⟩
theorem fields_any (l : List UInt8) (w : World) (hl : l.length ≤ 1000000) : Calls Tryz.prog 34 #[.string (bs l), .func (.func 35) #[] #[]] w fun e w' =>
    ∃ A, e = .returned (.slice (some ⟨A, 0, none⟩) (wordsOf [] l).length (wordsOf [] l).length) ∧ Wds w' (some ⟨A, 0, none⟩) (wordsOf [] l).length (wordsOf [] l).length (wordsOf [] l) w'.heap.size ∧ Below w.heap.size w w' := by
  refine (Tryz.strings_FieldsFunc_grows 35 #[] (fun args w => by kernel_rfl) spR (bs l) w (by rw [size_of_bs]; omega) ?_).mono ?_
  · intro W x hx _
    exact (isBlank_any x W hx).mono fun e w' h => ⟨h.1, h.2 ▸ Below.refl _ _⟩
  · rintro e w' ⟨A, rfl, hA, hown, hb⟩
    rw [fields_words, List.length_map, List.map_map] at *
    refine ⟨A, rfl, ⟨rfl, Nat.le_refl _, fun h0 => ?_⟩, hb⟩
    obtain ⟨g, hg1, -, hg2, -, -, hg3⟩ := owns_str_at (l := wordsOf [] l) hown h0
    cases hg1
    refine ⟨A, 0, rfl, hg2, fun i x hx => ?_⟩
    have := hg3 i (bs x) (by rw [List.getElem?_map, hx]; rfl)
    exact this

def psL : ReadE → List Opd
  | .ok l => l
  | .no _ _ => []
def psK : ReadE → Int
  | .ok _ => 0
  | .no k _ => (k : Int)
def psE : ReadE → Int
  | .ok _ => 0
  | .no _ e => e
def RetPs (w : World) (r : ReadE) (e : Ending) (w' : World) : Prop := ∃ a n c, e = .returned (.tuple #[.slice a n c, .int .i64 (psK r), .int .i64 (psE r)]) ∧ RR OpdR 9 (fun b => b < w'.heap.size) w' a n c (psL r) ∧ Below w.heap.size w w'
theorem opV_of {x : Opd} {a0 a1 a2 a3 a4 : Int} (h : x.ag = [a0, a1, a2, a3, a4]) : opV x = .agg #[.string (bs x.nm), .int .i64 a0, .int .i64 a1, .int .i64 a2, .int .i64 a3, .int .i64 a4, .int .i64 x.rel, .int .i64 x.tg, .int .i64 x.wt] := by
  unfold opV argAt; simp only [h]; rfl
set_option maxRecDepth 100000 in
set_option maxHeartbeats 3200000 in
theorem oParse_any (l : List UInt8) (w : World) (hl : l.length ≤ 1000000) (hg : GW w) : Calls Tryz.prog 13 #[.string (bs l)] w (RetPs w (readT l)) := by
  have Hg := Lib.hid hg; clear hg
  by_cases hlong : 4000 < l.length
  · have hr : readT l = .no 0 3 := by unfold readT; rw [if_pos hlong]
    have hz : 4000 < (l.length : Int) := by omega
    rw [hr]
    clear hr hlong
    go_enter Tryz.func13, Tryz.ntmps13
    go_wp2_with fail
    go_ret3
    exact ⟨none, 0, 0, rfl, RR.nil _ _ _ _ _ _, Below.refl _ _⟩
  · have hr : readT l = readLines 0 [] (linesOf [] l) := by unfold readT; rw [if_neg hlong]
    rw [hr]
    have hz : ¬ 4000 < (l.length : Int) := by omega
    have hLl := lines_many l []
    have hLs := lines_len l []
    clear hr
    go_enter Tryz.func13, Tryz.ntmps13
    go_wp2_with fail
    refine (splitL_any l w Hg.out hl).mono ?_
    rintro e w1 ⟨rfl, rfl⟩
    generalize linesOf [] l = L at *
    have hSB := heap_alloc_new w (.cells (strCs L).toArray 9)
    have hbel := (Below.refl w.heap.size w).alloc (Nat.le_refl _) (.cells (strCs L).toArray 9)
    have hsz1 : w.heap.size < (w.alloc (.cells (strCs L).toArray 9)).heap.size := by simp
    have HSB := Lib.hid hSB; have Hbel := Lib.hid hbel
    clear hSB hbel
    generalize (w.alloc (.cells (strCs L).toArray 9)) = w1 at *
    go_wp2_with fail
    go_loopw [2, 16] (fun v2 iv wr => ∃ (k : Nat) (acc : List Opd), k ≤ L.length ∧ iv = .int .i64 (k : Int) ∧ acc.length ≤ 12 ∧ OwnR OpdR 9 50 (w.heap.size + 1) wr v2 acc ∧ readLines 0 [] L = readLines k acc (L.drop k) ∧ wr.heap[w.heap.size]? = some (.cells (strCs L).toArray 9 (0, 0)) ∧ Below w.heap.size w wr) (fun _ iv _ => L.length - (intOf iv).toNat)
    case atStart => exact ⟨0, [], Nat.zero_le _, rfl, by simp, OwnR.nil _ _ _ _ _, rfl, HSB.out, Hbel.out⟩
    case round =>
      obtain ⟨k, acc, hk, rfl, hacc, hown, hrd, hsb, hbw⟩ := hrel
      have hlt0 := lt_of_block hsb
      have Hown := Lib.hid hown; have Hrd := Lib.hid hrd; have Hsb := Lib.hid hsb; have Hbw := Lib.hid hbw
      clear hown hrd hsb hbw HSB Hbel
      by_cases hkl : k < L.length
      · have hLk : L.drop k = L.getD k [] :: L.drop (k + 1) := by
          rw [List.drop_eq_getElem_cons hkl, List.getD_eq_getElem?_getD, List.getElem?_eq_getElem hkl]; rfl
        have hcl : wr.cell? ⟨w.heap.size, k, none⟩ = some (.string (bs (L.getD k []))) := by
          rw [obj_cell Hsb.out k]
          simp [strCs, List.getD_eq_getElem?_getD, List.getElem?_eq_getElem hkl]
        have hsl : (L.getD k []).length ≤ 4000 := by
          have h1 : L.getD k [] ∈ L := by
            rw [List.getD_eq_getElem?_getD, List.getElem?_eq_getElem hkl]
            exact List.getElem_mem hkl
          have := hLs _ h1
          rw [List.length_nil] at this
          omega
        have hrd2 := Hrd.out
        rw [hLk, readLines] at hrd2
        have Hrd2 := Lib.hid hrd2
        clear hrd2 hLk Hrd
        generalize L.getD k [] = s at *
        go_wp2_with fail
        refine (fields_any s _ (by omega)).mono ?_
        rintro e w3 ⟨A, rfl, hwds, hb3⟩
        have hwne := words_ne s []
        have hwl := words_len s []
        have hwm := words_many s []
        have Hown3 := Lib.hid (Hown.out.go opdOkR hb3); have Hsb3 := Lib.hid ((hb3.block w.heap.size hlt0).trans Hsb.out); have hb3' := Hbw.out.trans (hb3.mono Hbw.out.size)
        have Hb3 := Lib.hid hb3'; have hs3 := hb3.size
        clear hcl hb3 hb3' Hown Hsb Hbw
        generalize wordsOf [] s = ws at *
        cases ws with
        | nil =>
          have hrd3 := Hrd2.out
          rw [if_pos (show skipL [] = true from rfl)] at hrd3
          have Hrd3 := Lib.hid hrd3
          clear hrd3 Hrd2 hwds
          go_wp2_with fail
          refine ⟨⟨k + 1, acc, by omega, by go_num, hacc, Hown3.out, Hrd3.out, Hsb3.out, Hb3.out⟩, ?_⟩
          simp [intOf]; omega
        | cons wd wr2 =>
          have hwd := hwne wd List.mem_cons_self
          cases wd with
          | nil => exact absurd rfl hwd
          | cons b wd2 =>
            clear hwd hwne
            have hc0 : w3.cell? ⟨A, 0, none⟩ = some (.string (bs (b :: wd2))) := by
              obtain ⟨g, off, e1, e2, e3⟩ := hwds.2.2 (by simp)
              cases e1
              exact e3 0 _ rfl
            have Hwds := Lib.hid hwds; clear hwds
            have hn0 : (((b :: wd2) :: wr2).length : Int) ≠ 0 := by simp; omega
            by_cases hb35 : b = 35
            · have hrd3 := Hrd2.out
              rw [if_pos (by subst hb35; rfl)] at hrd3
              have Hrd3 := Lib.hid hrd3
              clear hrd3 Hrd2
              have hb2 : ((((bs (b :: wd2))[0]'(by show 0 < (b :: wd2).length; simp)).toNat : Int) == 35) = true := by
                show ((b.toNat : Int) == 35) = true
                subst hb35; rfl
              clear hb35
              go_wp2_with fail
              refine ⟨⟨k + 1, acc, by omega, by go_num, hacc, Hown3.out, Hrd3.out, Hsb3.out, Hb3.out⟩, ?_⟩
              simp [intOf]; omega
            · have hrd3 := Hrd2.out
              rw [if_neg (by intro e; exact hb35 (Option.some.inj (beq_iff_eq.1 e)))] at hrd3
              have Hrd3 := Lib.hid hrd3
              clear hrd3 Hrd2
              have hb2 : ((((bs (b :: wd2))[0]'(by show 0 < (b :: wd2).length; simp)).toNat : Int) == 35) = false := by
                show ((b.toNat : Int) == 35) = false
                rw [beq_eq_false_iff_ne]
                intro e
                have h35 : b.toNat = (35 : UInt8).toNat := by
                  show b.toNat = 35
                  omega
                exact hb35 (UInt8.toNat.inj h35)
              have hb35' := Lib.hid hb35; clear hb35
              go_wp2_with fail
              refine (line_any ((b :: wd2) :: wr2) (some ⟨A, 0, none⟩) (wr2.length + 1) (wr2.length + 1) w3 Hwds.out (by rw [List.length_cons] at hwm; omega) (Hg.out.below Hb3.out) (fun y hy => by have := hwl y hy; rw [List.length_nil] at this; omega)).mono ?_
              rintro e w4 ⟨rfl, hb4⟩
              have Hown4 := Lib.hid (Hown3.out.go opdOkR hb4); have Hsb4 := Lib.hid ((hb4.block w.heap.size (by omega)).trans Hsb3.out); have Hb4 := Lib.hid (Hb3.out.trans (hb4.mono Hb3.out.size)); have hs4 := hb4.size
              clear hb4 Hown3 Hsb3 Hb3 Hwds hc0
              cases hro : readOf ((b :: wd2) :: wr2) with
              | none =>
                have hrd3 := Hrd3.out
                rw [hro] at hrd3
                have Hrd4 := Lib.hid hrd3
                clear hrd3 Hrd3 hro
                unfold lineV zeroOp
                go_wp2_with fail
                go_ret3
                rw [Hrd4.out]
                exact ⟨none, 0, 0, rfl, RR.nil _ _ _ _ _ _, Hb4.out.alloc Hb4.out.size _⟩
              | some x =>
                have hrd3 := Hrd3.out
                rw [hro] at hrd3
                have hxo := readOf_ok hro
                have Hrd4 := Lib.hid hrd3
                clear hrd3 Hrd3 hro
                obtain ⟨a0, a1, a2, a3, a4, ha⟩ := five hxo.2
                have hlv : lineV (some x) = .tuple #[.agg #[.string (bs x.nm), .int .i64 a0, .int .i64 a1, .int .i64 a2, .int .i64 a3, .int .i64 a4, .int .i64 x.rel, .int .i64 x.tg, .int .i64 x.wt], .bool true] := by
                  rw [lineV, opV_of ha]
                rw [hlv]
                clear hlv
                obtain ⟨a', c', rfl⟩ : ∃ a' c', u2 = .slice a' acc.length c' := by
                  rcases Hown4.out.form with ⟨rfl, rfl⟩ | ⟨g, cap, rfl, _⟩
                  · exact ⟨none, 0, rfl⟩
                  · exact ⟨_, cap, rfl⟩
                have hal := (Below.refl w4.heap.size w4).alloc (Nat.le_refl _) (.cells #[.string (bs x.nm), .int .i64 a0, .int .i64 a1, .int .i64 a2, .int .i64 a3, .int .i64 a4, .int .i64 x.rel, .int .i64 x.tg, .int .i64 x.wt] 50)
                have Hown5 := Lib.hid (Hown4.out.go opdOkR hal); have Hsb5 := Lib.hid ((hal.block w.heap.size (by omega)).trans Hsb4.out); have Hb5 := Lib.hid (Hb4.out.trans (hal.mono Hb4.out.size))
                have hx5 := heap_alloc_new w4 (.cells #[.string (bs x.nm), .int .i64 a0, .int .i64 a1, .int .i64 a2, .int .i64 a3, .int .i64 a4, .int .i64 x.rel, .int .i64 x.tg, .int .i64 x.wt] 50)
                have hs5 : w4.heap.size < (w4.alloc (.cells #[.string (bs x.nm), .int .i64 a0, .int .i64 a1, .int .i64 a2, .int .i64 a3, .int .i64 a4, .int .i64 x.rel, .int .i64 x.tg, .int .i64 x.wt] 50)).heap.size := by simp
                have Hx5 := Lib.hid hx5
                clear hal hx5 Hown4 Hsb4 Hb4
                by_cases h12 : acc.length = 12
                · have hrd4 := Hrd4.out
                  simp only [if_pos h12] at hrd4
                  have Hrd5 := Lib.hid hrd4
                  clear hrd4 Hrd4
                  have h12' : ((acc.length : Int) == 12) = true := by rw [h12]; rfl
                  clear h12
                  go_wp2_with fail
                  go_ret3
                  rw [Hrd5.out]
                  exact ⟨none, 0, 0, rfl, RR.nil _ _ _ _ _ _, Hb5.out⟩
                · have hrd4 := Hrd4.out
                  simp only [if_neg h12] at hrd4
                  have Hrd5 := Lib.hid hrd4
                  clear hrd4 Hrd4
                  have h12' : ((acc.length : Int) == 12) = false := by rw [beq_eq_false_iff_ne]; omega
                  have hacc2 : acc.length < 12 := by omega
                  clear h12
                  go_upto_region 13 with fail
                  generalize (w4.alloc (.cells #[.string (bs x.nm), .int .i64 a0, .int .i64 a1, .int .i64 a2, .int .i64 a3, .int .i64 a4, .int .i64 x.rel, .int .i64 x.tg, .int .i64 x.wt] 50)) = w5 at *
                  have q0 := obj_cell Hx5.out 0; have q1 := obj_cell Hx5.out 1; have q2 := obj_cell Hx5.out 2; have q3 := obj_cell Hx5.out 3; have q4 := obj_cell Hx5.out 4; have q5 := obj_cell Hx5.out 5; have q6 := obj_cell Hx5.out 6; have q7 := obj_cell Hx5.out 7; have q8 := obj_cell Hx5.out 8
                  have Ha := Lib.hid ha; clear ha
                  go_wp2_with (refine wpList_append_rec opdOkR Tryz.underlying30 Tryz.infoOpd3 rfl (by omega) (by omega) rfl (.tmp 47) (.tmp 49) rfl (w.heap.size + 1) w5 (.slice a' acc.length c') acc x (opCells x a0 a1 a2 a3 a4) rfl Hown5.out rfl rfl ⟨a0, a1, a2, a3, a4, Ha.out, rfl⟩ (by omega) (by omega) ?_; intro g cap w6 hown6 hb6)
                  refine ⟨⟨k + 1, acc ++ [x], by omega, by go_num, by rw [List.length_append, List.length_singleton]; omega, hown6, Hrd5.out, ((hb6 (w.heap.size + 1) w5 (Nat.le_refl _) (Below.refl _ _)).block w.heap.size (by omega)).trans Hsb5.out, hb6 w.heap.size w (by omega) Hb5.out⟩, ?_⟩
                  simp [intOf]; omega
      · obtain rfl : k = L.length := by omega
        have hrd2 := Hrd.out
        rw [List.drop_length, readLines] at hrd2
        have Hrd2 := Lib.hid hrd2
        clear hrd2 Hrd
        obtain ⟨a', c', rfl⟩ : ∃ a' c', u2 = .slice a' acc.length c' := by
          rcases Hown.out.form with ⟨rfl, rfl⟩ | ⟨g, cap, rfl, _⟩
          · exact ⟨none, 0, rfl⟩
          · exact ⟨_, cap, rfl⟩
        go_wp2_with fail
        go_ret3
        rw [Hrd2.out]
        exact ⟨a', acc.length, c', rfl, Hown.out.rr opdOkR, Hbw.out⟩
end Go.Proofs.YtpicmhbjiaegpaaGreatDoor

namespace Go.Proofs.YtpicmhbjiaegpaaGreatDoor
open Go.RowKit

theorem readLines_e : ∀ (ss : List (List UInt8)) (i : Nat) (acc : List Opd) (k : Nat) (e : Int), readLines i acc ss = .no k e → e = 5 ∨ e = 3
  | [], i, acc, k, e, h => by cases h
  | s :: ss, i, acc, k, e, h => by
    rw [readLines] at h
    split at h
    · exact readLines_e ss _ _ _ _ h
    · split at h
      · cases h; exact Or.inl rfl
      · split at h
        · cases h; exact Or.inr rfl
        · exact readLines_e ss _ _ _ _ h
theorem readT_e {t : List UInt8} {k : Nat} {e : Int} (h : readT t = .no k e) : e = 5 ∨ e = 3 := by
  unfold readT at h
  split at h
  · cases h; exact Or.inr rfl
  · exact readLines_e _ _ _ _ _ h
theorem rr_len {α : Type} {R : Rep α} {k : Nat} {S : Nat → Prop} {w : World} {a : Option Addr} {n c : Nat} {l : List α} (h : RR R k S w a n c l) : l.length = n := h.1
set_option maxHeartbeats 800000 in
theorem reads_any (l : List UInt8) (xs : List Opd) (a : Option Addr) (n c : Nat) (w : World) (h : RR OpdR 9 (fun b => b < w.heap.size) w a n c xs) (hn : n ≤ 1000000) (hl : l.length ≤ 1000000) (hg : GW w) :
    Calls Tryz.prog 23 #[.string (bs l), .slice a n c] w (RetB w (.bool (decide (readT l = .ok xs)))) := by
  have H := Lib.hid h; have Hg := Lib.hid hg; clear h hg
  go_enter Tryz.func23, Tryz.ntmps23
  go_wp2_with fail
  refine (oParse_any l w hl Hg.out).mono ?_
  rintro e w1 ⟨a1, n1, c1, rfl, hrr, hb1⟩
  have Hrr := Lib.hid hrr; have Hb1 := Lib.hid hb1; have H1 := Lib.hid (H.out.go opdOkR hb1)
  clear hrr hb1 H
  have hl12 : n1 ≤ 1000000 := by
    have h1 := rr_len Hrr.out
    have h2 : (psL (readT l)).length ≤ 12 := by
      cases hr : readT l with
      | ok ys => exact (opdsOk_all (readT_ok hr).1).1
      | no k e => simp [psL]
    omega
  cases hr : readT l with
  | no k e =>
    have he := readT_e hr
    rw [hr] at Hrr
    have hd : decide (readT l = ReadE.ok xs) = false := decide_eq_false (fun h => by rw [hr] at h; cases h)
    unfold psK psE
    have Hd := Lib.hid hd; clear hr hd
    have he0 : (e == 0) = false := by rw [beq_eq_false_iff_ne]; omega
    by_cases hxs : ([] : List Opd) = xs
    all_goals
      have Hxs := Lib.hid hxs; clear hxs
      go_wp2_with ((with_reducible refine (osame_any (psL (.no k e)) xs a1 a n1 n c1 c _ Hrr.out H1.out hl12 hn).mono ?_); rintro e2 w2 ⟨rfl, hb2⟩; have Hb2 := Lib.hid (Hb1.out.trans (hb2.mono Hb1.out.size)); clear hb2)
      all_goals
        go_ret
        exact ⟨by rw [Hd.out]; rfl, Hb2.out⟩
  | ok ys =>
    rw [hr] at Hrr
    unfold psK psE
    have hd : decide (readT l = ReadE.ok xs) = decide (ys = xs) := by
      rw [hr]
      by_cases h : ys = xs
      · rw [h, decide_eq_true rfl, decide_eq_true rfl]
      · rw [decide_eq_false h, decide_eq_false (fun e => by cases e; exact h rfl)]
    have Hd := Lib.hid hd
    clear hr hd
    go_wp2_with ((with_reducible refine (osame_any (psL (.ok ys)) xs a1 a n1 n c1 c _ Hrr.out H1.out hl12 hn).mono ?_); rintro e2 w2 ⟨rfl, hb2⟩; have Hb2 := Lib.hid (Hb1.out.trans (hb2.mono Hb1.out.size)); clear hb2; rw [show psL (.ok ys) = ys from rfl]; cases hyx : decide (ys = xs))
    all_goals
      go_ret
      exact ⟨by rw [Hd.out, hyx]; rfl, Hb2.out⟩
def refuseB (r : ReadE) (k e : Int) : Bool := decide (psL r = [] ∧ psK r = k ∧ psE r = e)
set_option maxHeartbeats 800000 in
theorem refuses_any (l : List UInt8) (k er : Int) (w : World) (hl : l.length ≤ 1000000) (hg : GW w) :
    Calls Tryz.prog 27 #[.string (bs l), .int .i64 k, .int .i64 er] w (RetB w (.bool (refuseB (readT l) k er))) := by
  have Hg := Lib.hid hg; clear hg
  go_enter Tryz.func27, Tryz.ntmps27
  go_wp2_with fail
  refine (oParse_any l w hl Hg.out).mono ?_
  rintro e w1 ⟨a1, n1, c1, rfl, hrr, hb1⟩
  have hln := rr_len hrr
  have Hb1 := Lib.hid hb1
  clear hrr hb1
  generalize hR : readT l = r at *
  clear hR
  have hd : refuseB r k er = (((n1 : Int) == 0) && ((psK r == k) && (psE r == er))) := by
    unfold refuseB
    have e0 : psL r = [] ↔ n1 = 0 := by rw [← hln]; exact List.length_eq_zero_iff.symm
    rw [Bool.eq_iff_iff]
    simp [e0]
  have Hd := Lib.hid hd; clear hd hln
  generalize psK r = pk at *
  generalize psE r = pe at *
  cases q1 : ((n1 : Int) == 0)
  all_goals cases q2 : (pk == k)
  all_goals cases q3 : (pe == er)
  all_goals
    go_wp2_with fail
    go_ret
    exact ⟨by rw [Hd.out, q1, q2, q3]; rfl, Hb1.out⟩

/-! ### the chapter's examples -/
theorem rr_lit1 (w : World) (x : Opd) (a0 a1 a2 a3 a4 : Int) (ha : x.ag = [a0, a1, a2, a3, a4]) : RR OpdR 9 (fun b => b < (w.alloc (.cells (opCells x a0 a1 a2 a3 a4).toArray 50)).heap.size) (w.alloc (.cells (opCells x a0 a1 a2 a3 a4).toArray 50)) (some ⟨w.heap.size, 0, none⟩) 1 1 [x] := by
  refine ⟨rfl, Nat.le_refl _, fun _ => ⟨w.heap.size, 0, rfl, by simp, fun i y hy => ?_⟩⟩
  match i, hy with
  | 0, hy =>
    cases hy
    refine ⟨opCells x a0 a1 a2 a3 a4, ⟨a0, a1, a2, a3, a4, ha, rfl⟩, fun j v hv => ?_⟩
    have := obj_cell (heap_alloc_new w (.cells (opCells x a0 a1 a2 a3 a4).toArray 50)) j
    rw [Nat.zero_mul, Nat.add_zero, Nat.zero_add, this]
    simpa using hv
def good0 : Opd := ⟨[69, 70, 70, 76], [0, 0, 0, 0, 0], 1, 100000000, 1⟩
theorem read_good0 : readT [69, 70, 70, 76, 32, 48, 32, 61, 32, 49, 48, 48, 32, 49] = .ok [good0] := by kernel_rfl
def good1 : Opd := ⟨[69, 68, 71, 69], [1, 5500000, 0, 0, 0], 3, 250000, 0⟩
theorem read_good1 : readT [69, 68, 71, 69, 32, 49, 32, 53, 46, 53, 32, 62, 32, 48, 46, 50, 53] = .ok [good1] := by kernel_rfl
def good2 : Opd := ⟨[82, 69, 65, 89], [3, 0, 1, -500000, 1000000], 2, -2000000, 0⟩
theorem read_good2 : readT [32, 32, 82, 69, 65, 89, 9, 51, 32, 48, 32, 49, 32, 45, 48, 46, 53, 32, 49, 32, 60, 32, 45, 50] = .ok [good2] := by kernel_rfl
def good3 : Opd := ⟨[84, 82, 65, 67], [0, 0, 0, 0, 0], 1, 0, 1000⟩
theorem read_good3 : readT [35, 32, 69, 70, 70, 76, 10, 10, 84, 82, 65, 67, 32, 61, 32, 48, 32, 49, 48, 48, 48] = .ok [good3] := by kernel_rfl
theorem reads_good0 (w : World) (hg : GW w) : Calls Tryz.prog 23 #[.string { data := #[69, 70, 70, 76, 32, 48, 32, 61, 32, 49, 48, 48, 32, 49] }, .slice (some ⟨w.heap.size, 0, none⟩) 1 1] (w.alloc (.cells #[.string { data := #[69, 70, 70, 76] }, .int .i64 (0), .int .i64 (0), .int .i64 (0), .int .i64 (0), .int .i64 (0), .int .i64 (1), .int .i64 (100000000), .int .i64 (1)] 50)) fun e w' => e = .returned (.bool true) ∧ Below w.heap.size w w' := by
  have hal := (Below.refl w.heap.size w).alloc (Nat.le_refl _) (.cells #[.string { data := #[69, 70, 70, 76] }, .int .i64 (0), .int .i64 (0), .int .i64 (0), .int .i64 (0), .int .i64 (0), .int .i64 (1), .int .i64 (100000000), .int .i64 (1)] 50)
  refine (reads_any [69, 70, 70, 76, 32, 48, 32, 61, 32, 49, 48, 48, 32, 49] [good0] _ 1 1 _ (rr_lit1 w good0 (0) (0) (0) (0) (0) rfl) (by omega) (by decide) (hg.below hal)).mono ?_
  rintro e w' ⟨rfl, hb⟩
  exact ⟨by rw [read_good0, decide_eq_true rfl], hal.trans (hb.mono hal.size)⟩
theorem reads_good1 (w : World) (hg : GW w) : Calls Tryz.prog 23 #[.string { data := #[69, 68, 71, 69, 32, 49, 32, 53, 46, 53, 32, 62, 32, 48, 46, 50, 53] }, .slice (some ⟨w.heap.size, 0, none⟩) 1 1] (w.alloc (.cells #[.string { data := #[69, 68, 71, 69] }, .int .i64 (1), .int .i64 (5500000), .int .i64 (0), .int .i64 (0), .int .i64 (0), .int .i64 (3), .int .i64 (250000), .int .i64 (0)] 50)) fun e w' => e = .returned (.bool true) ∧ Below w.heap.size w w' := by
  have hal := (Below.refl w.heap.size w).alloc (Nat.le_refl _) (.cells #[.string { data := #[69, 68, 71, 69] }, .int .i64 (1), .int .i64 (5500000), .int .i64 (0), .int .i64 (0), .int .i64 (0), .int .i64 (3), .int .i64 (250000), .int .i64 (0)] 50)
  refine (reads_any [69, 68, 71, 69, 32, 49, 32, 53, 46, 53, 32, 62, 32, 48, 46, 50, 53] [good1] _ 1 1 _ (rr_lit1 w good1 (1) (5500000) (0) (0) (0) rfl) (by omega) (by decide) (hg.below hal)).mono ?_
  rintro e w' ⟨rfl, hb⟩
  exact ⟨by rw [read_good1, decide_eq_true rfl], hal.trans (hb.mono hal.size)⟩
theorem reads_good2 (w : World) (hg : GW w) : Calls Tryz.prog 23 #[.string { data := #[32, 32, 82, 69, 65, 89, 9, 51, 32, 48, 32, 49, 32, 45, 48, 46, 53, 32, 49, 32, 60, 32, 45, 50] }, .slice (some ⟨w.heap.size, 0, none⟩) 1 1] (w.alloc (.cells #[.string { data := #[82, 69, 65, 89] }, .int .i64 (3), .int .i64 (0), .int .i64 (1), .int .i64 (-500000), .int .i64 (1000000), .int .i64 (2), .int .i64 (-2000000), .int .i64 (0)] 50)) fun e w' => e = .returned (.bool true) ∧ Below w.heap.size w w' := by
  have hal := (Below.refl w.heap.size w).alloc (Nat.le_refl _) (.cells #[.string { data := #[82, 69, 65, 89] }, .int .i64 (3), .int .i64 (0), .int .i64 (1), .int .i64 (-500000), .int .i64 (1000000), .int .i64 (2), .int .i64 (-2000000), .int .i64 (0)] 50)
  refine (reads_any [32, 32, 82, 69, 65, 89, 9, 51, 32, 48, 32, 49, 32, 45, 48, 46, 53, 32, 49, 32, 60, 32, 45, 50] [good2] _ 1 1 _ (rr_lit1 w good2 (3) (0) (1) (-500000) (1000000) rfl) (by omega) (by decide) (hg.below hal)).mono ?_
  rintro e w' ⟨rfl, hb⟩
  exact ⟨by rw [read_good2, decide_eq_true rfl], hal.trans (hb.mono hal.size)⟩
theorem reads_good3 (w : World) (hg : GW w) : Calls Tryz.prog 23 #[.string { data := #[35, 32, 69, 70, 70, 76, 10, 10, 84, 82, 65, 67, 32, 61, 32, 48, 32, 49, 48, 48, 48] }, .slice (some ⟨w.heap.size, 0, none⟩) 1 1] (w.alloc (.cells #[.string { data := #[84, 82, 65, 67] }, .int .i64 (0), .int .i64 (0), .int .i64 (0), .int .i64 (0), .int .i64 (0), .int .i64 (1), .int .i64 (0), .int .i64 (1000)] 50)) fun e w' => e = .returned (.bool true) ∧ Below w.heap.size w w' := by
  have hal := (Below.refl w.heap.size w).alloc (Nat.le_refl _) (.cells #[.string { data := #[84, 82, 65, 67] }, .int .i64 (0), .int .i64 (0), .int .i64 (0), .int .i64 (0), .int .i64 (0), .int .i64 (1), .int .i64 (0), .int .i64 (1000)] 50)
  refine (reads_any [35, 32, 69, 70, 70, 76, 10, 10, 84, 82, 65, 67, 32, 61, 32, 48, 32, 49, 48, 48, 48] [good3] _ 1 1 _ (rr_lit1 w good3 (0) (0) (0) (0) (0) rfl) (by omega) (by decide) (hg.below hal)).mono ?_
  rintro e w' ⟨rfl, hb⟩
  exact ⟨by rw [read_good3, decide_eq_true rfl], hal.trans (hb.mono hal.size)⟩
def badT : List (List UInt8) := [[69, 70, 70, 76, 32, 53, 32, 61, 32, 49, 32, 49], [101, 102, 102, 108, 32, 48, 32, 61, 32, 49, 32, 49], [69, 70, 70, 76, 32, 48, 32, 61, 32, 49], [69, 70, 70, 76, 32, 48, 32, 60, 32, 49, 32, 49], [69, 70, 70, 76, 32, 48, 32, 61, 32, 49, 46, 48, 32, 49], [69, 70, 70, 76, 32, 48, 32, 61, 32, 49, 32, 48], [80, 65, 82, 77, 32, 48, 32, 48, 32, 61, 32, 49, 32, 49], [69, 68, 71, 69, 32, 49, 32, 53, 46, 48, 48, 48, 48, 48, 48, 49, 32, 62, 32, 49], [84, 82, 65, 67, 32, 48, 32, 61, 32, 49, 32, 49], [69, 70, 70, 76, 32, 48, 32, 61, 32, 49, 32, 48, 49]]
theorem read_bad (i : Nat) (h : i < 10) : readT (badT.getD i []) = .no 0 5 := by
  have hw : i = 0 ∨ i = 1 ∨ i = 2 ∨ i = 3 ∨ i = 4 ∨ i = 5 ∨ i = 6 ∨ i = 7 ∨ i = 8 ∨ i = 9 := by omega
  rcases hw with rfl | rfl | rfl | rfl | rfl | rfl | rfl | rfl | rfl | rfl
  all_goals (show _ = _; kernel_rfl)
theorem bad_len (i : Nat) (h : i < 10) : (badT.getD i []).length ≤ 100 := by
  have hw : i = 0 ∨ i = 1 ∨ i = 2 ∨ i = 3 ∨ i = 4 ∨ i = 5 ∨ i = 6 ∨ i = 7 ∨ i = 8 ∨ i = 9 := by omega
  rcases hw with rfl | rfl | rfl | rfl | rfl | rfl | rfl | rfl | rfl | rfl
  all_goals decide
abbrev badV : Value := .agg #[.string { data := #[69, 70, 70, 76, 32, 53, 32, 61, 32, 49, 32, 49] }, .string { data := #[101, 102, 102, 108, 32, 48, 32, 61, 32, 49, 32, 49] }, .string { data := #[69, 70, 70, 76, 32, 48, 32, 61, 32, 49] }, .string { data := #[69, 70, 70, 76, 32, 48, 32, 60, 32, 49, 32, 49] }, .string { data := #[69, 70, 70, 76, 32, 48, 32, 61, 32, 49, 46, 48, 32, 49] }, .string { data := #[69, 70, 70, 76, 32, 48, 32, 61, 32, 49, 32, 48] }, .string { data := #[80, 65, 82, 77, 32, 48, 32, 48, 32, 61, 32, 49, 32, 49] }, .string { data := #[69, 68, 71, 69, 32, 49, 32, 53, 46, 48, 48, 48, 48, 48, 48, 49, 32, 62, 32, 49] }, .string { data := #[84, 82, 65, 67, 32, 48, 32, 61, 32, 49, 32, 49] }, .string { data := #[69, 70, 70, 76, 32, 48, 32, 61, 32, 49, 32, 48, 49] }]
theorem index_badT (i : Nat) (h : i < 10) (w : World) : (Instr.index 67 badV (.int .i64 (i : Int))).run Tryz.prog w = .ok (.string (bs (badT.getD i []))) w := by
  have hw : i = 0 ∨ i = 1 ∨ i = 2 ∨ i = 3 ∨ i = 4 ∨ i = 5 ∨ i = 6 ∨ i = 7 ∨ i = 8 ∨ i = 9 := by omega
  rcases hw with rfl | rfl | rfl | rfl | rfl | rfl | rfl | rfl | rfl | rfl
  all_goals (show _ = _; kernel_rfl)
set_option maxRecDepth 100000 in
set_option maxHeartbeats 3200000 in
theorem works_any (w : World) (hg : GW w) : Calls Tryz.prog 9 #[] w (RetB w (.bool true)) := by
  have Hg := Lib.hid hg; clear hg
  go_enter Tryz.func9, Tryz.ntmps9
  go_wp2_with fail
  refine (reads_good0 w Hg.out).mono ?_
  rintro e w1 ⟨rfl, hb1⟩
  have hg1 := Hg.out.below hb1
  have Hg1 := Lib.hid hg1; have Hb1 := Lib.hid hb1; clear hg1 hb1
  go_wp2_with fail
  refine (reads_good1 w1 Hg1.out).mono ?_
  rintro e w2 ⟨rfl, hb2⟩
  have hg2 := Hg1.out.below hb2
  have Hg2 := Lib.hid hg2; have Hb2 := Lib.hid (Hb1.out.trans (hb2.mono Hb1.out.size)); clear hg2 hb2 Hg1 Hb1
  go_wp2_with fail
  refine (reads_good2 w2 Hg2.out).mono ?_
  rintro e w3 ⟨rfl, hb3⟩
  have hg3 := Hg2.out.below hb3
  have Hg3 := Lib.hid hg3; have Hb3 := Lib.hid (Hb2.out.trans (hb3.mono Hb2.out.size)); clear hg3 hb3 Hg2 Hb2
  go_wp2_with fail
  refine (reads_good3 w3 Hg3.out).mono ?_
  rintro e w4 ⟨rfl, hb4⟩
  have hg4 := Hg3.out.below hb4
  have Hg4 := Lib.hid hg4; have Hb4 := Lib.hid (Hb3.out.trans (hb4.mono Hb3.out.size)); clear hg4 hb4 Hg3 Hb3
  have hix := index_badT
  unfold badV at hix
  have Hix := Lib.hid hix; clear hix
  go_wp2_with fail
  go_loopw [26] (fun iv wr => ∃ k : Nat, k ≤ 10 ∧ iv = .int .i64 (k : Int) ∧ Below w.heap.size w wr) (fun iv _ => 10 - (intOf iv).toNat)
  case atStart => exact ⟨0, by omega, rfl, Hb4.out⟩
  case round =>
    obtain ⟨k, hk, rfl, hb⟩ := hrel
    have Hb := Lib.hid hb; clear hb
    by_cases hk10 : k < 10
    · have hi := Hix.out k hk10
      have hrf : refuseB (readT (badT.getD k [])) 0 5 = true := by rw [read_bad k hk10]; rfl
      have hbl := bad_len k hk10
      have Hrf := Lib.hid hrf; clear hrf
      generalize badT.getD k [] = s at *
      go_wp2_with fail
      refine (refuses_any s 0 5 _ (by omega) (Hg.out.below Hb.out)).mono ?_
      rintro e w5 ⟨rfl, hb5⟩
      rw [Hrf.out]
      have Hb5 := Lib.hid (Hb.out.trans (hb5.mono Hb.out.size)); clear hb5
      go_wp2_with fail
      go_roundw
      case rel => exact ⟨k + 1, by omega, by go_num, Hb5.out⟩
      case measure => simp [intOf]; omega
    · obtain rfl : k = 10 := by omega
      rw [show ((10 : Nat) : Int) = 10 from rfl]
      go_wp2_with fail
      go_ret
      exact ⟨rfl, Hb.out⟩
end Go.Proofs.YtpicmhbjiaegpaaGreatDoor
