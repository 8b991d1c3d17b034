/-
  DERIVED. Several texts in one: LwD, LwE, LwF, OqA, OqB.
-/
import Derived.Test.YtpicmhbjiaegpaaGreatDoorHLwC
import Derived.Test.YtpicmhbjiaegpaaGreatDoorGag
import Derived.Test.YtpicmhbjiaegpaaGreatDoorGaa
import Derived.Deep.Slices
namespace Go.Proofs.YtpicmhbjiaegpaaGreatDoor
open Go.RowKit

def DrfR : Rep Drf := fun _ _ x cs => cs = dCells x ∧ DrfOk x
theorem drfOk : RepOk 9 DrfR where
  len := by
    rintro S w x cs ⟨rfl, h⟩
    obtain ⟨b0, b1, b2, b3, b4, h5⟩ := five h.len
    unfold dCells; rw [h5]; rfl
  kept := by rintro S T w w' x cs h _ _; exact h
  one := by
    rintro S w x cs ⟨rfl, h⟩ v hv
    unfold dCells at hv
    simp only [List.mem_append, List.mem_cons, List.not_mem_nil, or_false, List.mem_map] at hv
    rcases hv with ((rfl | rfl) | ⟨a, _, rfl⟩) | (rfl | rfl) <;> rfl
theorem Tryz.infoDrf : (Tryz.prog.info? 56).map (·.size) = some 9 := by kernel_rfl
theorem wpL_load_drf {ops : Array Oper} {rest : List Oper} {op : Oper} {ac : Act} {w : World} {Q : Exit → Act → World → Prop} {b o : Nat} {x : Drf} (h : w.rangeAt b o (dCells x)) (hx : DrfOk x) (hgd : op.guard = none) (p : Operand) (ho : op.op = .load 56 p)
    (hp : ac.eval p = .pointer (some ⟨b, o, none⟩)) (hk : wpList Tryz.prog ops Q rest (ac.put op.dst (.agg (dCells x).toArray)) w) : wpList Tryz.prog ops Q (op :: rest) ac w := by
  have hl : (dCells x).length = 9 := drfOk.len (S := fun _ => True) (w := w) (x := x) ⟨rfl, hx⟩
  exact wpList_load_mid hgd 56 p ho b o hp (dCells x) _ h Tryz.underlying56 rfl (by rw [hl]; exact Tryz.infoDrf) hk

theorem opdOf_len (d : Drf) : (opdOf d).ag.length = 5 := by
  unfold opdOf
  exact pad5_len (argsD_len _ _ (entry_kinds _ (entry_mem d)).2.1)
def opsOf (l : List Drf) : List Opd := (l.take 12).map opdOf
theorem opsOf_len (l : List Drf) : (opsOf l).length ≤ 12 := by unfold opsOf; simp; omega

/-! ### valid -/
theorem argOf_in {k : Nat} (a : Nat) (h1 : 1 ≤ k) (h8 : k ≤ 8) : inR (argOf k a) (rangeOf k).1 (rangeOf k).2.1 = true := by
  have hks : k = 1 ∨ k = 2 ∨ k = 3 ∨ k = 4 ∨ k = 5 ∨ k = 6 ∨ k = 7 ∨ k = 8 := by omega
  have hin : ∀ n lo hi : Int, lo ≤ n → n ≤ hi → inR n lo hi = true := fun n lo hi p q => by unfold inR; rw [decide_eq_true p, decide_eq_true q]; rfl
  rcases hks with rfl | rfl | rfl | rfl | rfl | rfl | rfl | rfl
  · exact hin ((a : Int) % 2) 0 4 (by omega) (by omega)
  · exact hin ((a : Int) % 2) 0 4 (by omega) (by omega)
  · exact hin ((a : Int) % 4) 0 15 (by omega) (by omega)
  · exact hin (1 + (a : Int) % 17) 1 17 (by omega) (by omega)
  · exact hin (1 + (a : Int) % 4) 1 15 (by omega) (by omega)
  · exact hin ((a : Int) % 200) 0 2000 (by omega) (by omega)
  · exact hin ((a : Int) % 4000 * 1000) 0 1000000000 (by omega) (by omega)
  · exact hin (((a : Int) % 401 - 200) * 5000) (-2000000) 2000000 (by omega) (by omega)
theorem argsD_ok : ∀ (ks A : List Nat) (n : Nat), (∀ k ∈ ks, 1 ≤ k ∧ k ≤ 8) → ks.length ≤ A.length → argsOk ks (argsD ks A ++ List.replicate n 0) = true
  | [], A, n, _, _ => by rw [show argsD [] A = [] by cases A <;> rfl]; exact argsOk_zeros n
  | k :: ks, [], n, _, h => by simp at h
  | k :: ks, a :: A, n, hk, h => by
    have h1 := hk k List.mem_cons_self
    rw [argsD, List.cons_append, argsOk, argOf_in a h1.1 h1.2, argsD_ok ks A n (fun x hx => hk x (List.mem_cons_of_mem _ hx)) (by simpa using h)]; rfl
theorem opdOf_ok {d : Drf} (h : DrfOk d) : opdOk (opdOf d) = true := by
  obtain ⟨h1, h2, h3⟩ := entry_kinds _ (entry_mem d)
  have hin : ∀ n lo hi : Int, lo ≤ n → n ≤ hi → inR n lo hi = true := fun n lo hi p q => by unfold inR; rw [decide_eq_true p, decide_eq_true q]; rfl
  unfold opdOk opdOf
  simp only
  rw [h1]
  simp only
  unfold pad5
  rw [argsD_ok _ _ _ h3 (by rw [h.len]; exact h2)]
  have ht := h.tg
  rw [hin (1 + ((d.rl % 3 : Nat) : Int)) 1 3 (by omega) (by omega), hin (d.tg * 10) (-1000000000000) 1000000000000 (by omega) (by omega)]
  by_cases hr : d.rl % 3 = 0
  · rw [if_pos hr, hr]
    exact hin (1 + ((d.wt % 1000 : Nat) : Int)) 1 1000 (by omega) (by omega)
  · rw [if_neg hr, if_neg (by omega)]; rfl
theorem opsOf_ok {l : List Drf} (h : ∀ d ∈ l, DrfOk d) : opdsOk (opsOf l) = true ∧ ∀ x ∈ opsOf l, x.ag.length = 5 := by
  constructor
  · unfold opdsOk
    rw [decide_eq_true (opsOf_len l), List.all_eq_true.2]; rfl
    intro x hx
    obtain ⟨d, hd, rfl⟩ := List.mem_map.1 hx
    exact opdOf_ok (h d (List.mem_of_mem_take hd))
  · intro x hx
    obtain ⟨d, _, rfl⟩ := List.mem_map.1 hx
    exact opdOf_len d

/-! ### the walk -/
def RetOps (w : World) (l : List Opd) (e : Ending) (w' : World) : Prop := ∃ a n c, e = .returned (.slice a n c) ∧ RR OpdR 9 (fun b => b < w'.heap.size) w' a n c l ∧ Below w.heap.size w w'
set_option maxRecDepth 100000 in
set_option maxHeartbeats 3200000 in
theorem operands_any (l : List Drf) (a : Option Addr) (n c : Nat) (w : World) (h : RR DrfR 9 (fun b => b < w.heap.size) w a n c l) (hc : n ≤ 9223372036854775807) :
    Calls Tryz.prog 11 #[.slice a n c] w (RetOps w (opsOf l)) := by
  have hlen := h.1
  have H := Lib.hid h; clear h
  go_enter Tryz.func11, Tryz.ntmps11
  go_wp2_with fail
  go_loopw [3, 4] (fun v iv wr => ∃ k : Nat, k ≤ n ∧ k ≤ 12 ∧ iv = .int .i64 (k : Int) ∧ OwnR OpdR 9 50 w.heap.size wr v ((l.take k).map opdOf) ∧ Below w.heap.size w wr) (fun _ iv _ => 12 - (intOf iv).toNat)
  case atStart => exact ⟨0, by omega, by omega, rfl, OwnR.nil _ _ _ _ _, Below.refl _ _⟩
  case round =>
    obtain ⟨k, hk, hk12, rfl, hown, hb⟩ := hrel
    have Hown := Lib.hid hown; have Hb := Lib.hid hb
    clear hown hb
    have hlk : ((l.take k).map opdOf).length = k := by rw [List.length_map, List.length_take]; omega
    by_cases hkn : k < n
    · by_cases hk2 : k < 12
      · obtain ⟨b, off, x, cs, rfl, hlt, hx, ⟨rfl, hxo⟩, hr⟩ := (H.out.go drfOk Hb.out).at hkn
        obtain ⟨a0, a1, a2, a3, a4, ha⟩ := five (opdOf_len x)
        have hnx : (l.take (k + 1)).map opdOf = (l.take k).map opdOf ++ [opdOf x] := by rw [take_next hx, List.map_append]; rfl
        have Hr := Lib.hid hr; have Hxo := Lib.hid hxo; have Ha := Lib.hid ha; have Hnx := Lib.hid hnx
        clear hr hx hxo ha hnx
        go_wp2_with (refine wpL_load_drf Hr.out Hxo.out rfl (.tmp 18) rfl rfl ?_)
        refine (dOperand_any x Hxo.out _).mono ?_
        rintro e w4 ⟨rfl, hb4⟩
        rw [opV_of Ha.out]
        have Hown4 := Lib.hid (Hown.out.go opdOkR hb4); have Hb4 := Lib.hid (Hb.out.trans (hb4.mono Hb.out.size)); have hs4 := Hb.out.size; have hs5 := hb4.size
        clear hb4 Hown Hb
        go_wp2_with (refine wpList_append_rec opdOkR Tryz.underlying30 Tryz.infoOpd3 rfl (by omega) (by omega) rfl (.tmp 15) (.tmp 21) rfl w.heap.size w4 _ ((l.take k).map opdOf) (opdOf x) (opCells (opdOf x) a0 a1 a2 a3 a4) rfl Hown4.out rfl rfl ⟨a0, a1, a2, a3, a4, Ha.out, rfl⟩ (by omega) (by omega) ?_; intro g cap w6 hown6 hb6; rw [← Hnx.out, hlk] at hown6)
        go_roundw
        case rel => exact ⟨k + 1, by omega, by omega, by go_num, hown6, hb6 w.heap.size w (Nat.le_refl _) Hb4.out⟩
        case measure => simp [intOf]; omega
      · obtain rfl : k = 12 := by omega
        rw [show ((12 : Nat) : Int) = 12 from rfl]
        obtain ⟨a', c', rfl⟩ : ∃ a' c', u3 = .slice a' ((l.take 12).map opdOf).length c' := by
          rcases Hown.out.form with ⟨e1, e2⟩ | ⟨g, cap, e1, _⟩
          · rw [e2]; exact ⟨none, 0, e1⟩
          · exact ⟨_, cap, e1⟩
        have hkn' : (12 : Int) < (n : Int) := by omega
        go_wp2_with fail
        go_ret
        exact ⟨a', _, c', rfl, Hown.out.rr opdOkR, Hb.out⟩
    · obtain rfl : k = n := by omega
      obtain ⟨a', c', rfl⟩ : ∃ a' c', u3 = .slice a' ((l.take k).map opdOf).length c' := by
        rcases Hown.out.form with ⟨e1, e2⟩ | ⟨g, cap, e1, _⟩
        · rw [e2]; exact ⟨none, 0, e1⟩
        · exact ⟨_, cap, e1⟩
      have hfull : opsOf l = (l.take k).map opdOf := by
        unfold opsOf
        rw [List.take_of_length_le (show l.length ≤ 12 by omega), List.take_of_length_le (show l.length ≤ k by omega)]
      have Hfull := Lib.hid hfull; clear hfull
      go_wp2_with fail
      go_ret
      exact ⟨a', _, c', rfl, by rw [Hfull.out]; exact Hown.out.rr opdOkR, Hb.out⟩
end Go.Proofs.YtpicmhbjiaegpaaGreatDoor

namespace Go.Proofs.YtpicmhbjiaegpaaGreatDoor
open Go.RowKit

theorem below_dr' {B : Nat} {w A : World} (h : Below B w A) : Below B w A.drew := ⟨h.os, h.tape, h.output, h.size, h.block⟩
structure Pch where
  pos : Nat
  less : Nat
  more : List UInt8
structure PchOk (p : Pch) : Prop where
  pos : p.pos < 65536
  less : p.less < 256
def patchT (p : Pch) (s : List UInt8) : List UInt8 := s.take (p.pos % (s.length + 1)) ++ p.more.take 40 ++ s.drop (min (p.pos % (s.length + 1) + p.less % 6) s.length)
theorem patchT_len (p : Pch) (s : List UInt8) : (patchT p s).length ≤ s.length + s.length + 40 := by
  unfold patchT
  simp only [List.length_append, List.length_take, List.length_drop]
  omega
set_option maxRecDepth 100000 in
set_option maxHeartbeats 1600000 in
theorem patch_any (p : Pch) (hp : PchOk p) (s : List UInt8) (w : World) (hs : s.length ≤ 1000000) (hm : p.more.length ≤ 9223372036854775807) :
    Calls Tryz.prog 12 #[.agg #[.int .u16 (p.pos : Int), .int .u8 (p.less : Int), .string (bs p.more)], .string (bs s)] w (RetB w (.string (bs (patchT p s)))) := by
  obtain ⟨h1, h2⟩ := hp
  have hpt : patchT p s = s.take (p.pos % (s.length + 1)) ++ p.more.take 40 ++ s.drop (min (p.pos % (s.length + 1) + p.less % 6) s.length) := rfl
  have Hpt := Lib.hid hpt; clear hpt
  generalize p.pos = at' at *
  generalize p.less = ls at *
  generalize p.more = mo at *
  have w1 : IntKind.i64.wrap (at' : Int) = (at' : Int) := IntWalk.i64_in _ (by omega)
  go_enter Tryz.func12, Tryz.ntmps12
  go_wp2_with fail
  have e1 : ((at' : Int) % ((s.length : Int) + 1)) = ((at' % (s.length + 1) : Nat) : Int) := by push_cast; rfl
  have hK : at' % (s.length + 1) ≤ s.length := Nat.le_of_lt_succ (Nat.mod_lt _ (by omega))
  rw [e1]
  clear e1
  generalize at' % (s.length + 1) = K at *
  have e2 : wrap64 ((K : Int) + (ls : Int) % 6) = ((K + ls % 6 : Nat) : Int) := by
    unfold wrap64; omega
  rw [e2]
  have e3 : min ((K + ls % 6 : Nat) : Int) (s.length : Int) = ((min (K + ls % 6) s.length : Nat) : Int) := by omega
  rw [e3]
  clear e2 e3
  have hN : min (K + ls % 6) s.length ≤ s.length := Nat.min_le_right _ _
  generalize min (K + ls % 6) s.length = N at *
  have hal := (Below.refl w.heap.size w).alloc (Nat.le_refl _) (.cells #[.int .u16 (at' : Int), .int .u8 (ls : Int), .string (bs mo)] 25)
  have hob := heap_alloc_new w (.cells #[.int .u16 (at' : Int), .int .u8 (ls : Int), .string (bs mo)] 25)
  have hsz : w.heap.size < (w.alloc (.cells #[.int .u16 (at' : Int), .int .u8 (ls : Int), .string (bs mo)] 25)).heap.size := by simp
  generalize (w.alloc (.cells #[.int .u16 (at' : Int), .int .u8 (ls : Int), .string (bs mo)] 25)) = w2 at *
  have c2 : w2.cell? ⟨w.heap.size, 2, none⟩ = some (.string (bs mo)) := obj_cell hob 2
  have Hal := Lib.hid hal; clear hal hob
  refine wp_region_eager 15 [(0, true), (1, true), (2, true), (3, true), (4, true), (5, true), (6, true), (7, true), (8, true), (9, true), (10, true), (11, true), (12, true), (13, true), (14, true)] (by kernel_rfl) (by kernel_rfl) ?_
  have emo : min (mo.length : Int) 40 = ((min mo.length 40 : Nat) : Int) := by omega
  have hmo : min mo.length 40 ≤ mo.length := Nat.min_le_left _ _
  iterate 15
    refine wpOrd_yield (v := ?_) rfl (fun _ _ _ h => h) (by rfl) ?_ ?_
    rotate_left
    · intro y hy
      have z2 := (hy.cell (p := ⟨w.heap.size, 2, none⟩) hsz).trans c2
      go_simp
      try rw [emo]
      try rw [if_neg (show ¬ 9223372036854775807 < K + min mo.length 40 by omega)]
      try rw [if_neg (show ¬ 9223372036854775807 < K + min mo.length 40 + (s.length - N) by omega)]
      all_goals with_reducible rfl
    try simp only [Act.put, List.setIfInBounds_toArray, List.set_cons_zero, List.set_cons_succ]
  refine wpOrd_nil (l := [_]) rfl ?_
  go_wp2_with fail
  go_ret
  refine ⟨?_, below_dr' Hal.out⟩
  show Ending.returned (.string ((bs s).extract 0 K ++ (bs mo).extract 0 (min mo.length 40) ++ (bs s).extract N s.length)) = _
  rw [Hpt.out, bs_extract, bs_extract, bs_extract, bs_append, bs_append, Nat.sub_zero, Nat.sub_zero, List.drop_zero, List.drop_zero]
  rw [show mo.take (min mo.length 40) = mo.take 40 by rw [Nat.min_comm, List.take_eq_take_iff]; simp, List.take_of_length_le (show (s.drop N).length ≤ s.length - N by rw [List.length_drop]; exact Nat.le_refl _)]
end Go.Proofs.YtpicmhbjiaegpaaGreatDoor

namespace Go.Proofs.YtpicmhbjiaegpaaGreatDoor
open Go.RowKit

theorem lines_count : ∀ (l w : List UInt8), (linesOf w l).length = l.count 10 + 1
  | [], w => rfl
  | b :: l, w => by
    rw [linesOf, List.count_cons]
    cases h : (b == 10)
    · rw [if_neg (by simp), if_neg (by simp), lines_count l _]
    · rw [if_pos rfl, if_pos rfl, List.length_cons, lines_count l []]
theorem readT_no' {t : List UInt8} {k : Nat} {e : Int} (h : readT t = .no k e) : k ≤ t.count 10 := by
  have h1 := readT_no h
  have h2 := count_lines t.length t (Nat.le_refl _)
  have h3 := lines_count t []
  omega
theorem index_2 (a b : ByteArray) (w : World) : (Instr.index 44 (.agg #[.string a, .string b]) (.int .i64 0)).run Tryz.prog w = .ok (.string a) w ∧ (Instr.index 44 (.agg #[.string a, .string b]) (.int .i64 1)).run Tryz.prog w = .ok (.string b) w := by
  refine ⟨?_, ?_⟩ <;> kernel_rfl
theorem count_any (l : List UInt8) (w : World) : Calls Tryz.prog 22 #[.string (bs l), .string { data := #[10] }] w fun e w' => e = .returned (.int .i64 ((l.count 10 : Nat) : Int)) ∧ w = w' := by
  refine (Tryz.strings_Count_one (bs l) 10 w).mono ?_
  rintro e w' ⟨rfl, rfl⟩
  exact ⟨rfl, rfl⟩
theorem readT_round {t : List UInt8} {l : List Opd} (h : readT t = .ok l) : opdsOk l = true ∧ l.length ≤ 12 ∧ (opdsT l).length ≤ 1200 ∧ readT (opdsT l) = .ok l := by
  obtain ⟨h1, h2⟩ := readT_ok h
  obtain ⟨h3, h4⟩ := opdsOk_all h1
  have h5 := opdsT_len l h4
  exact ⟨h1, h3, by omega, readT_text h1 h2 (by omega)⟩
/-- what the drafts' text is -/
def toldT (l : List Drf) : List UInt8 := opdsT (opsOf l)
theorem toldT_len {l : List Drf} (h : ∀ d ∈ l, DrfOk d) : (toldT l).length ≤ 1200 := by
  obtain ⟨h1, h2⟩ := opsOf_ok h
  have := opdsT_len (opsOf l) (opdsOk_all h1).2
  have := opsOf_len l
  unfold toldT; omega
set_option maxRecDepth 100000 in
set_option maxHeartbeats 3200000 in
theorem canon_walk (raw : List UInt8) (l : List Drf) (p : Pch) (a : Option Addr) (n c : Nat) (w : World) (h : RR DrfR 9 (fun b => b < w.heap.size) w a n c l) (hn : n ≤ 9223372036854775807) (hraw : raw.length ≤ 9223372036854775807) (hp : PchOk p) (hm : p.more.length ≤ 9223372036854775807) (hld : ∀ d ∈ l, DrfOk d) (hg : GW w) :
    Calls Tryz.prog 5 #[.string (bs raw), .slice a n c, .agg #[.int .u16 (p.pos : Int), .int .u8 (p.less : Int), .string (bs p.more)]] w (RetB w (.bool true)) := by
  have hal := (Below.refl w.heap.size w).alloc (Nat.le_refl _) (.cells #[.int .u16 (p.pos : Int), .int .u8 (p.less : Int), .string (bs p.more)] 25)
  have hP := heap_alloc_new w (.cells #[.int .u16 (p.pos : Int), .int .u8 (p.less : Int), .string (bs p.more)] 25)
  have hPs : w.heap.size < (w.alloc (.cells #[.int .u16 (p.pos : Int), .int .u8 (p.less : Int), .string (bs p.more)] 25)).heap.size := by simp
  have h0 := h.go drfOk hal
  have HP := Lib.hid hP; have Hal := Lib.hid hal; have H := Lib.hid h0; have Hg := Lib.hid (hg.below hal); have Hld := Lib.hid hld
  clear h h0 hg hal hP hld
  go_enter Tryz.func5, Tryz.ntmps5
  go_wp2_with fail
  generalize (w.alloc (.cells #[.int .u16 (p.pos : Int), .int .u8 (p.less : Int), .string (bs p.more)] 25)) = w1 at *
  refine (works_any w1 Hg.out).mono ?_
  rintro e w2 ⟨rfl, hb2⟩
  have H2 := Lib.hid (H.out.go drfOk hb2); have Hb2 := Lib.hid (Hal.out.trans (hb2.mono Hal.out.size)); have HP2 := Lib.hid ((hb2.block w.heap.size hPs).trans HP.out)
  have Hg2 := Lib.hid (Hg.out.below hb2); have hs2 := hb2.size
  clear hb2 H HP Hg Hal
  go_wp2_with fail
  refine (operands_any l a n c w2 H2.out hn).mono ?_
  rintro e w3 ⟨a3, n3, c3, rfl, hr3, hb3⟩
  have hn3 := rr_len hr3
  have hn3' := opsOf_len l
  have Hb3 := Lib.hid (Hb2.out.trans (hb3.mono Hb2.out.size)); have HP3 := Lib.hid ((hb3.block w.heap.size (by omega)).trans HP2.out)
  have Hg3 := Lib.hid (Hg2.out.below hb3); have hs3 := hb3.size; have Hr3 := Lib.hid hr3
  clear hr3 hb3 H2 HP2 Hg2 Hb2
  go_wp2_with fail
  refine (oText_any (opsOf l) a3 n3 c3 w3 Hr3.out (by omega) Hg3.out).mono ?_
  rintro e w4 ⟨rfl, hb4⟩
  have hok := opsOf_ok Hld.out
  have htx : textB (opsOf l) = toldT l := by unfold textB; rw [hok.1]; rfl
  have htl := toldT_len Hld.out
  rw [htx]
  have Hb4 := Lib.hid (Hb3.out.trans (hb4.mono Hb3.out.size)); have HP4 := Lib.hid ((hb4.block w.heap.size (by omega)).trans HP3.out)
  have Hg4 := Lib.hid (Hg3.out.below hb4); have hs4 := hb4.size
  clear hb4 HP3 Hg3 Hb3 htx hok Hr3
  go_wp2_with fail
  have emo : min (raw.length : Int) 500 = ((min raw.length 500 : Nat) : Int) := by omega
  have hmo : min raw.length 500 ≤ raw.length := Nat.min_le_left _ _
  have hPl := lt_of_block HP4.out
  have p0 : w4.cell? ⟨w.heap.size, 0, none⟩ = some (.int .u16 (p.pos : Int)) := obj_cell HP4.out 0
  have p1 : w4.cell? ⟨w.heap.size, 1, none⟩ = some (.int .u8 (p.less : Int)) := obj_cell HP4.out 1
  have p2 : w4.cell? ⟨w.heap.size, 2, none⟩ = some (.string (bs p.more)) := obj_cell HP4.out 2
  refine wp_region_floats 10 [] [] [(0, true), (1, true), (2, true), (3, true), (4, true), (5, true), (6, true), (9, true), (7, false), (8, true)] (by kernel_rfl) (by kernel_rfl) ⟨by simp, by simp, fun _ h => by cases h⟩ (fun _ _ _ _ _ h => h) (fun _ _ o _ _ h => by cases o <;> exact h) ?_
  iterate 8
    refine wpG_yield (v := ?_) rfl rfl (by rfl) ?_ ?_
    rotate_left
    · intro y hy
      have z0 := (hy.cell (p := ⟨w.heap.size, 0, none⟩) hPl).trans p0
      have z1 := (hy.cell (p := ⟨w.heap.size, 1, none⟩) hPl).trans p1
      have z2 := (hy.cell (p := ⟨w.heap.size, 2, none⟩) hPl).trans p2
      go_simp
      try rw [emo]
      all_goals with_reducible rfl
    try simp only [Act.put, List.setIfInBounds_toArray, List.set_cons_zero, List.set_cons_succ]
  have eraw : (bs raw).extract 0 (min raw.length 500) = bs (raw.take 500) := by
    rw [bs_extract, Nat.sub_zero, List.drop_zero]
    congr 1
    rw [Nat.min_comm, List.take_eq_take_iff]; simp
  rw [eraw]
  clear eraw emo hmo p0 p1 p2
  refine wpG_step rfl rfl (fun x1 hx1 K hK => ?_)
  go_simp
  have hx1' : Below w4.heap.size w4 x1 := below_undrew (k := 1) hx1
  refine (patch_any p hp (toldT l) _ (by omega) (by omega)).mono ?_
  rintro e w5 ⟨rfl, hb5⟩
  refine hK _ _ hb5 ?_
  clear hK K
  have hb5' := hx1'.trans (hb5.mono hx1'.size)
  have Hb5 := Lib.hid (Hb4.out.trans (hb5'.mono Hb4.out.size)); have Hg5 := Lib.hid (Hg4.out.below hb5')
  clear hx1 hx1' hb5 hb5' Hb4 Hg4 HP4
  try simp only [Act.put, List.setIfInBounds_toArray, List.set_cons_zero, List.set_cons_succ]
  refine wpG_yield (v := ?_) rfl rfl (by rfl) ?_ ?_
  rotate_left
  · intro y hy
    go_simp
    with_reducible rfl
  try simp only [Act.put, List.setIfInBounds_toArray, List.set_cons_zero, List.set_cons_succ]
  refine wpG_nil0 (l := []) rfl (fun w6 hb6 => ?_)
  have Hb6 := Lib.hid (Hb5.out.trans (hb6.mono Hb5.out.size)); have Hg6 := Lib.hid (Hg5.out.below hb6)
  clear hb6 Hb5 Hg5
  have hS1 : (raw.take 500).length ≤ 5000 := by rw [List.length_take]; omega
  have hS2 : (patchT p (toldT l)).length ≤ 5000 := by
    have := patchT_len p (toldT l); omega
  generalize raw.take 500 = S1 at *
  generalize patchT p (toldT l) = S2 at *
  have hix : ∀ k : Nat, k < 2 → ∃ s : List UInt8, s.length ≤ 5000 ∧ ∀ w, (Instr.index 44 (.agg #[.string (bs S1), .string (bs S2)]) (.int .i64 (k : Int))).run Tryz.prog w = .ok (.string (bs s)) w := by
    intro k hk
    have hw : k = 0 ∨ k = 1 := by omega
    rcases hw with rfl | rfl
    · exact ⟨S1, hS1, fun w => (index_2 _ _ w).1⟩
    · exact ⟨S2, hS2, fun w => (index_2 _ _ w).2⟩
  have Hix := Lib.hid hix
  clear hix hS1 hS2
  generalize Value.agg #[.string (bs S1), .string (bs S2)] = V at *
  go_wp2_with fail
  go_loopw [33] (fun iv wr => ∃ k : Nat, k ≤ 2 ∧ iv = .int .i64 (k : Int) ∧ Below w.heap.size w wr ∧ GW wr) (fun iv _ => 2 - (intOf iv).toNat)
  case atStart => exact ⟨0, by omega, rfl, Hb6.out, Hg6.out⟩
  case round =>
    obtain ⟨k, hk, rfl, hb, hgr⟩ := hrel
    have Hb := Lib.hid hb; have Hgr := Lib.hid hgr
    clear hb hgr Hb6 Hg6
    by_cases hk2 : k < 2
    · obtain ⟨s, hs, hi⟩ := Hix.out k hk2
      go_wp2_with fail
      refine (oParse_any s _ (by omega) Hgr.out).mono ?_
      rintro e w7 ⟨a7, n7, c7, rfl, hr7, hb7⟩
      have hn7 := rr_len hr7
      have Hr7 := Lib.hid hr7; have Hb7 := Lib.hid (Hb.out.trans (hb7.mono Hb.out.size)); have Hg7 := Lib.hid (Hgr.out.below hb7)
      clear hr7 hb7 Hb Hgr hi
      cases hrd : readT s with
      | no q er =>
        rw [hrd] at hn7
        have hq := readT_no' hrd
        have her := readT_e hrd
        have hn0 : n7 = 0 := hn7.symm
        subst hn0
        rw [hrd] at Hr7
        clear hrd hn7 Hr7
        unfold psK psE
        have he0 : (er == 0) = false := by rw [beq_eq_false_iff_ne]; omega
        have hq' : ¬ ((s.count 10 : Nat) : Int) < (q : Int) := by omega
        go_wp2_with ((with_reducible refine (count_any s _).mono ?_); rintro e2 w8 ⟨rfl, rfl⟩)
        go_roundw
        case rel => exact ⟨k + 1, by omega, by go_num, Hb7.out, Hg7.out⟩
        case measure => simp [intOf]; omega
      | ok xs =>
        rw [hrd] at hn7 Hr7
        obtain ⟨o1, o2, o3, o4⟩ := readT_round hrd
        have hc0 : checkE xs = 0 := by unfold checkE; rw [o1]; rfl
        have htb : textB xs = opdsT xs := by unfold textB; rw [o1]; rfl
        have hn12 : n7 ≤ 12 := by rw [← hn7]; exact o2
        have O4 := Lib.hid o4; have Hc0 := Lib.hid hc0; have Htb := Lib.hid htb
        clear hrd o4 hn7 o2 hc0 htb
        unfold psK psE
        go_wp2_with fail
        refine (oText_any xs a7 n7 c7 _ Hr7.out (by omega) Hg7.out).mono ?_
        rintro e w8 ⟨rfl, hb8⟩
        rw [Htb.out, Hc0.out]
        have Hr8 := Lib.hid (Hr7.out.go opdOkR hb8); have Hb8 := Lib.hid (Hb7.out.trans (hb8.mono Hb7.out.size)); have Hg8 := Lib.hid (Hg7.out.below hb8)
        clear hb8 Hr7 Hb7 Hg7
        go_wp2_with fail
        refine (check_any xs a7 n7 c7 _ Hr8.out (by omega)).mono ?_
        rintro e w9 ⟨rfl, hb9⟩
        rw [Hc0.out]
        have Hr9 := Lib.hid (Hr8.out.go opdOkR hb9); have Hb9 := Lib.hid (Hb8.out.trans (hb9.mono Hb8.out.size)); have Hg9 := Lib.hid (Hg8.out.below hb9)
        clear hb9 Hr8 Hb8 Hg8
        go_wp2_with fail
        refine (reads_any (opdsT xs) xs a7 n7 c7 _ Hr9.out (by omega) (by omega) Hg9.out).mono ?_
        rintro e w10 ⟨rfl, hb10⟩
        rw [O4.out, decide_eq_true rfl]
        have Hb10 := Lib.hid (Hb9.out.trans (hb10.mono Hb9.out.size)); have Hg10 := Lib.hid (Hg9.out.below hb10)
        clear hb10 Hr9 Hb9 Hg9
        go_wp2_with fail
        go_roundw
        case rel => exact ⟨k + 1, by omega, by go_num, Hb10.out, Hg10.out⟩
        case measure => simp [intOf]; omega
    · obtain rfl : k = 2 := by omega
      rw [show ((2 : Nat) : Int) = 2 from rfl]
      go_wp2_with fail
      go_ret
      exact ⟨rfl, Hb.out⟩
end Go.Proofs.YtpicmhbjiaegpaaGreatDoor

namespace Go.Proofs.YtpicmhbjiaegpaaGreatDoor
open Go.ChangeShapes Go.WideShapes Go.ChangeAt Go.RowKit

structure Ptr where
  a : Option Addr
  n : Nat
  c : Nat

section
variable {P : Program} {H : Type} {enc : TypeId × Value → H} {w : World} {base : Nat} {sp : Nat → Bool} {held : Bool} {t e : TypeId} {cs : List Value}

/-- the cells can be read as the type says -/
def Rd (enc : TypeId × Value → H) (P : Program) (w : World) (base : Nat) (sp : Nat → Bool) (held : Bool) (t : TypeId) (cs : List Value) : Prop := ∃ fuel x, DataW.trod enc P w base sp held fuel t cs = some x

theorem rd_int {k : IntKind} (ht : P.underlying t = some (.int k)) (h : Rd enc P w base sp held t cs) : ∃ n, cs = [.int k n] ∧ k.min ≤ n ∧ n ≤ k.max := by
  obtain ⟨fuel, x, h⟩ := h
  obtain ⟨n, rfl, _, hw⟩ := DataW.trod_int ht h
  exact ⟨n, rfl, by simpa [Lit.wf] using hw⟩
theorem rd_bool (ht : P.underlying t = some .bool) (h : Rd enc P w base sp held t cs) : ∃ b, cs = [.bool b] := by
  obtain ⟨fuel, x, h⟩ := h
  obtain ⟨b, rfl, _⟩ := DataW.trod_bool ht h
  exact ⟨b, rfl⟩
theorem rd_len {fs : Array Field} (ht : P.underlying t = some (.struct fs)) (h : Rd enc P w base sp held t cs) : cs.length = P.cellsOf t := by
  obtain ⟨fuel, x, h⟩ := h
  obtain ⟨_, _, _, _, hl, _⟩ := DataW.trod_struct ht h
  exact hl
theorem rd_field {fs : Array Field} {ty off n : Nat} (ht : P.underlying t = some (.struct fs)) (h : Rd enc P w base sp held t cs) (i : Nat) (hf : (fs[i]?).map (fun f => (f.type, f.offset)) = some (ty, off)) (hn : P.cellsOf ty = n) :
    Rd enc P w base sp held ty ((cs.drop off).take n) := by
  obtain ⟨fuel, x, h⟩ := h
  obtain ⟨xs, m, _, _, hl, hx, hfs⟩ := DataW.trod_struct ht h
  obtain ⟨f, hfi, hfe⟩ := Option.map_eq_some_iff.1 hf
  cases hfe
  have := hfs i f hfi
  have hi : i < xs.length := by
    rw [hx]
    exact (Array.getElem?_eq_some_iff.1 hfi).1
  rw [List.getElem?_eq_getElem hi, hn] at this
  exact ⟨m, _, this⟩
theorem rd_arr {k : IntKind} {n : Nat} (ht : P.underlying t = some (.array n e)) (he : P.underlying e = some (.int k)) (hce : P.cellsOf e = 1) (hct : P.cellsOf t = n) (h : Rd enc P w base sp held t cs) :
    ∀ i, i < n → ∃ z, cs[i]? = some (.int k z) ∧ k.min ≤ z ∧ z ≤ k.max := by
  obtain ⟨fuel, x, h⟩ := h
  obtain ⟨xs, m, _, _, hl, hx, hel⟩ := DataW.trod_array ht h
  intro i hi
  have h1 := hel i hi
  rw [hce, Nat.mul_one, List.getElem?_eq_getElem (by omega)] at h1
  obtain ⟨z, e1, h2⟩ := rd_int he ⟨m, _, h1⟩
  refine ⟨z, ?_, h2⟩
  have : ((cs.drop i).take 1)[0]? = some (.int k z) := by rw [e1]; rfl
  rw [List.getElem?_take, if_pos (by omega), List.getElem?_drop, Nat.add_zero] at this
  exact this

theorem cell_spot {a : Addr} {v : Value} (h : w.cell? a = some v) : a = ⟨a.block, a.off, none⟩ ∧ a.block < w.heap.size := by
  unfold World.cell? at h
  split at h
  · rename_i c _ _ hb
    split at h
    · cases h
    · rename_i hs
      refine ⟨?_, lt_of_block hb⟩
      obtain ⟨b, o, s⟩ := a
      cases s with
      | none => rfl
      | some s => simp at hs
  · cases h

/-- a slice: where it lies, and its elements -/
theorem rd_slice {m : Nat} (ht : P.underlying t = some (.slice e)) (hm : P.cellsOf e = m) (h0 : 0 < m) (h : Rd enc P w base sp held t cs) :
    ∃ a n c, cs = [.slice a n c] ∧ (a = none → n = 0 ∧ c = 0) ∧ n ≤ c ∧ n ≤ 9223372036854775807 ∧
      (0 < n → ∃ b off, a = some ⟨b, off, none⟩ ∧ b < w.heap.size ∧ ∀ i, i < n → ∃ cs', cs'.length = m ∧ Rd enc P w base sp held e cs' ∧ w.rangeAt b (off + i * m) cs') := by
  obtain ⟨fuel, x, h⟩ := h
  rcases DataW.trod_slice ht h with ⟨rfl, _⟩ | ⟨a, len, cap, elems, rest, n, _, rfl, _, hb, hl, hcm, hlen, hel, _, _⟩
  · exact ⟨none, 0, 0, rfl, fun _ => ⟨rfl, rfl⟩, Nat.le_refl _, by omega, fun h => absurd h (by omega)⟩
  · refine ⟨some a, len, cap, rfl, fun e => by (exact absurd e (by simp)), hl, Nat.le_trans hl (by simpa [maxLen] using hcm), fun hpos => ?_⟩
    have each : ∀ i, i < len → ∃ cs', w.cells? base (a.add (i * m)) m = some cs' ∧ Rd enc P w base sp held e cs' := by
      intro i hi
      have h1 := hel i hi
      rw [List.getElem?_eq_getElem (by omega), hm] at h1
      obtain ⟨cs', h2, h3⟩ := Option.bind_eq_some_iff.1 h1
      exact ⟨cs', h2, n, _, h3⟩
    obtain ⟨cs0, hc0, _⟩ := each 0 hpos
    obtain ⟨_, hl0, hcell0⟩ := World.cells?_some hc0
    have hc00 := hcell0 0 h0
    rw [List.getElem?_eq_getElem (by omega)] at hc00
    rw [Nat.zero_mul] at hc00
    have ha0 : (a.add 0).add 0 = a := by simp [Addr.add]
    rw [ha0] at hc00
    obtain ⟨ea, hlt⟩ := cell_spot hc00
    refine ⟨a.block, a.off, by rw [← ea], hlt, fun i hi => ?_⟩
    obtain ⟨cs', hc, hr⟩ := each i hi
    obtain ⟨_, hl', hcell⟩ := World.cells?_some hc
    refine ⟨cs', hl', hr, fun j v hv => ?_⟩
    have hj : j < m := by have := (List.getElem?_eq_some_iff.1 hv).1; omega
    have := hcell j hj
    rw [hv] at this
    rw [← this]
    rw [ea, Addr.add_lit, Addr.add_lit]

theorem list_of {α : Type} {p : Nat → α → Prop} : ∀ n : Nat, (∀ i, i < n → ∃ x, p i x) → ∃ l : List α, l.length = n ∧ ∀ i x, l[i]? = some x → p i x
  | 0, _ => ⟨[], rfl, fun i x h => by simp at h⟩
  | n + 1, h => by
    obtain ⟨l, hl, hp⟩ := list_of n (fun i hi => h i (by omega))
    obtain ⟨x, hx⟩ := h n (by omega)
    refine ⟨l ++ [x], by simp [hl], fun i y hy => ?_⟩
    by_cases hi : i < n
    · rw [List.getElem?_append_left (by omega)] at hy
      exact hp i y hy
    · rw [List.getElem?_append_right (by omega)] at hy
      have : i = n := by
        have := (List.getElem?_eq_some_iff.1 hy).1
        simp at this; omega
      subst this
      rw [hl, Nat.sub_self] at hy
      cases hy
      exact hx

/-- a slice of records -/
theorem rd_row {α : Type} {R : Rep α} {m : Nat} (ht : P.underlying t = some (.slice e)) (hm : P.cellsOf e = m) (h0 : 0 < m) (hR : ∀ cs', cs'.length = m → Rd enc P w base sp held e cs' → ∃ x, R (fun b => b < w.heap.size) w x cs') (h : Rd enc P w base sp held t cs) :
    ∃ (p : Ptr) (l : List α), cs = [.slice p.a p.n p.c] ∧ p.n ≤ 9223372036854775807 ∧ RR R m (fun b => b < w.heap.size) w p.a p.n p.c l := by
  obtain ⟨a, n, c, rfl, hn, hnc, hmx, hpos⟩ := rd_slice ht hm h0 h
  by_cases hn0 : 0 < n
  · obtain ⟨b, off, rfl, hlt, hel⟩ := hpos hn0
    obtain ⟨l, hl, hp⟩ := list_of (p := fun i x => ∃ cs', R (fun b => b < w.heap.size) w x cs' ∧ w.rangeAt b (off + i * m) cs') n (fun i hi => by
      obtain ⟨cs', h1, h2, h3⟩ := hel i hi
      obtain ⟨x, hx⟩ := hR cs' h1 h2
      exact ⟨x, cs', hx, h3⟩)
    exact ⟨⟨some ⟨b, off, none⟩, n, c⟩, l, rfl, hmx, hl, hnc, fun _ => ⟨b, off, rfl, hlt, hp⟩⟩
  · obtain rfl : n = 0 := by omega
    exact ⟨⟨a, 0, c⟩, [], rfl, hmx, RR.nil _ _ _ _ _ _⟩

theorem rd_str (ht : P.underlying t = some .string) (h : Rd enc P w base sp held t cs) : ∃ l : List UInt8, cs = [.string (bs l)] ∧ l.length ≤ 9223372036854775807 := by
  obtain ⟨fuel, x, h⟩ := h
  obtain ⟨s, rfl, _, hs⟩ := DataW.trod_string ht h
  refine ⟨s.data.toList, rfl, ?_⟩
  have : s.data.toList.length = s.size := rfl
  rw [this]
  simpa [maxLen] using hs
theorem bs_back (s : ByteArray) : bs s.data.toList = s := rfl
end
end Go.Proofs.YtpicmhbjiaegpaaGreatDoor

namespace Go.Proofs.YtpicmhbjiaegpaaGreatDoor
open Go.ChangeShapes Go.WideShapes Go.ChangeAt Go.RowKit

section
variable {P : Program} {H : Type} {enc : TypeId × Value → H} {w : World} {base : Nat} {sp : Nat → Bool} {held : Bool} {t e : TypeId} {c : Value} {cs : List Value}
theorem rd_u8 (ht : P.underlying t = some (.int .u8)) (h : Rd enc P w base sp held t [c]) : ∃ z : Nat, c = .int .u8 (z : Int) ∧ z < 256 := by
  obtain ⟨z, e, h0, h1⟩ := rd_int ht h
  simp [IntKind.min, IntKind.max, IntKind.signed, IntKind.bits] at h0 h1
  exact ⟨z.toNat, by rw [Int.toNat_of_nonneg h0]; simpa using e, by omega⟩
theorem rd_u16 (ht : P.underlying t = some (.int .u16)) (h : Rd enc P w base sp held t [c]) : ∃ z : Nat, c = .int .u16 (z : Int) ∧ z < 65536 := by
  obtain ⟨z, e, h0, h1⟩ := rd_int ht h
  simp [IntKind.min, IntKind.max, IntKind.signed, IntKind.bits] at h0 h1
  exact ⟨z.toNat, by rw [Int.toNat_of_nonneg h0]; simpa using e, by omega⟩
theorem rd_i32 (ht : P.underlying t = some (.int .i32)) (h : Rd enc P w base sp held t [c]) : ∃ z : Int, c = .int .i32 z ∧ -2147483648 ≤ z ∧ z < 2147483648 := by
  obtain ⟨z, e, h0, h1⟩ := rd_int ht h
  simp [IntKind.min, IntKind.max, IntKind.signed, IntKind.bits] at h0 h1
  exact ⟨z, by simpa using e, by omega, by omega⟩
theorem rd_i64 (ht : P.underlying t = some (.int .i64)) (h : Rd enc P w base sp held t [c]) : ∃ z : Int, c = .int .i64 z ∧ -9223372036854775808 ≤ z ∧ z ≤ 9223372036854775807 := by
  obtain ⟨z, e, h0, h1⟩ := rd_int ht h
  simp [IntKind.min, IntKind.max, IntKind.signed, IntKind.bits] at h0 h1
  exact ⟨z, by simpa using e, by omega, by omega⟩
theorem rd_au16 {n : Nat} (ht : P.underlying t = some (.array n e)) (he : P.underlying e = some (.int .u16)) (hce : P.cellsOf e = 1) (hct : P.cellsOf t = n) (h : Rd enc P w base sp held t cs) (i : Nat) (hi : i < n) : ∃ z : Nat, cs[i]? = some (.int .u16 (z : Int)) ∧ z < 65536 := by
  obtain ⟨z, e, h0, h1⟩ := rd_arr ht he hce hct h i hi
  simp [IntKind.min, IntKind.max, IntKind.signed, IntKind.bits] at h0 h1
  exact ⟨z.toNat, by rw [Int.toNat_of_nonneg h0]; exact e, by omega⟩
theorem rd_ai64 {n : Nat} (ht : P.underlying t = some (.array n e)) (he : P.underlying e = some (.int .i64)) (hce : P.cellsOf e = 1) (hct : P.cellsOf t = n) (h : Rd enc P w base sp held t cs) (i : Nat) (hi : i < n) : ∃ z : Int, cs[i]? = some (.int .i64 z) ∧ -9223372036854775808 ≤ z ∧ z ≤ 9223372036854775807 := by
  obtain ⟨z, e, h0, h1⟩ := rd_arr ht he hce hct h i hi
  simp [IntKind.min, IntKind.max, IntKind.signed, IntKind.bits] at h0 h1
  exact ⟨z, e, by omega, by omega⟩
end

variable {H : Type} {enc : TypeId × Value → H} {w : World} {base : Nat} {sp : Nat → Bool} {held : Bool} {cs : List Value}

theorem rd_drf (h : Rd enc Tryz.prog w base sp held 56 cs) : ∃ x : Drf, cs = dCells x ∧ DrfOk x := by
  have hl : cs.length = 9 := (rd_len Tryz.underlying56 h).trans (by kernel_rfl)
  match cs, hl with
  | [c0, c1, c2, c3, c4, c5, c6, c7, c8], _ =>
    obtain ⟨kd, rfl, rkd⟩ := rd_u8 Tryz.underlying5 (rd_field Tryz.underlying56 h 0 (ty := 5) (off := 0) (n := 1) rfl (by kernel_rfl))
    obtain ⟨rl, rfl, rrl⟩ := rd_u8 Tryz.underlying5 (rd_field Tryz.underlying56 h 1 (ty := 5) (off := 1) (n := 1) rfl (by kernel_rfl))
    have ha := rd_field Tryz.underlying56 h 2 (ty := 54) (off := 2) (n := 5) rfl (by kernel_rfl)
    obtain ⟨a0, e0, r0⟩ := rd_au16 Tryz.underlying54 Tryz.underlying23 (by kernel_rfl) (by kernel_rfl) ha 0 (by omega)
    obtain ⟨a1, e1, r1⟩ := rd_au16 Tryz.underlying54 Tryz.underlying23 (by kernel_rfl) (by kernel_rfl) ha 1 (by omega)
    obtain ⟨a2, e2, r2⟩ := rd_au16 Tryz.underlying54 Tryz.underlying23 (by kernel_rfl) (by kernel_rfl) ha 2 (by omega)
    obtain ⟨a3, e3, r3⟩ := rd_au16 Tryz.underlying54 Tryz.underlying23 (by kernel_rfl) (by kernel_rfl) ha 3 (by omega)
    obtain ⟨a4, e4, r4⟩ := rd_au16 Tryz.underlying54 Tryz.underlying23 (by kernel_rfl) (by kernel_rfl) ha 4 (by omega)
    obtain rfl : c2 = .int .u16 a0 := by simpa using e0
    obtain rfl : c3 = .int .u16 a1 := by simpa using e1
    obtain rfl : c4 = .int .u16 a2 := by simpa using e2
    obtain rfl : c5 = .int .u16 a3 := by simpa using e3
    obtain rfl : c6 = .int .u16 a4 := by simpa using e4
    obtain ⟨tg, rfl, rtg⟩ := rd_i32 Tryz.underlying21 (rd_field Tryz.underlying56 h 3 (ty := 21) (off := 7) (n := 1) rfl (by kernel_rfl))
    obtain ⟨wt, rfl, rwt⟩ := rd_u16 Tryz.underlying23 (rd_field Tryz.underlying56 h 4 (ty := 23) (off := 8) (n := 1) rfl (by kernel_rfl))
    refine ⟨⟨kd, rl, [a0, a1, a2, a3, a4], tg, wt⟩, rfl, rkd, rrl, rfl, ?_, rtg, rwt⟩
    intro a ha
    simp at ha
    rcases ha with rfl | rfl | rfl | rfl | rfl <;> assumption

theorem rd_pch (h : Rd enc Tryz.prog w base sp held 25 cs) : ∃ p : Pch, cs = [.int .u16 (p.pos : Int), .int .u8 (p.less : Int), .string (bs p.more)] ∧ PchOk p ∧ p.more.length ≤ 9223372036854775807 := by
  have hl : cs.length = 3 := (rd_len Tryz.underlying25 h).trans (by kernel_rfl)
  match cs, hl with
  | [c0, c1, c2], _ =>
    obtain ⟨x, rfl, rx⟩ := rd_u16 Tryz.underlying23 (rd_field Tryz.underlying25 h 0 (ty := 23) (off := 0) (n := 1) rfl (by kernel_rfl))
    obtain ⟨y, rfl, ry⟩ := rd_u8 Tryz.underlying5 (rd_field Tryz.underlying25 h 1 (ty := 5) (off := 1) (n := 1) rfl (by kernel_rfl))
    obtain ⟨l, el, rl⟩ := rd_str Tryz.underlying9 (rd_field Tryz.underlying25 h 2 (ty := 9) (off := 2) (n := 1) rfl (by kernel_rfl))
    obtain rfl : c2 = .string (bs l) := by simpa using el
    exact ⟨⟨x, y, l⟩, rfl, ⟨rx, ry⟩, rl⟩

theorem drafts_of {t : TypeId} (ht : Tryz.prog.underlying t = some (.slice 56)) (h : Rd enc Tryz.prog w base sp held t cs) :
    ∃ (p : Ptr) (l : List Drf), cs = [.slice p.a p.n p.c] ∧ p.n ≤ 9223372036854775807 ∧ RR DrfR 9 (fun b => b < w.heap.size) w p.a p.n p.c l ∧ ∀ d ∈ l, DrfOk d := by
  obtain ⟨p, l, h1, h2, h3⟩ := rd_row (R := DrfR) (m := 9) ht (by kernel_rfl) (by omega) (fun cs2 _ h2 => rd_drf h2) h
  refine ⟨p, l, h1, h2, h3, fun d hd => ?_⟩
  obtain ⟨i, hi, rfl⟩ := List.getElem_of_mem hd
  have hpos : 0 < p.n := by have := h3.1; omega
  obtain ⟨b, off, _, _, hel⟩ := h3.2.2 hpos
  obtain ⟨cs', ⟨_, h5⟩, _⟩ := hel i l[i] (List.getElem?_eq_getElem hi)
  exact h5
end Go.Proofs.YtpicmhbjiaegpaaGreatDoor
