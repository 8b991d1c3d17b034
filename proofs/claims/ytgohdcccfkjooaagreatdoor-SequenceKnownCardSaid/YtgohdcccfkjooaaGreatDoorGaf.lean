/-
  DERIVED. Several texts in one: LensH, LensI, Places, LensJ, PlcT, RlC.
-/
import Derived.Test.YtgohdcccfkjooaaGreatDoorGad
import Derived.Test.YtgohdcccfkjooaaGreatDoorHRsfC
import Derived.Test.YtgohdcccfkjooaaGreatDoorRows
import Derived.LaidMore
import Derived.Stop.Joined
import Derived.MakeChecks
import Derived.Maps.Keyed
namespace Go.Proofs.YtgohdcccfkjooaaGreatDoor
open Go.RowKit

def bt (n low high : Int) : Bool := decide (low ≤ n) && decide (n ≤ high)

set_option maxRecDepth 100000 in
theorem lbetween_any (n low high : Int) (w : World) : Calls Tryz.prog 122 #[.int .i64 n, .int .i64 low, .int .i64 high] w (RetB w (.bool (bt n low high))) := by
  go_enter Tryz.func122, Tryz.ntmps122
  go_wp2
  all_goals
    go_ret
    refine ⟨congrArg (fun b => Ending.returned (Value.bool b)) ?_, Below.refl _ _⟩
    rw [Bool.eq_iff_iff]
    simp [bt] <;> omega

def imageB (s : Surf) (n : Nat) : Bool := decide (s.kind = 1) && s.glass.toList.isEmpty && decide (s.thick = 0) && decide (s.order = 0) && decide (n = 0)

set_option maxRecDepth 100000 in
set_option maxHeartbeats 1600000 in
theorem image_any (s : Surf) (a : Option Addr) (n c : Nat) (w : World) : Calls Tryz.prog 166 #[.agg #[.int .i64 s.kind, .int .i64 s.curv, .int .i64 s.conic, .int .i64 s.curvX, .int .i64 s.conicX, .int .i64 s.a0, .int .i64 s.a1, .int .i64 s.a2, .int .i64 s.a3, .int .i64 s.p0, .int .i64 s.p1, .int .i64 s.order, .int .i64 s.thick, .string s.glass, .int .i64 s.semi, .int .i64 s.hole, .int .i64 s.dx, .int .i64 s.dy, .int .i64 s.ax, .int .i64 s.ay, .int .i64 s.az, .slice a n c]] w (RetB w (.bool (imageB s n))) := by
  have h1 := SurfB.new w s a n c
  have hb1 := (Below.refl w.heap.size w).alloc (Nat.le_refl _) (.cells #[.int .i64 s.kind, .int .i64 s.curv, .int .i64 s.conic, .int .i64 s.curvX, .int .i64 s.conicX, .int .i64 s.a0, .int .i64 s.a1, .int .i64 s.a2, .int .i64 s.a3, .int .i64 s.p0, .int .i64 s.p1, .int .i64 s.order, .int .i64 s.thick, .string s.glass, .int .i64 s.semi, .int .i64 s.hole, .int .i64 s.dx, .int .i64 s.dy, .int .i64 s.ax, .int .i64 s.ay, .int .i64 s.az, .slice a n c] 70)
  have H1 := Lib.hid h1; have Hb1 := Lib.hid hb1
  clear h1 hb1
  go_enter Tryz.func166, Tryz.ntmps166
  go_upto_region 1 with fail
  refine step_world (fun wx => SurfB wx w.heap.size s a n c ∧ Below w.heap.size w wx) ⟨H1.out, Hb1.out⟩ ?_
  clear H1 Hb1
  rintro w1 ⟨h1, hb⟩
  obtain ⟨k0, _, _, _, _, _, _, _, _, _, _, k11, k12, k13, _, _, _, _, _, _, _, k21⟩ := h1.cells
  have Hb := Lib.hid hb; clear hb h1
  cases q1 : (s.kind == 1) <;> cases q2 : s.glass.toList.isEmpty <;> cases q3 : (s.thick == 0) <;> cases q4 : (s.order == 0) <;> cases q5 : ((n : Int) == 0)
  all_goals
    go_wp2
    go_ret
    refine ⟨?_, Hb.out⟩
    clear Hb k0 k11 k12 k13 k21
    simp [imageB, q2] at *
    try omega

def okC (x : SurfC) : Bool := okS x.s x.zs (x.zs.length / 3)

theorem coat_n {S : Nat → Prop} {w : World} {a : Option Addr} {n c : Nat} {zs : List Int} (h : IRp S w 3 a n c zs) : n = zs.length / 3 := by rw [h.1]; omega

set_option maxRecDepth 100000 in
theorem bad_any (x : SurfC) (a : Option Addr) (n c : Nat) (w : World) (hz : IR w.heap.size w 3 a n c x.zs) (hn : n ≤ 1000000) (hg : x.s.glass.size ≤ 9223372036854775807) :
    Calls Tryz.prog 163 #[.agg #[.int .i64 x.s.kind, .int .i64 x.s.curv, .int .i64 x.s.conic, .int .i64 x.s.curvX, .int .i64 x.s.conicX, .int .i64 x.s.a0, .int .i64 x.s.a1, .int .i64 x.s.a2, .int .i64 x.s.a3, .int .i64 x.s.p0, .int .i64 x.s.p1, .int .i64 x.s.order, .int .i64 x.s.thick, .string x.s.glass, .int .i64 x.s.semi, .int .i64 x.s.hole, .int .i64 x.s.dx, .int .i64 x.s.dy, .int .i64 x.s.ax, .int .i64 x.s.ay, .int .i64 x.s.az, .slice a n c]] w (RetB w (.bool (!okC x))) := by
  have hok : okC x = okS x.s x.zs n := by unfold okC; rw [← coat_n (S := fun _ => True) (hz.irp (fun _ _ => trivial))]
  have h1 := SurfB.new w x.s a n c
  have H1 := Lib.hid h1; have Hz := Lib.hid hz; have Hok := Lib.hid hok
  clear h1 hz hok
  go_enter Tryz.func163, Tryz.ntmps163
  cases ho : okS x.s x.zs n
  all_goals
    have Ho := Lib.hid ho; clear ho
    go_wp2_with (first
      | (refine wpL_load_surf H1.out rfl (.tmp 1) rfl rfl ?_)
      | ((with_reducible refine (scheck_any x.s x.zs a n c _ (Hz.out.go ((Below.refl _ _).alloc (Nat.le_refl _) _)) hn hg).mono ?_); rintro e w2 ⟨he, hb⟩; rw [Ho.out] at he; unfold err at he; simp only [if_true, if_false, Bool.false_eq_true] at he; subst he))
    go_ret
    exact ⟨by rw [Hok.out, Ho.out]; rfl, below_chain (below_al (Below.refl _ _)) hb⟩

end Go.Proofs.YtgohdcccfkjooaaGreatDoor

namespace Go.Proofs.YtgohdcccfkjooaaGreatDoor
open Go.RowKit

def badB (l : List SurfC) : Bool := l.any fun x => !okC x

theorem any_takeS {α : Type} {f : α → Bool} {l : List α} {k : Nat} {x : α} (h : l[k]? = some x) (h0 : (l.take k).any f = false) : (l.take (k + 1)).any f = f x := by
  rw [take_next h, List.any_append, h0]; simp
theorem any_mem {α : Type} {f : α → Bool} {l : List α} {k : Nat} {x : α} (h : l[k]? = some x) (h0 : f x = true) : l.any f = true := List.any_eq_true.2 ⟨x, List.mem_of_getElem? h, h0⟩

set_option maxRecDepth 100000 in
set_option maxHeartbeats 1600000 in
theorem index_bad (l : List SurfC) (a : Option Addr) (n c : Nat) (w : World) (h : RR SurfR 22 (fun b => b < w.heap.size) w a n c l) (hn : n ≤ 1000000) :
    Calls Tryz.prog 211 #[.slice a n c, .func (.func 163) #[] #[]] w (RetAt w (badB l)) := by
  have H := Lib.hid h; clear h
  have hlen := H.out.1
  go_enter Tryz.func211, Tryz.ntmps211
  go_wp2_with fail
  go_loopw [8] (fun iv wr => ∃ k : Nat, k ≤ n ∧ iv = .int .i64 (k : Int) ∧ (l.take k).any (fun x => !okC x) = false ∧ Below w.heap.size w wr) (fun iv _ => n - (intOf iv).toNat)
  case atStart => exact ⟨0, Nat.zero_le _, rfl, rfl, Below.refl _ _⟩
  case round =>
    obtain ⟨k, hk, rfl, ho, hb⟩ := hrel
    have Ho := Lib.hid ho; have Hb := Lib.hid hb
    clear ho hb
    by_cases hkn : k < n
    · obtain ⟨b, off, x, cs, rfl, hlt, hx, ⟨a2, n2, c2, rfl, hz, hn2, hc2, hg2⟩, hr⟩ := (H.out.go surfOk Hb.out).at hkn
      have Hx := Lib.hid hx; have Hz := Lib.hid (hz.ir (fun _ h => h)); have Hr := Lib.hid hr; have Hg2 := Lib.hid hg2
      clear hx hz hc2 hr hg2
      cases hv : okC x
      all_goals
        have Hv := Lib.hid hv; clear hv
        go_wp2_with (first
          | (refine wpL_load_at Hr.out rfl (.tmp 14) rfl rfl ?_)
          | ((with_reducible refine (bad_any x _ n2 c2 _ Hz.out hn2 Hg2.out).mono ?_); rintro e w2 ⟨he, hb2⟩; rw [Hv.out] at he; simp only [Bool.not_true, Bool.not_false] at he; subst he))
      · go_ret
        refine ⟨(k : Int), rfl, ?_, below_chain Hb.out hb2⟩
        unfold badB
        rw [any_mem (f := fun x => !okC x) Hx.out (by rw [Hv.out]; rfl)]
        simp
      · go_roundw
        case rel => exact ⟨k + 1, by omega, by go_num, (any_takeS Hx.out Ho.out).trans (by rw [Hv.out]; rfl), below_chain Hb.out hb2⟩
        case measure => simp [intOf]; omega
    · obtain rfl : k = n := by omega
      go_wp2
      go_ret
      refine ⟨-1, rfl, ?_, Hb.out⟩
      have h1 := Ho.out
      rw [← hlen, List.take_length] at h1
      unfold badB
      rw [h1]; rfl

set_option maxRecDepth 100000 in
theorem contains_bad (l : List SurfC) (a : Option Addr) (n c : Nat) (w : World) (h : RR SurfR 22 (fun b => b < w.heap.size) w a n c l) (hn : n ≤ 1000000) :
    Calls Tryz.prog 165 #[.slice a n c, .func (.func 163) #[] #[]] w (RetB w (.bool (badB l))) := by
  go_enter Tryz.func165, Tryz.ntmps165
  go_wp2_with fail
  refine (index_bad l a n c _ h hn).mono ?_
  rintro e w2 ⟨r, rfl, hr, hb⟩
  by_cases h0 : 0 ≤ r
  · rw [decide_eq_true h0] at hr
    have Hr := Lib.hid hr; clear hr
    go_wp2
    go_ret
    exact ⟨by rw [← Hr.out]; rfl, hb⟩
  · rw [decide_eq_false h0] at hr
    have Hr := Lib.hid hr; clear hr
    have h1 : decide (0 ≤ r) = false := decide_eq_false h0
    go_wp2
    go_ret
    exact ⟨by rw [← Hr.out]; rfl, hb⟩

/-- a change of s, p is among the first n -/
def againB (zs : List Int) (n : Nat) (s p : Int) : Bool := (List.range n).any fun k => (zs.getD (k * 3) 0 == s) && (zs.getD (k * 3 + 1) 0 == p)

set_option maxRecDepth 100000 in
theorem lit_again (s p v s0 p0 : Int) (g : Nat) (w : World) (h0 : w.cell? ⟨g, 0, none⟩ = some (.int .i64 s0)) (h1 : w.cell? ⟨g, 1, none⟩ = some (.int .i64 p0)) (hg : g < w.heap.size) :
    Calls Tryz.prog 214 #[.agg #[.int .i64 s, .int .i64 p, .int .i64 v], .pointer (some ⟨g, 0, none⟩)] w (RetB w (.bool ((s == s0) && (p == p0)))) := by
  cases q1 : (s == s0) <;> cases q2 : (p == p0)
  all_goals
    go_enter Tryz.func214, Tryz.ntmps214
    go_wp2
    go_ret
    exact ⟨rfl, below_al (Below.refl _ _)⟩

theorem range_any_next {f : Nat → Bool} {k : Nat} (h : (List.range k).any f = false) : (List.range (k + 1)).any f = f k := by
  rw [List.range_succ, List.any_append, h]; simp
theorem range_any_true {f : Nat → Bool} {n k : Nat} (hk : k < n) (h : f k = true) : (List.range n).any f = true := List.any_eq_true.2 ⟨k, List.mem_range.2 hk, h⟩

set_option maxRecDepth 100000 in
set_option maxHeartbeats 1600000 in
theorem index_again (zs : List Int) (a : Option Addr) (n c : Nat) (s0 p0 : Int) (g : Nat) (w : World) (h : IR w.heap.size w 3 a n c zs) (hn : n ≤ 1000000) (h0 : w.cell? ⟨g, 0, none⟩ = some (.int .i64 s0)) (h1 : w.cell? ⟨g, 1, none⟩ = some (.int .i64 p0)) (hg : g < w.heap.size) :
    Calls Tryz.prog 243 #[.slice a n c, .func (.func 214) #[] #[.pointer (some ⟨g, 0, none⟩)]] w (RetAt w (againB zs n s0 p0)) := by
  have H := Lib.hid h; have H0 := Lib.hid h0; have H1 := Lib.hid h1; clear h h0 h1
  go_enter Tryz.func243, Tryz.ntmps243
  go_wp2_with fail
  go_loopw [8] (fun iv wr => ∃ k : Nat, k ≤ n ∧ iv = .int .i64 (k : Int) ∧ againB zs k s0 p0 = false ∧ Below w.heap.size w wr) (fun iv _ => n - (intOf iv).toNat)
  case atStart => exact ⟨0, Nat.zero_le _, rfl, rfl, Below.refl _ _⟩
  case round =>
    obtain ⟨k, hk, rfl, ho, hb⟩ := hrel
    have Ho := Lib.hid ho; have Hb := Lib.hid hb
    clear ho hb
    by_cases hkn : k < n
    · obtain ⟨b, off, rfl, hlt, x0, x1, x2⟩ := (H.out.go Hb.out).at3 hkn
      have hf : ∀ v, ((zs.getD (k * 3) 0 == s0) && (zs.getD (k * 3 + 1) 0 == p0)) = v → (fun k => (zs.getD (k * 3) 0 == s0) && (zs.getD (k * 3 + 1) 0 == p0)) k = v := fun v h => h
      have hnx := range_any_next Ho.out
      have Hnx := Lib.hid hnx; clear hnx
      have c0 := Lib.hid ((Hb.out.cell (p := ⟨g, 0, none⟩) hg).trans H0.out)
      have c1 := Lib.hid ((Hb.out.cell (p := ⟨g, 1, none⟩) hg).trans H1.out)
      cases hv : ((zs.getD (k * 3) 0 == s0) && (zs.getD (k * 3 + 1) 0 == p0))
      all_goals
        have Hv := Lib.hid hv; have Hf := Lib.hid (hf _ hv); clear hv hf
        generalize zs.getD (k * 3) 0 = y0 at *
        generalize zs.getD (k * 3 + 1) 0 = y1 at *
        generalize zs.getD (k * 3 + 2) 0 = y2 at *
        go_wp2_with ((with_reducible refine (lit_again y0 y1 y2 s0 p0 g _ c0.out c1.out (Nat.lt_of_lt_of_le hg Hb.out.size)).mono ?_); rintro e w2 ⟨he, hb2⟩; rw [Hv.out] at he; subst he)
      · go_roundw
        case rel => exact ⟨k + 1, by omega, by go_num, Hnx.out.trans Hv.out, below_chain Hb.out hb2⟩
        case measure => simp [intOf]; omega
      · go_ret
        refine ⟨(k : Int), rfl, ?_, below_chain Hb.out hb2⟩
        unfold againB
        rw [range_any_true hkn Hf.out]
        simp
    · obtain rfl : k = n := by omega
      go_wp2
      go_ret
      exact ⟨-1, rfl, by rw [Ho.out]; rfl, Hb.out⟩

set_option maxRecDepth 100000 in
theorem contains_again (zs : List Int) (a : Option Addr) (n c : Nat) (s0 p0 : Int) (g : Nat) (w : World) (h : IR w.heap.size w 3 a n c zs) (hn : n ≤ 1000000) (h0 : w.cell? ⟨g, 0, none⟩ = some (.int .i64 s0)) (h1 : w.cell? ⟨g, 1, none⟩ = some (.int .i64 p0)) (hg : g < w.heap.size) :
    Calls Tryz.prog 215 #[.slice a n c, .func (.func 214) #[] #[.pointer (some ⟨g, 0, none⟩)]] w (RetB w (.bool (againB zs n s0 p0))) := by
  have H0 := Lib.hid h0; have H1 := Lib.hid h1; clear h0 h1
  go_enter Tryz.func215, Tryz.ntmps215
  go_wp2_with fail
  refine (index_again zs a n c s0 p0 g _ h hn H0.out H1.out hg).mono ?_
  rintro e w2 ⟨r, rfl, hr, hb⟩
  by_cases hr0 : 0 ≤ r
  · rw [decide_eq_true hr0] at hr
    have Hr := Lib.hid hr; clear hr
    go_wp2
    go_ret
    exact ⟨by rw [← Hr.out]; rfl, hb⟩
  · rw [decide_eq_false hr0] at hr
    have Hr := Lib.hid hr; clear hr
    have h1 : decide (0 ≤ r) = false := decide_eq_false hr0
    go_wp2
    go_ret
    exact ⟨by rw [← Hr.out]; rfl, hb⟩

end Go.Proofs.YtgohdcccfkjooaaGreatDoor

namespace Go.Proofs.YtgohdcccfkjooaaGreatDoor
open Go.RowKit

def placesOf (k : Int) : List Int := if k = 1 then [1, 2, 5, 6, 7, 8, 10] else if k = 2 then [1, 2, 3, 4, 10] else if k = 3 then [11, 12, 13, 14, 15] else if k = 4 then [1, 10] else []

/-- the table lies as it was laid, below N -/
def Places (N : Nat) (w : World) : Prop :=
  ∃ r, w.cell? ⟨11, 0, none⟩ = some (.map (some r)) ∧ 11 < N ∧ r < N ∧ ∃ es clock, w.heap[r]? = some (.map es clock) ∧
    ∀ k : Int, 1 ≤ k → k ≤ 4 → ∃ i a n c, Instr.findNow (.int .i64) (.int .i64 k) es.toList 0 = some (some (i, .slice a n c)) ∧ IR N w 1 a n c (placesOf k)

theorem Places.below {N : Nat} {w w' : World} (h : Places N w) (hb : Below N w w') : Places N w' := by
  obtain ⟨r, h0, hN, hr, es, clock, h1, h2⟩ := h
  refine ⟨r, (hb.cell (p := ⟨11, 0, none⟩) hN).trans h0, hN, hr, es, clock, (hb.block r hr).trans h1, fun k hk hk2 => ?_⟩
  obtain ⟨i, a, n, c, h3, h4⟩ := h2 k hk hk2
  exact ⟨i, a, n, c, h3, h4.below hb (Nat.le_refl _)⟩
theorem Places.mono {N M : Nat} {w : World} (h : Places N w) (hM : N ≤ M) : Places M w := by
  obtain ⟨r, h0, hN, hr, es, clock, h1, h2⟩ := h
  refine ⟨r, h0, by omega, by omega, es, clock, h1, fun k hk hk2 => ?_⟩
  obtain ⟨i, a, n, c, h3, h4⟩ := h2 k hk hk2
  exact ⟨i, a, n, c, h3, h4.mono hM⟩
theorem Places.go {w w' : World} (h : Places w.heap.size w) (hb : Below w.heap.size w w') : Places w'.heap.size w' := (h.below hb).mono hb.size

theorem run_lookup_any {P : Program} {t kt e : TypeId} (ht : P.underlying t = some (.map kt e)) (hk : P.underlying kt = some (.int .i64)) {w : World} {r i : Nat} {k : Int} {v : Value} {es : Array MapEntry} {clock : Nat} (hr : w.heap[r]? = some (.map es clock)) (hf : Instr.findNow (.int .i64) (.int .i64 k) es.toList 0 = some (some (i, v))) :
    (Instr.lookup t (.map (some r)) (.int .i64 k) false).run P w = .ok v w := by
  have hc : ∀ b, (Instr.checkKey b 10000 kt (.int .i64 k)).run P w = .ok () w := fun b => by
    rw [show (10000 : Nat) = 9999 + 1 from rfl, Instr.checkKey, Sem.run_bind, run_underlying hk]
    rfl
  simp [Instr.lookup, Instr.findKey, Sem.run_bind, run_underlying ht, run_underlying hk, MapKept.run_getObj_map hr, hc, hf]

theorem IR.sl {N : Nat} {w : World} {a : Option Addr} {n c : Nat} {zs : List Int} (h : IR N w 1 a n c zs) : SL N w a n c zs :=
  ⟨by rw [h.1, Nat.mul_one], h.2.1, fun hn => by have := h.2.2 hn; rwa [Nat.mul_one] at this⟩

theorem any_takeI {f : Int → Bool} {zs : List Int} {k : Nat} (h : k < zs.length) (h0 : (zs.take k).any f = false) (v : Bool) (hv : f (zs.getD k 0) = v) : (zs.take (k + 1)).any f = v := (any_take h h0).trans hv

set_option maxRecDepth 100000 in
set_option maxHeartbeats 800000 in
theorem index_int (zs : List Int) (a : Option Addr) (n c : Nat) (v : Int) (w : World) (hs : SL w.heap.size w a n c zs) (hn : n ≤ 1000000) :
    Calls Tryz.prog 287 #[.slice a n c, .int .i64 v] w (RetAt w (zs.any fun z => v == z)) := by
  have hlen := hs.len
  have Hs := Lib.hid hs; have Hlen := Lib.hid hlen
  clear hs hlen
  go_enter Tryz.func287, Tryz.ntmps287
  go_wp2_with fail
  go_loopw [8] (fun iv wr => ∃ k : Nat, k ≤ n ∧ iv = .int .i64 (k : Int) ∧ ((zs.take k).any fun z => v == z) = false ∧ Below w.heap.size w wr) (fun iv _ => n - (intOf iv).toNat)
  case atStart => exact ⟨0, Nat.zero_le _, rfl, rfl, Below.refl _ _⟩
  case round =>
    obtain ⟨k, hk, rfl, ho, hb⟩ := hrel
    have Ho := Lib.hid ho; have Hb := Lib.hid hb
    clear ho hb
    by_cases hkn : k < n
    · obtain ⟨b, off, rfl, hlt, hc⟩ := (Hs.out.go Hb.out).at (by omega)
      have c0 := hc k hkn
      clear hc
      have hnx := any_takeI (f := fun z => v == z) (k := k) (by rw [← Hlen.out]; exact hkn) Ho.out
      have Hn := Lib.hid hnx; clear hnx
      cases hv : (v == zs.getD k 0)
      all_goals
        have Hv := Lib.hid (Hn.out _ hv)
        clear Hn
        generalize zs.getD k 0 = z at *
        go_wp2
      · go_roundw
        case rel => exact ⟨k + 1, by omega, by go_num, Hv.out, Hb.out⟩
        case measure => simp [intOf]; omega
      · go_ret
        refine ⟨(k : Int), rfl, ?_, Hb.out⟩
        rw [decide_eq_true (by omega)]
        symm
        obtain ⟨x, hx, hx2⟩ := List.any_eq_true.1 Hv.out
        exact List.any_eq_true.2 ⟨x, List.mem_of_mem_take hx, hx2⟩
    · obtain rfl : k = n := by omega
      go_wp2
      go_ret
      refine ⟨-1, rfl, ?_, Hb.out⟩
      have h1 := Ho.out
      rw [Hlen.out, List.take_length] at h1
      rw [h1]; rfl

set_option maxRecDepth 100000 in
theorem contains_int (zs : List Int) (a : Option Addr) (n c : Nat) (v : Int) (w : World) (hs : SL w.heap.size w a n c zs) (hn : n ≤ 1000000) :
    Calls Tryz.prog 286 #[.slice a n c, .int .i64 v] w (RetB w (.bool (zs.any fun z => v == z))) := by
  go_enter Tryz.func286, Tryz.ntmps286
  go_wp2_with fail
  refine (index_int zs a n c v _ hs hn).mono ?_
  rintro e w2 ⟨r, rfl, hr, hb⟩
  by_cases hr0 : 0 ≤ r
  · rw [decide_eq_true hr0] at hr
    have Hr := Lib.hid hr; clear hr
    go_wp2
    go_ret
    exact ⟨by rw [← Hr.out]; rfl, hb⟩
  · rw [decide_eq_false hr0] at hr
    have Hr := Lib.hid hr; clear hr
    have h1 : decide (0 ≤ r) = false := decide_eq_false hr0
    go_wp2
    go_ret
    exact ⟨by rw [← Hr.out]; rfl, hb⟩

theorem length_places (k : Int) : (placesOf k).length ≤ 7 := by unfold placesOf; split; decide; split; decide; split; decide; split <;> decide

set_option maxRecDepth 100000 in
theorem met_any (r : Nat) (k v : Int) (w : World) (hp : Places w.heap.size w) (hr : w.cell? ⟨11, 0, none⟩ = some (.map (some r))) (h1 : 1 ≤ k) (h4 : k ≤ 4) :
    Calls Tryz.prog 283 #[.map (some r), .int .i64 k, .int .i64 v] w (RetB w (.bool ((placesOf k).any fun z => v == z))) := by
  obtain ⟨r', h0, _, hlt, es, clock, hes, hk⟩ := hp
  rw [hr] at h0
  cases h0
  obtain ⟨i, a, n, c, hf, hi⟩ := hk k h1 h4
  have hl := run_lookup_any Tryz.underlying353 Tryz.underlying3 hes hf
  have hn : n ≤ 1000000 := by have := length_places k; have := hi.1; omega
  have Hi := Lib.hid hi.sl
  clear hes hk hf hi hr
  go_enter Tryz.func283, Tryz.ntmps283
  go_wp2_with ((with_reducible refine (contains_int (placesOf k) a n c v _ Hi.out hn).mono ?_); rintro e w2 ⟨he, hb⟩; subst he)
  go_ret
  exact ⟨rfl, hb⟩

/-- a valid surface has a parameter -/
def hasB (s : Surf) (p : Int) : Bool := if p = 16 ∨ p = 17 then !(s.order == 0) else (p == 9) || (placesOf s.kind).any fun z => p == z

set_option maxRecDepth 100000 in
set_option maxHeartbeats 1600000 in
theorem shas_any (s : Surf) (p : Int) (a : Option Addr) (n c : Nat) (w : World) (hp : Places w.heap.size w) (h1 : 1 ≤ s.kind) (h4 : s.kind ≤ 4) :
    Calls Tryz.prog 275 #[.agg #[.int .i64 s.kind, .int .i64 s.curv, .int .i64 s.conic, .int .i64 s.curvX, .int .i64 s.conicX, .int .i64 s.a0, .int .i64 s.a1, .int .i64 s.a2, .int .i64 s.a3, .int .i64 s.p0, .int .i64 s.p1, .int .i64 s.order, .int .i64 s.thick, .string s.glass, .int .i64 s.semi, .int .i64 s.hole, .int .i64 s.dx, .int .i64 s.dy, .int .i64 s.ax, .int .i64 s.ay, .int .i64 s.az, .slice a n c], .int .i64 p] w (RetB w (.bool (hasB s p))) := by
  have g1 := SurfB.new w s a n c
  have gb := (Below.refl w.heap.size w).alloc (Nat.le_refl _) (.cells #[.int .i64 s.kind, .int .i64 s.curv, .int .i64 s.conic, .int .i64 s.curvX, .int .i64 s.conicX, .int .i64 s.a0, .int .i64 s.a1, .int .i64 s.a2, .int .i64 s.a3, .int .i64 s.p0, .int .i64 s.p1, .int .i64 s.order, .int .i64 s.thick, .string s.glass, .int .i64 s.semi, .int .i64 s.hole, .int .i64 s.dx, .int .i64 s.dy, .int .i64 s.ax, .int .i64 s.ay, .int .i64 s.az, .slice a n c] 70)
  have G1 := Lib.hid g1; have Gb := Lib.hid gb; have Hp := Lib.hid (hp.go gb)
  clear g1 gb hp
  go_enter Tryz.func275, Tryz.ntmps275
  go_upto_region 1 with fail
  refine step_world (fun wx => SurfB wx w.heap.size s a n c ∧ Below w.heap.size w wx ∧ Places wx.heap.size wx) ⟨G1.out, Gb.out, Hp.out⟩ ?_
  clear G1 Gb Hp
  rintro w1 ⟨g1, hb, hp⟩
  obtain ⟨r, h0, _⟩ := id hp
  obtain ⟨k0, _, _, _, _, _, _, _, _, _, _, k11, _⟩ := g1.cells
  have Hb := Lib.hid hb; have Hp := Lib.hid hp; clear hb hp g1
  by_cases q1 : p = 16 ∨ p = 17
  · have hr : hasB s p = !(s.order == 0) := by unfold hasB; rw [if_pos q1]
    have Hr := Lib.hid hr; clear hr
    rcases q1 with rfl | rfl
    all_goals
      go_wp2
      go_ret
      exact ⟨by rw [Hr.out]; rfl, Hb.out⟩
  · have hr : hasB s p = ((p == 9) || (placesOf s.kind).any fun z => p == z) := by unfold hasB; rw [if_neg q1]
    have Hr := Lib.hid hr; clear hr
    have q2 : (p == 16) = false := by simp; omega
    have q3 : (p == 17) = false := by simp; omega
    have H0 := Lib.hid h0
    clear q1
    cases q : (p == 9)
    all_goals
      have Q := Lib.hid q
      go_wp2_with ((with_reducible refine (met_any r s.kind p _ Hp.out H0.out h1 h4).mono ?_); rintro e w2 ⟨he, hb2⟩; subst he; have Hb2 := Lib.hid hb2; clear hb2)
      go_ret
      rw [Hr.out, Q.out]
    · exact ⟨rfl, below_chain Hb.out Hb2.out⟩
    · exact ⟨rfl, Hb.out⟩

end Go.Proofs.YtgohdcccfkjooaaGreatDoor

namespace Go.Proofs.YtgohdcccfkjooaaGreatDoor
open Go.RowKit

def Surf.get (s : Surf) (p : Int) : Int := if p = 1 then s.curv else if p = 2 then s.conic else if p = 3 then s.curvX else if p = 4 then s.conicX else if p = 5 then s.a0 else if p = 6 then s.a1 else if p = 7 then s.a2 else if p = 8 then s.a3 else if p = 9 then s.thick else if p = 10 then s.semi else if p = 11 then s.dx else if p = 12 then s.dy else if p = 13 then s.ax else if p = 14 then s.ay else if p = 15 then s.az else if p = 16 then s.p0 else if p = 17 then s.p1 else 0
def Surf.put (s : Surf) (p v : Int) : Surf := if p = 1 then { s with curv := v } else if p = 2 then { s with conic := v } else if p = 3 then { s with curvX := v } else if p = 4 then { s with conicX := v } else if p = 5 then { s with a0 := v } else if p = 6 then { s with a1 := v } else if p = 7 then { s with a2 := v } else if p = 8 then { s with a3 := v } else if p = 9 then { s with thick := v } else if p = 10 then { s with semi := v } else if p = 11 then { s with dx := v } else if p = 12 then { s with dy := v } else if p = 13 then { s with ax := v } else if p = 14 then { s with ay := v } else if p = 15 then { s with az := v } else if p = 16 then { s with p0 := v } else if p = 17 then { s with p1 := v } else s
def placeOff (p : Int) : Nat := if p = 1 then 1 else if p = 2 then 2 else if p = 3 then 3 else if p = 4 then 4 else if p = 5 then 5 else if p = 6 then 6 else if p = 7 then 7 else if p = 8 then 8 else if p = 9 then 12 else if p = 10 then 14 else if p = 11 then 16 else if p = 12 then 17 else if p = 13 then 18 else if p = 14 then 19 else if p = 15 then 20 else if p = 16 then 9 else if p = 17 then 10 else 0

theorem ways17 {p : Int} (h1 : 1 ≤ p) (h2 : p ≤ 17) : p = 1 ∨ p = 2 ∨ p = 3 ∨ p = 4 ∨ p = 5 ∨ p = 6 ∨ p = 7 ∨ p = 8 ∨ p = 9 ∨ p = 10 ∨ p = 11 ∨ p = 12 ∨ p = 13 ∨ p = 14 ∨ p = 15 ∨ p = 16 ∨ p = 17 := by omega

theorem SurfB.put {w : World} {g : Nat} {s : Surf} {a : Option Addr} {n c : Nat} (h : SurfB w g s a n c) {p : Int} (h1 : 1 ≤ p) (h2 : p ≤ 17) (v : Int) : SurfB (w.setCell ⟨g, placeOff p, none⟩ (.int .i64 v)) g (s.put p v) a n c := by
  have k := obj_setCell h (placeOff p) (.int .i64 v)
  unfold SurfB
  rw [k]
  rcases ways17 h1 h2 with rfl | rfl | rfl | rfl | rfl | rfl | rfl | rfl | rfl | rfl | rfl | rfl | rfl | rfl | rfl | rfl | rfl <;> rfl
theorem SurfB.getP {w : World} {g : Nat} {s : Surf} {a : Option Addr} {n c : Nat} (h : SurfB w g s a n c) {p : Int} (h1 : 1 ≤ p) (h2 : p ≤ 17) : w.cell? ⟨g, placeOff p, none⟩ = some (.int .i64 (s.get p)) := by
  obtain ⟨k0, k1, k2, k3, k4, k5, k6, k7, k8, k9, k10, k11, k12, k13, k14, k15, k16, k17, k18, k19, k20, k21⟩ := h.cells
  rcases ways17 h1 h2 with rfl | rfl | rfl | rfl | rfl | rfl | rfl | rfl | rfl | rfl | rfl | rfl | rfl | rfl | rfl | rfl | rfl <;> assumption

theorem hasB_range {s : Surf} {p : Int} (h : hasB s p = true) : 1 ≤ p ∧ p ≤ 17 := by
  unfold hasB placesOf at h
  repeat' split at h
  all_goals simp at h; omega

theorem okS_kind {s : Surf} {zs : List Int} {n : Nat} (h : okS s zs n = true) : 1 ≤ s.kind ∧ s.kind ≤ 4 := by
  have h1 : tests s zs n = true := by unfold okS at h; simp at h; exact h.1
  have h2 := List.all_eq_true.1 h1 0 (by simp)
  unfold testN test1 at h2
  simp [outB] at h2
  omega

def missI (s : Surf) (zs : List Int) (n : Nat) (p : Int) : Int := if okS s zs n = true then (if hasB s p = true then 0 else 2) else 110

set_option maxRecDepth 100000 in
set_option maxHeartbeats 1600000 in
theorem missing_any (s : Surf) (zs : List Int) (p : Int) (a : Option Addr) (n c : Nat) (w : World) (hz : IR w.heap.size w 3 a n c zs) (hn : n ≤ 1000000) (hg : s.glass.size ≤ 9223372036854775807) (hp : Places w.heap.size w) :
    Calls Tryz.prog 261 #[.agg #[.int .i64 s.kind, .int .i64 s.curv, .int .i64 s.conic, .int .i64 s.curvX, .int .i64 s.conicX, .int .i64 s.a0, .int .i64 s.a1, .int .i64 s.a2, .int .i64 s.a3, .int .i64 s.p0, .int .i64 s.p1, .int .i64 s.order, .int .i64 s.thick, .string s.glass, .int .i64 s.semi, .int .i64 s.hole, .int .i64 s.dx, .int .i64 s.dy, .int .i64 s.ax, .int .i64 s.ay, .int .i64 s.az, .slice a n c], .int .i64 p] w (RetB w (.int .i64 (missI s zs n p))) := by
  have h1 := SurfB.new w s a n c
  have hb1 := (Below.refl w.heap.size w).alloc (Nat.le_refl _) (.cells #[.int .i64 s.kind, .int .i64 s.curv, .int .i64 s.conic, .int .i64 s.curvX, .int .i64 s.conicX, .int .i64 s.a0, .int .i64 s.a1, .int .i64 s.a2, .int .i64 s.a3, .int .i64 s.p0, .int .i64 s.p1, .int .i64 s.order, .int .i64 s.thick, .string s.glass, .int .i64 s.semi, .int .i64 s.hole, .int .i64 s.dx, .int .i64 s.dy, .int .i64 s.ax, .int .i64 s.ay, .int .i64 s.az, .slice a n c] 70)
  have H1 := Lib.hid h1; have Hz := Lib.hid (hz.go hb1); have Hp := Lib.hid (hp.go hb1); have Hb1 := Lib.hid hb1
  clear h1 hz hp hb1
  go_enter Tryz.func261, Tryz.ntmps261
  cases ho : okS s zs n with
  | false =>
    have Ho := Lib.hid ho; clear ho
    go_wp2_with (first
      | (refine wpL_load_surf H1.out rfl (.tmp 2) rfl rfl ?_)
      | ((with_reducible refine (scheck_any s zs a n c _ Hz.out hn hg).mono ?_); rintro e w2 ⟨he, hb⟩; rw [Ho.out] at he; unfold err at he; simp only [if_false, Bool.false_eq_true] at he; subst he))
    go_ret
    exact ⟨by (unfold missI; rw [if_neg (by rw [Ho.out]; simp)]; rfl), below_chain Hb1.out hb⟩
  | true =>
    obtain ⟨q1, q4⟩ := okS_kind ho
    have Ho := Lib.hid ho; clear ho
    cases hh : hasB s p
    all_goals
      have Hh := Lib.hid hh; clear hh
      go_wp2_with (first
        | (refine wpL_load_surf H1.out rfl (.tmp 2) rfl rfl ?_)
        | (refine wpL_load_surf (SurfB.go H1.out Hb2.out (by simp)) rfl (.tmp 2) rfl rfl ?_)
        | ((with_reducible refine (scheck_any s zs a n c _ Hz.out hn hg).mono ?_); rintro e w2 ⟨he, hb⟩; rw [Ho.out] at he; unfold err at he; simp only [if_true] at he; subst he; have Hb2 := Lib.hid hb; clear hb)
        | ((with_reducible refine (shas_any s p a n c _ (Hp.out.go Hb2.out) q1 q4).mono ?_); rintro e w3 ⟨he, hb⟩; rw [Hh.out] at he; subst he; have Hb3 := Lib.hid hb; clear hb))
      go_ret
      refine ⟨?_, below_chain Hb1.out (below_chain Hb2.out Hb3.out)⟩
      unfold missI
      rw [if_pos Ho.out, Hh.out]
      rfl

def hasC (s : Surf) (zs : List Int) (n : Nat) (p : Int) : Bool := okS s zs n && hasB s p

set_option maxRecDepth 100000 in
set_option maxHeartbeats 1600000 in
theorem sHas_any (s : Surf) (zs : List Int) (p : Int) (a : Option Addr) (n c : Nat) (w : World) (hz : IR w.heap.size w 3 a n c zs) (hn : n ≤ 1000000) (hg : s.glass.size ≤ 9223372036854775807) (hp : Places w.heap.size w) :
    Calls Tryz.prog 260 #[.agg #[.int .i64 s.kind, .int .i64 s.curv, .int .i64 s.conic, .int .i64 s.curvX, .int .i64 s.conicX, .int .i64 s.a0, .int .i64 s.a1, .int .i64 s.a2, .int .i64 s.a3, .int .i64 s.p0, .int .i64 s.p1, .int .i64 s.order, .int .i64 s.thick, .string s.glass, .int .i64 s.semi, .int .i64 s.hole, .int .i64 s.dx, .int .i64 s.dy, .int .i64 s.ax, .int .i64 s.ay, .int .i64 s.az, .slice a n c], .int .i64 p] w (RetB w (.bool (hasC s zs n p))) := by
  have h1 := SurfB.new w s a n c
  have hb1 := (Below.refl w.heap.size w).alloc (Nat.le_refl _) (.cells #[.int .i64 s.kind, .int .i64 s.curv, .int .i64 s.conic, .int .i64 s.curvX, .int .i64 s.conicX, .int .i64 s.a0, .int .i64 s.a1, .int .i64 s.a2, .int .i64 s.a3, .int .i64 s.p0, .int .i64 s.p1, .int .i64 s.order, .int .i64 s.thick, .string s.glass, .int .i64 s.semi, .int .i64 s.hole, .int .i64 s.dx, .int .i64 s.dy, .int .i64 s.ax, .int .i64 s.ay, .int .i64 s.az, .slice a n c] 70)
  have H1 := Lib.hid h1; have Hz := Lib.hid (hz.go hb1); have Hp := Lib.hid (hp.go hb1); have Hb1 := Lib.hid hb1
  clear h1 hz hp hb1
  go_enter Tryz.func260, Tryz.ntmps260
  cases ho : okS s zs n with
  | false =>
    have Ho := Lib.hid ho; clear ho
    go_wp2_with (first
      | (refine wpL_load_surf H1.out rfl (.tmp 2) rfl rfl ?_)
      | ((with_reducible refine (scheck_any s zs a n c _ Hz.out hn hg).mono ?_); rintro e w2 ⟨he, hb⟩; rw [Ho.out] at he; unfold err at he; simp only [if_false, Bool.false_eq_true] at he; subst he))
    go_ret
    exact ⟨by unfold hasC; rw [Ho.out]; rfl, below_chain Hb1.out hb⟩
  | true =>
    obtain ⟨q1, q4⟩ := okS_kind ho
    have Ho := Lib.hid ho; clear ho
    cases hh : hasB s p
    all_goals
      have Hh := Lib.hid hh; clear hh
      go_wp2_with (first
        | (refine wpL_load_surf H1.out rfl (.tmp 2) rfl rfl ?_)
        | (refine wpL_load_surfG (SurfB.go H1.out Hb2.out (by simp)) (by rfl) (.tmp 2) rfl rfl ?_)
        | ((with_reducible refine (scheck_any s zs a n c _ Hz.out hn hg).mono ?_); rintro e w2 ⟨he, hb⟩; rw [Ho.out] at he; unfold err at he; simp only [if_true] at he; subst he; have Hb2 := Lib.hid hb; clear hb)
        | ((with_reducible refine (shas_any s p a n c _ (Hp.out.go Hb2.out) q1 q4).mono ?_); rintro e w3 ⟨he, hb⟩; rw [Hh.out] at he; subst he; have Hb3 := Lib.hid hb; clear hb))
      go_ret
      refine ⟨?_, below_chain Hb1.out (below_chain Hb2.out Hb3.out)⟩
      unfold hasC
      rw [Ho.out, Hh.out]
      rfl

end Go.Proofs.YtgohdcccfkjooaaGreatDoor

namespace Go.Proofs.YtgohdcccfkjooaaGreatDoor
open Go.ChangeShapes Go.WideShapes Go.ChangeAt Go.RowKit Go.WideElems Go.Maps

theorem cell_spotP {w : World} {a : Addr} {v : Value} (h : w.cell? a = some v) : a = ⟨a.block, a.off, none⟩ ∧ a.block < w.heap.size := by
  unfold World.cell? at h
  split at h
  · rename_i c _ _ hb
    split at h
    · cases h
    · rename_i hs
      refine ⟨?_, lt_of_block hb⟩
      obtain ⟨b, o, s⟩ := a
      cases s with
      | none => rfl
      | some s => simp at hs
  · cases h
theorem gPlaces : Tryz.prog.globalNamed "monocle/surface.places" = some 11 := by kernel_rfl
theorem tPlaces : (Tryz.prog.globals[11]?).map (·.type) = some 353 := by kernel_rfl

theorem val_slice {P : Program} {e : TypeId} {v : Value} {a : Option Addr} {n c : Nat} {d : TypeId} (he : P.underlying e = some (.slice d)) (hf : v.formed P e = true) (hc : v.cells.toList = [.slice a n c]) : v = .slice a n c := by
  cases v <;> simp_all [Value.formed, Value.cells]

theorem isKeyI {P : Program} {k : TypeId} (hk : P.underlying k = some (.int .i64)) {v : Value} {l : Lit} (h : keyOf P k v = some l) : MapKept.IsKey (.int .i64) v := by
  rw [keyOf_int hk] at h
  obtain ⟨d, hd, h1, _⟩ := mapKey_isKey h
  rw [hk] at hd
  cases hd
  exact h1

theorem lits_inj {H : Type} : ∀ {xs ys : List Int}, (lits (H := H) .i64 xs) = lits .i64 ys → xs = ys
  | [], [], _ => rfl
  | [], _ :: _, h => by cases h
  | _ :: _, [], h => by cases h
  | x :: xs, y :: ys, h => by
    unfold lits at h
    simp only [List.map_cons, List.cons.injEq, DataW.lit.injEq, Lit.int.injEq, true_and] at h
    obtain ⟨rfl, h2⟩ := h
    have := lits_inj (H := H) (xs := xs) (ys := ys) h2
    rw [this]

theorem okv_inj {a b : Value} {w w' : World} (h : (Result.ok a w : Result Value) = .ok b w') : a = b := by cases h; rfl

set_option maxRecDepth 100000 in
theorem places_of_met {W : World} {rest : List (String × DataW Unit)} (h : laidMet Tryz.prog (("monocle/surface.places", Rows.laid_monocle_surface_places) :: rest) W) : Places W.heap.size W := by
  obtain ⟨ps, ⟨g0, t0, cs0, f0, p0, q0, hg0, ht0, hv0, hd0, _, _⟩, _, _⟩ := h
  obtain rfl := Option.some.inj (gPlaces.symm.trans hg0)
  obtain rfl := Option.some.inj (tPlaces.symm.trans ht0)
  have zero : (zeroValue 162).run Tryz.prog W = .ok (.slice none 0 0) W := by kernel_rfl
  rcases WideElems.open_map Tryz.underlying353 hd0 with ⟨_, hx⟩ | ⟨bm, es, clock, m, _, hcs, hb, _, F, hx⟩
  · cases hx
  simp only [Prod.mk.injEq] at hx
  have hcell : W.cell? ⟨11, 0, none⟩ = some (.map (some bm)) := by
    have := World.var?_cell hg0 hv0 0
    rw [Array.eq_one_of_toList hcs] at this
    simpa using this
  have h0l := (cell_spotP hcell).2
  refine ⟨bm, hcell, h0l, lt_of_block hb, es, clock, hb, ?_⟩
  have each : ∀ k : Int, (Lit.int .i64 k).wf = true → ∀ zs : List Int, (Rows.laid_monocle_surface_places (H := Unit)).atKey (.int .i64 k) .nil = .slice (lits .i64 zs) [] → ∃ i a n c, Instr.findNow (.int .i64) (.int .i64 k) es.toList 0 = some (some (i, .slice a n c)) ∧ IR W.heap.size W 1 a n c zs := by
    intro k hwf zs hat0
    have hkey := keyOf_int_mk (P := Tryz.prog) Tryz.underlying3 hwf
    rcases fit_look (w := W) false (int_keyed Tryz.underlying3) Tryz.underlying353 zero hb F hkey with ⟨_, _, hat⟩ | ⟨e0, y, hmem, hk0, hrun, hR, hat, _⟩
    · have := hat .nil
      rw [← hx.1, hat0] at this
      cases this
    · have hy := hat .nil
      rw [← hx.1, hat0] at hy
      rcases MapKept.findNow_spec (isKeyI Tryz.underlying3 hkey) es.toList 0 (fun x hx => by
        obtain ⟨l, hl⟩ := F.keys x hx
        exact isKeyI Tryz.underlying3 hl) with ⟨_, hno⟩ | ⟨j, e1, hf, _, hk1⟩
      · exact absurd hk0 (hno e0 hmem)
      · have hrun1 := run_lookup_any Tryz.underlying353 Tryz.underlying3 hb hf
        have hv : e1.val = e0.val := by
          have := hrun1.symm.trans hrun
          simp only [Bool.false_eq_true, if_false] at this
          exact okv_inj this
        unfold elemAt at hR
        split at hR
        · rename_i hform
          rcases open_ints Tryz.underlying162 Tryz.underlying3 (by kernel_rfl) hR with ⟨_, rfl⟩ | ⟨a, len, cap, xs, hcs1, _, hlc, _, hxl, rfl, hcell1, _⟩
          · cases hy
          · have hv0' := val_slice Tryz.underlying162 hform hcs1
            simp only [DataW.slice.injEq] at hy
            have h1 := lits_inj hy.1
            have h2 : xs.drop len = [] := by
              have := hy.2
              unfold lits at this
              exact List.map_eq_nil_iff.1 this.symm
            have hxs : xs = zs := by
              have := List.take_append_drop len xs
              rw [h2, List.append_nil] at this
              exact this.symm.trans h1.symm
            subst hxs
            have hlen : xs.length = len := by
              have ha : xs.length ≤ len := by
                rw [List.drop_eq_nil_iff] at h2; exact h2
              have hb' : len ≤ xs.length := by rw [hxl]; split <;> omega
              omega
            refine ⟨0 + j, some a, len, cap, by rw [hf, hv, hv0'], by rw [hlen, Nat.mul_one], hlc, fun hpos => ?_⟩
            have h00 := hcell1 0 (by omega)
            have ha0 : a.add 0 = a := by simp [Addr.add]
            rw [ha0] at h00
            obtain ⟨ea, hlt⟩ := cell_spotP h00
            refine ⟨a.block, a.off, by rw [← ea], hlt, fun j hj => ?_⟩
            have := hcell1 j (by omega)
            rw [ea, Addr.add_lit] at this
            exact this
        · cases hR
  intro k h1 h4
  have hk : k = 1 ∨ k = 2 ∨ k = 3 ∨ k = 4 := by omega
  rcases hk with rfl | rfl | rfl | rfl
  · exact each 1 rfl [1, 2, 5, 6, 7, 8, 10] rfl
  · exact each 2 rfl [1, 2, 3, 4, 10] rfl
  · exact each 3 rfl [11, 12, 13, 14, 15] rfl
  · exact each 4 rfl [1, 10] rfl

end Go.Proofs.YtgohdcccfkjooaaGreatDoor

namespace Go.Proofs.YtgohdcccfkjooaaGreatDoor
open Go.RowKit

set_option maxRecDepth 100000 in
set_option maxHeartbeats 3200000 in
theorem rsameConf_eq (l : List ConfC) (a b : Option Addr) (n c d : Nat) (w : World) (h1 : RR ConfR 2 (fun b => b < w.heap.size) w a n c l) (h2 : RR ConfR 2 (fun b => b < w.heap.size) w b n d l) (hn : n ≤ 1000000) :
    Calls Tryz.prog 55 #[.slice a n c, .slice b n d] w (RetB w (.bool true)) := by
  have H1 := Lib.hid h1; have H2 := Lib.hid h2; clear h1 h2
  go_enter Tryz.func55, Tryz.ntmps55
  go_wp2_with fail
  go_loopw [5] (fun iv wr => ∃ k : Nat, k ≤ n ∧ iv = .int .i64 (k : Int) ∧ Below w.heap.size w wr) (fun iv _ => n - (intOf iv).toNat)
  case atStart => exact ⟨0, Nat.zero_le _, rfl, Below.refl _ _⟩
  case round =>
    obtain ⟨k, hk, rfl, hb⟩ := hrel
    have Hb := Lib.hid hb; clear hb
    by_cases hkn : k < n
    · obtain ⟨b1, o1, y, cs, rfl, l1, hy, ⟨a2, n2, c2, rfl, hz2, hn2, -, hg2⟩, hr⟩ := (H1.out.go confOk Hb.out).at hkn
      obtain ⟨b2, o2, y', cs', rfl, l2, hy', ⟨a3, n3, c3, rfl, hz3, hn3, -, -⟩, hr'⟩ := (H2.out.go confOk Hb.out).at hkn
      rw [hy] at hy'
      cases hy'
      obtain rfl : n2 = n3 := by rw [coat_n hz2, coat_n hz3]
      have x0 := hr 0 _ rfl; have x1 := hr 1 _ rfl; have z0 := hr' 0 _ rfl; have z1 := hr' 1 _ rfl
      rw [Nat.add_zero] at x0 z0
      have Hz2 := Lib.hid (hz2.ir (fun _ h => h)); have Hz3 := Lib.hid (hz3.ir (fun _ h => h))
      have X1 := Lib.hid x1; have Z1 := Lib.hid z1
      clear hr hr' hz2 hz3 hy
      go_wp2_with fail
      go_quiet (fail)
      go_wp2_with fail
      go_loopw [6] (fun iv wq => ∃ j : Nat, j ≤ n2 ∧ iv = .int .i64 (j : Int) ∧ Below wr.heap.size wr wq) (fun iv _ => n2 - (intOf iv).toNat)
      case atStart => exact ⟨0, Nat.zero_le _, rfl, below_drewN (Below.refl _ _) _⟩
      case round =>
        obtain ⟨j, hj, rfl, hb2⟩ := hrel
        have Hb2 := Lib.hid hb2; clear hb2 x0 x1 z0 z1
        have x1 := (Hb2.out.cell (p := ⟨b1, o1 + k * 2 + 1, none⟩) l1).trans X1.out
        have z1 := (Hb2.out.cell (p := ⟨b2, o2 + k * 2 + 1, none⟩) l2).trans Z1.out
        by_cases hjn : j < n2
        · obtain ⟨b3, o3, rfl, l3, p0, p1, p2⟩ := (Hz2.out.go Hb2.out).at3 hjn
          obtain ⟨b4, o4, rfl, l4, q0, q1, q2⟩ := (Hz3.out.go Hb2.out).at3 hjn
          generalize y.zs.getD (j * 3) 0 = v0 at *
          generalize y.zs.getD (j * 3 + 1) 0 = v1 at *
          generalize y.zs.getD (j * 3 + 2) 0 = v2 at *
          go_wp2_with fail
          go_quiet (fail)
          go_wp2_with fail
          go_roundw
          case rel => exact ⟨j + 1, by omega, by go_num, below_drewN Hb2.out _⟩
          case measure => simp [intOf]; omega
        · obtain rfl : j = n2 := by omega
          go_wp2
          go_roundw
          case rel => exact ⟨k + 1, by omega, by go_num, below_chain Hb.out Hb2.out⟩
          case measure => simp [intOf]; omega
    · obtain rfl : k = n := by omega
      go_wp2
      go_ret
      exact ⟨rfl, Hb.out⟩

end Go.Proofs.YtgohdcccfkjooaaGreatDoor
