/-
  DERIVED. Several texts in one: LensH, LensI, Places, LensJ, RlC, RsfD, DrB.
-/
import Derived.Test.YthommhfppeonpaaGreatDoorKaa
import Derived.Test.YthommhfppeonpaaGreatDoorJRsfC
namespace Go.Proofs.YthommhfppeonpaaGreatDoor
open Go.RowKit

def bt (n low high : Int) : Bool := decide (low ≤ n) && decide (n ≤ high)

set_option maxRecDepth 100000 in
theorem lbetween_any (n low high : Int) (w : World) : Calls Tryz.prog 62 #[.int .i64 n, .int .i64 low, .int .i64 high] w (RetB w (.bool (bt n low high))) := by
  go_enter Tryz.func62, Tryz.ntmps62
  go_wp2
  all_goals
    go_ret
    refine ⟨congrArg (fun b => Ending.returned (Value.bool b)) ?_, Below.refl _ _⟩
    rw [Bool.eq_iff_iff]
    simp [bt] <;> omega

set_option maxRecDepth 100000 in
theorem rwithin_any (n low high : Int) (w : World) : Calls Tryz.prog 85 #[.int .i64 n, .int .i64 low, .int .i64 high] w (RetB w (.bool (bt n low high))) := by
  go_enter Tryz.func85, Tryz.ntmps85
  go_wp2
  all_goals
    go_ret
    refine ⟨congrArg (fun b => Ending.returned (Value.bool b)) ?_, Below.refl _ _⟩
    rw [Bool.eq_iff_iff]
    simp [bt] <;> omega

def imageB (s : Surf) (n : Nat) : Bool := decide (s.kind = 1) && s.glass.toList.isEmpty && decide (s.thick = 0) && decide (s.order = 0) && decide (n = 0)

set_option maxRecDepth 100000 in
set_option maxHeartbeats 1600000 in
theorem image_any (s : Surf) (a : Option Addr) (n c : Nat) (w : World) : Calls Tryz.prog 100 #[.agg #[.int .i64 s.kind, .int .i64 s.curv, .int .i64 s.conic, .int .i64 s.curvX, .int .i64 s.conicX, .int .i64 s.a0, .int .i64 s.a1, .int .i64 s.a2, .int .i64 s.a3, .int .i64 s.p0, .int .i64 s.p1, .int .i64 s.order, .int .i64 s.thick, .string s.glass, .int .i64 s.semi, .int .i64 s.hole, .int .i64 s.dx, .int .i64 s.dy, .int .i64 s.ax, .int .i64 s.ay, .int .i64 s.az, .slice a n c]] w (RetB w (.bool (imageB s n))) := by
  have h1 := SurfB.new w s a n c
  have hb1 := (Below.refl w.heap.size w).alloc (Nat.le_refl _) (.cells #[.int .i64 s.kind, .int .i64 s.curv, .int .i64 s.conic, .int .i64 s.curvX, .int .i64 s.conicX, .int .i64 s.a0, .int .i64 s.a1, .int .i64 s.a2, .int .i64 s.a3, .int .i64 s.p0, .int .i64 s.p1, .int .i64 s.order, .int .i64 s.thick, .string s.glass, .int .i64 s.semi, .int .i64 s.hole, .int .i64 s.dx, .int .i64 s.dy, .int .i64 s.ax, .int .i64 s.ay, .int .i64 s.az, .slice a n c] 92)
  have H1 := Lib.hid h1; have Hb1 := Lib.hid hb1
  clear h1 hb1
  go_enter Tryz.func100, Tryz.ntmps100
  go_upto_region 1 with fail
  refine step_world (fun wx => SurfB wx w.heap.size s a n c ∧ Below w.heap.size w wx) ⟨H1.out, Hb1.out⟩ ?_
  clear H1 Hb1
  rintro w1 ⟨h1, hb⟩
  obtain ⟨k0, _, _, _, _, _, _, _, _, _, _, k11, k12, k13, _, _, _, _, _, _, _, k21⟩ := h1.cells
  have Hb := Lib.hid hb; clear hb h1
  cases q1 : (s.kind == 1) <;> cases q2 : s.glass.toList.isEmpty <;> cases q3 : (s.thick == 0) <;> cases q4 : (s.order == 0) <;> cases q5 : ((n : Int) == 0)
  all_goals
    go_wp2
    go_ret
    refine ⟨?_, Hb.out⟩
    clear Hb k0 k11 k12 k13 k21
    simp [imageB, q2] at *
    try omega

def okC (x : SurfC) : Bool := okS x.s x.zs (x.zs.length / 3)

theorem coat_n {S : Nat → Prop} {w : World} {a : Option Addr} {n c : Nat} {zs : List Int} (h : IRp S w 3 a n c zs) : n = zs.length / 3 := by rw [h.1]; omega

set_option maxRecDepth 100000 in
theorem bad_any (x : SurfC) (a : Option Addr) (n c : Nat) (w : World) (hz : IR w.heap.size w 3 a n c x.zs) (hn : n ≤ 1000000) (hg : x.s.glass.size ≤ 9223372036854775807) :
    Calls Tryz.prog 98 #[.agg #[.int .i64 x.s.kind, .int .i64 x.s.curv, .int .i64 x.s.conic, .int .i64 x.s.curvX, .int .i64 x.s.conicX, .int .i64 x.s.a0, .int .i64 x.s.a1, .int .i64 x.s.a2, .int .i64 x.s.a3, .int .i64 x.s.p0, .int .i64 x.s.p1, .int .i64 x.s.order, .int .i64 x.s.thick, .string x.s.glass, .int .i64 x.s.semi, .int .i64 x.s.hole, .int .i64 x.s.dx, .int .i64 x.s.dy, .int .i64 x.s.ax, .int .i64 x.s.ay, .int .i64 x.s.az, .slice a n c]] w (RetB w (.bool (!okC x))) := by
  have hok : okC x = okS x.s x.zs n := by unfold okC; rw [← coat_n (S := fun _ => True) (hz.irp (fun _ _ => trivial))]
  have h1 := SurfB.new w x.s a n c
  have H1 := Lib.hid h1; have Hz := Lib.hid hz; have Hok := Lib.hid hok
  clear h1 hz hok
  go_enter Tryz.func98, Tryz.ntmps98
  cases ho : okS x.s x.zs n
  all_goals
    have Ho := Lib.hid ho; clear ho
    go_wp2_with (first
      | (refine wpL_load_surf H1.out rfl (.tmp 1) rfl rfl ?_)
      | ((with_reducible refine (scheck_any x.s x.zs a n c _ (Hz.out.go ((Below.refl _ _).alloc (Nat.le_refl _) _)) hn hg).mono ?_); rintro e w2 ⟨he, hb⟩; rw [Ho.out] at he; unfold err at he; simp only [if_true, if_false, Bool.false_eq_true] at he; subst he))
    go_ret
    exact ⟨by rw [Hok.out, Ho.out]; rfl, below_chain (below_al (Below.refl _ _)) hb⟩

end Go.Proofs.YthommhfppeonpaaGreatDoor

namespace Go.Proofs.YthommhfppeonpaaGreatDoor
open Go.RowKit

def badB (l : List SurfC) : Bool := l.any fun x => !okC x

theorem any_takeS {α : Type} {f : α → Bool} {l : List α} {k : Nat} {x : α} (h : l[k]? = some x) (h0 : (l.take k).any f = false) : (l.take (k + 1)).any f = f x := by
  rw [take_next h, List.any_append, h0]; simp
theorem any_mem {α : Type} {f : α → Bool} {l : List α} {k : Nat} {x : α} (h : l[k]? = some x) (h0 : f x = true) : l.any f = true := List.any_eq_true.2 ⟨x, List.mem_of_getElem? h, h0⟩

set_option maxRecDepth 100000 in
set_option maxHeartbeats 1600000 in
theorem index_bad (l : List SurfC) (a : Option Addr) (n c : Nat) (w : World) (h : RR SurfR 22 (fun b => b < w.heap.size) w a n c l) (hn : n ≤ 1000000) :
    Calls Tryz.prog 128 #[.slice a n c, .func (.func 98) #[] #[]] w (RetAt w (badB l)) := by
  have H := Lib.hid h; clear h
  have hlen := H.out.1
  go_enter Tryz.func128, Tryz.ntmps128
  go_wp2_with fail
  go_loopw [8] (fun iv wr => ∃ k : Nat, k ≤ n ∧ iv = .int .i64 (k : Int) ∧ (l.take k).any (fun x => !okC x) = false ∧ Below w.heap.size w wr) (fun iv _ => n - (intOf iv).toNat)
  case atStart => exact ⟨0, Nat.zero_le _, rfl, rfl, Below.refl _ _⟩
  case round =>
    obtain ⟨k, hk, rfl, ho, hb⟩ := hrel
    have Ho := Lib.hid ho; have Hb := Lib.hid hb
    clear ho hb
    by_cases hkn : k < n
    · obtain ⟨b, off, x, cs, rfl, hlt, hx, ⟨a2, n2, c2, rfl, hz, hn2, hc2, hg2⟩, hr⟩ := (H.out.go surfOk Hb.out).at hkn
      have Hx := Lib.hid hx; have Hz := Lib.hid (hz.ir (fun _ h => h)); have Hr := Lib.hid hr; have Hg2 := Lib.hid hg2
      clear hx hz hc2 hr hg2
      cases hv : okC x
      all_goals
        have Hv := Lib.hid hv; clear hv
        go_wp2_with (first
          | (refine wpL_load_at Hr.out rfl (.tmp 14) rfl rfl ?_)
          | ((with_reducible refine (bad_any x _ n2 c2 _ Hz.out hn2 Hg2.out).mono ?_); rintro e w2 ⟨he, hb2⟩; rw [Hv.out] at he; simp only [Bool.not_true, Bool.not_false] at he; subst he))
      · go_ret
        refine ⟨(k : Int), rfl, ?_, below_chain Hb.out hb2⟩
        unfold badB
        rw [any_mem (f := fun x => !okC x) Hx.out (by rw [Hv.out]; rfl)]
        simp
      · go_roundw
        case rel => exact ⟨k + 1, by omega, by go_num, (any_takeS Hx.out Ho.out).trans (by rw [Hv.out]; rfl), below_chain Hb.out hb2⟩
        case measure => simp [intOf]; omega
    · obtain rfl : k = n := by omega
      go_wp2
      go_ret
      refine ⟨-1, rfl, ?_, Hb.out⟩
      have h1 := Ho.out
      rw [← hlen, List.take_length] at h1
      unfold badB
      rw [h1]; rfl

set_option maxRecDepth 100000 in
theorem contains_bad (l : List SurfC) (a : Option Addr) (n c : Nat) (w : World) (h : RR SurfR 22 (fun b => b < w.heap.size) w a n c l) (hn : n ≤ 1000000) :
    Calls Tryz.prog 99 #[.slice a n c, .func (.func 98) #[] #[]] w (RetB w (.bool (badB l))) := by
  go_enter Tryz.func99, Tryz.ntmps99
  go_wp2_with fail
  refine (index_bad l a n c _ h hn).mono ?_
  rintro e w2 ⟨r, rfl, hr, hb⟩
  by_cases h0 : 0 ≤ r
  · rw [decide_eq_true h0] at hr
    have Hr := Lib.hid hr; clear hr
    go_wp2
    go_ret
    exact ⟨by rw [← Hr.out]; rfl, hb⟩
  · rw [decide_eq_false h0] at hr
    have Hr := Lib.hid hr; clear hr
    have h1 : decide (0 ≤ r) = false := decide_eq_false h0
    go_wp2
    go_ret
    exact ⟨by rw [← Hr.out]; rfl, hb⟩

/-- a change of s, p is among the first n -/
def againB (zs : List Int) (n : Nat) (s p : Int) : Bool := (List.range n).any fun k => (zs.getD (k * 3) 0 == s) && (zs.getD (k * 3 + 1) 0 == p)

set_option maxRecDepth 100000 in
theorem lit_again (s p v s0 p0 : Int) (g : Nat) (w : World) (h0 : w.cell? ⟨g, 0, none⟩ = some (.int .i64 s0)) (h1 : w.cell? ⟨g, 1, none⟩ = some (.int .i64 p0)) (hg : g < w.heap.size) :
    Calls Tryz.prog 129 #[.agg #[.int .i64 s, .int .i64 p, .int .i64 v], .pointer (some ⟨g, 0, none⟩)] w (RetB w (.bool ((s == s0) && (p == p0)))) := by
  cases q1 : (s == s0) <;> cases q2 : (p == p0)
  all_goals
    go_enter Tryz.func129, Tryz.ntmps129
    go_wp2
    go_ret
    exact ⟨rfl, below_al (Below.refl _ _)⟩

theorem range_any_next {f : Nat → Bool} {k : Nat} (h : (List.range k).any f = false) : (List.range (k + 1)).any f = f k := by
  rw [List.range_succ, List.any_append, h]; simp
theorem range_any_true {f : Nat → Bool} {n k : Nat} (hk : k < n) (h : f k = true) : (List.range n).any f = true := List.any_eq_true.2 ⟨k, List.mem_range.2 hk, h⟩

set_option maxRecDepth 100000 in
set_option maxHeartbeats 1600000 in
theorem index_again (zs : List Int) (a : Option Addr) (n c : Nat) (s0 p0 : Int) (g : Nat) (w : World) (h : IR w.heap.size w 3 a n c zs) (hn : n ≤ 1000000) (h0 : w.cell? ⟨g, 0, none⟩ = some (.int .i64 s0)) (h1 : w.cell? ⟨g, 1, none⟩ = some (.int .i64 p0)) (hg : g < w.heap.size) :
    Calls Tryz.prog 140 #[.slice a n c, .func (.func 129) #[] #[.pointer (some ⟨g, 0, none⟩)]] w (RetAt w (againB zs n s0 p0)) := by
  have H := Lib.hid h; have H0 := Lib.hid h0; have H1 := Lib.hid h1; clear h h0 h1
  go_enter Tryz.func140, Tryz.ntmps140
  go_wp2_with fail
  go_loopw [8] (fun iv wr => ∃ k : Nat, k ≤ n ∧ iv = .int .i64 (k : Int) ∧ againB zs k s0 p0 = false ∧ Below w.heap.size w wr) (fun iv _ => n - (intOf iv).toNat)
  case atStart => exact ⟨0, Nat.zero_le _, rfl, rfl, Below.refl _ _⟩
  case round =>
    obtain ⟨k, hk, rfl, ho, hb⟩ := hrel
    have Ho := Lib.hid ho; have Hb := Lib.hid hb
    clear ho hb
    by_cases hkn : k < n
    · obtain ⟨b, off, rfl, hlt, x0, x1, x2⟩ := (H.out.go Hb.out).at3 hkn
      have hf : ∀ v, ((zs.getD (k * 3) 0 == s0) && (zs.getD (k * 3 + 1) 0 == p0)) = v → (fun k => (zs.getD (k * 3) 0 == s0) && (zs.getD (k * 3 + 1) 0 == p0)) k = v := fun v h => h
      have hnx := range_any_next Ho.out
      have Hnx := Lib.hid hnx; clear hnx
      have c0 := Lib.hid ((Hb.out.cell (p := ⟨g, 0, none⟩) hg).trans H0.out)
      have c1 := Lib.hid ((Hb.out.cell (p := ⟨g, 1, none⟩) hg).trans H1.out)
      cases hv : ((zs.getD (k * 3) 0 == s0) && (zs.getD (k * 3 + 1) 0 == p0))
      all_goals
        have Hv := Lib.hid hv; have Hf := Lib.hid (hf _ hv); clear hv hf
        generalize zs.getD (k * 3) 0 = y0 at *
        generalize zs.getD (k * 3 + 1) 0 = y1 at *
        generalize zs.getD (k * 3 + 2) 0 = y2 at *
        go_wp2_with ((with_reducible refine (lit_again y0 y1 y2 s0 p0 g _ c0.out c1.out (Nat.lt_of_lt_of_le hg Hb.out.size)).mono ?_); rintro e w2 ⟨he, hb2⟩; rw [Hv.out] at he; subst he)
      · go_roundw
        case rel => exact ⟨k + 1, by omega, by go_num, Hnx.out.trans Hv.out, below_chain Hb.out hb2⟩
        case measure => simp [intOf]; omega
      · go_ret
        refine ⟨(k : Int), rfl, ?_, below_chain Hb.out hb2⟩
        unfold againB
        rw [range_any_true hkn Hf.out]
        simp
    · obtain rfl : k = n := by omega
      go_wp2
      go_ret
      exact ⟨-1, rfl, by rw [Ho.out]; rfl, Hb.out⟩

set_option maxRecDepth 100000 in
theorem contains_again (zs : List Int) (a : Option Addr) (n c : Nat) (s0 p0 : Int) (g : Nat) (w : World) (h : IR w.heap.size w 3 a n c zs) (hn : n ≤ 1000000) (h0 : w.cell? ⟨g, 0, none⟩ = some (.int .i64 s0)) (h1 : w.cell? ⟨g, 1, none⟩ = some (.int .i64 p0)) (hg : g < w.heap.size) :
    Calls Tryz.prog 130 #[.slice a n c, .func (.func 129) #[] #[.pointer (some ⟨g, 0, none⟩)]] w (RetB w (.bool (againB zs n s0 p0))) := by
  have H0 := Lib.hid h0; have H1 := Lib.hid h1; clear h0 h1
  go_enter Tryz.func130, Tryz.ntmps130
  go_wp2_with fail
  refine (index_again zs a n c s0 p0 g _ h hn H0.out H1.out hg).mono ?_
  rintro e w2 ⟨r, rfl, hr, hb⟩
  by_cases hr0 : 0 ≤ r
  · rw [decide_eq_true hr0] at hr
    have Hr := Lib.hid hr; clear hr
    go_wp2
    go_ret
    exact ⟨by rw [← Hr.out]; rfl, hb⟩
  · rw [decide_eq_false hr0] at hr
    have Hr := Lib.hid hr; clear hr
    have h1 : decide (0 ≤ r) = false := decide_eq_false hr0
    go_wp2
    go_ret
    exact ⟨by rw [← Hr.out]; rfl, hb⟩

end Go.Proofs.YthommhfppeonpaaGreatDoor

namespace Go.Proofs.YthommhfppeonpaaGreatDoor
open Go.RowKit

def placesOf (k : Int) : List Int := if k = 1 then [1, 2, 5, 6, 7, 8, 10] else if k = 2 then [1, 2, 3, 4, 10] else if k = 3 then [11, 12, 13, 14, 15] else if k = 4 then [1, 10] else []

/-- the table lies as it was laid, below N -/
def Places (N : Nat) (w : World) : Prop :=
  ∃ r, w.cell? ⟨0, 0, none⟩ = some (.map (some r)) ∧ 0 < N ∧ r < N ∧ ∃ es clock, w.heap[r]? = some (.map es clock) ∧
    ∀ k : Int, 1 ≤ k → k ≤ 4 → ∃ i a n c, Instr.findNow (.int .i64) (.int .i64 k) es.toList 0 = some (some (i, .slice a n c)) ∧ IR N w 1 a n c (placesOf k)

theorem Places.below {N : Nat} {w w' : World} (h : Places N w) (hb : Below N w w') : Places N w' := by
  obtain ⟨r, h0, hN, hr, es, clock, h1, h2⟩ := h
  refine ⟨r, (hb.cell (p := ⟨0, 0, none⟩) hN).trans h0, hN, hr, es, clock, (hb.block r hr).trans h1, fun k hk hk2 => ?_⟩
  obtain ⟨i, a, n, c, h3, h4⟩ := h2 k hk hk2
  exact ⟨i, a, n, c, h3, h4.below hb (Nat.le_refl _)⟩
theorem Places.mono {N M : Nat} {w : World} (h : Places N w) (hM : N ≤ M) : Places M w := by
  obtain ⟨r, h0, hN, hr, es, clock, h1, h2⟩ := h
  refine ⟨r, h0, by omega, by omega, es, clock, h1, fun k hk hk2 => ?_⟩
  obtain ⟨i, a, n, c, h3, h4⟩ := h2 k hk hk2
  exact ⟨i, a, n, c, h3, h4.mono hM⟩
theorem Places.go {w w' : World} (h : Places w.heap.size w) (hb : Below w.heap.size w w') : Places w'.heap.size w' := (h.below hb).mono hb.size

theorem run_lookup_any {P : Program} {t kt e : TypeId} (ht : P.underlying t = some (.map kt e)) (hk : P.underlying kt = some (.int .i64)) {w : World} {r i : Nat} {k : Int} {v : Value} {es : Array MapEntry} {clock : Nat} (hr : w.heap[r]? = some (.map es clock)) (hf : Instr.findNow (.int .i64) (.int .i64 k) es.toList 0 = some (some (i, v))) :
    (Instr.lookup t (.map (some r)) (.int .i64 k) false).run P w = .ok v w := by
  have hc : ∀ b, (Instr.checkKey b 10000 kt (.int .i64 k)).run P w = .ok () w := fun b => by
    rw [show (10000 : Nat) = 9999 + 1 from rfl, Instr.checkKey, Sem.run_bind, run_underlying hk]
    rfl
  simp [Instr.lookup, Instr.findKey, Sem.run_bind, run_underlying ht, run_underlying hk, MapKept.run_getObj_map hr, hc, hf]

theorem IR.sl {N : Nat} {w : World} {a : Option Addr} {n c : Nat} {zs : List Int} (h : IR N w 1 a n c zs) : SL N w a n c zs :=
  ⟨by rw [h.1, Nat.mul_one], h.2.1, fun hn => by have := h.2.2 hn; rwa [Nat.mul_one] at this⟩

theorem any_takeI {f : Int → Bool} {zs : List Int} {k : Nat} (h : k < zs.length) (h0 : (zs.take k).any f = false) (v : Bool) (hv : f (zs.getD k 0) = v) : (zs.take (k + 1)).any f = v := (any_take h h0).trans hv

set_option maxRecDepth 100000 in
set_option maxHeartbeats 800000 in
theorem index_int (zs : List Int) (a : Option Addr) (n c : Nat) (v : Int) (w : World) (hs : SL w.heap.size w a n c zs) (hn : n ≤ 1000000) :
    Calls Tryz.prog 144 #[.slice a n c, .int .i64 v] w (RetAt w (zs.any fun z => v == z)) := by
  have hlen := hs.len
  have Hs := Lib.hid hs; have Hlen := Lib.hid hlen
  clear hs hlen
  go_enter Tryz.func144, Tryz.ntmps144
  go_wp2_with fail
  go_loopw [8] (fun iv wr => ∃ k : Nat, k ≤ n ∧ iv = .int .i64 (k : Int) ∧ ((zs.take k).any fun z => v == z) = false ∧ Below w.heap.size w wr) (fun iv _ => n - (intOf iv).toNat)
  case atStart => exact ⟨0, Nat.zero_le _, rfl, rfl, Below.refl _ _⟩
  case round =>
    obtain ⟨k, hk, rfl, ho, hb⟩ := hrel
    have Ho := Lib.hid ho; have Hb := Lib.hid hb
    clear ho hb
    by_cases hkn : k < n
    · obtain ⟨b, off, rfl, hlt, hc⟩ := (Hs.out.go Hb.out).at (by omega)
      have c0 := hc k hkn
      clear hc
      have hnx := any_takeI (f := fun z => v == z) (k := k) (by rw [← Hlen.out]; exact hkn) Ho.out
      have Hn := Lib.hid hnx; clear hnx
      cases hv : (v == zs.getD k 0)
      all_goals
        have Hv := Lib.hid (Hn.out _ hv)
        clear Hn
        generalize zs.getD k 0 = z at *
        go_wp2
      · go_roundw
        case rel => exact ⟨k + 1, by omega, by go_num, Hv.out, Hb.out⟩
        case measure => simp [intOf]; omega
      · go_ret
        refine ⟨(k : Int), rfl, ?_, Hb.out⟩
        rw [decide_eq_true (by omega)]
        symm
        obtain ⟨x, hx, hx2⟩ := List.any_eq_true.1 Hv.out
        exact List.any_eq_true.2 ⟨x, List.mem_of_mem_take hx, hx2⟩
    · obtain rfl : k = n := by omega
      go_wp2
      go_ret
      refine ⟨-1, rfl, ?_, Hb.out⟩
      have h1 := Ho.out
      rw [Hlen.out, List.take_length] at h1
      rw [h1]; rfl

set_option maxRecDepth 100000 in
theorem contains_int (zs : List Int) (a : Option Addr) (n c : Nat) (v : Int) (w : World) (hs : SL w.heap.size w a n c zs) (hn : n ≤ 1000000) :
    Calls Tryz.prog 139 #[.slice a n c, .int .i64 v] w (RetB w (.bool (zs.any fun z => v == z))) := by
  go_enter Tryz.func139, Tryz.ntmps139
  go_wp2_with fail
  refine (index_int zs a n c v _ hs hn).mono ?_
  rintro e w2 ⟨r, rfl, hr, hb⟩
  by_cases hr0 : 0 ≤ r
  · rw [decide_eq_true hr0] at hr
    have Hr := Lib.hid hr; clear hr
    go_wp2
    go_ret
    exact ⟨by rw [← Hr.out]; rfl, hb⟩
  · rw [decide_eq_false hr0] at hr
    have Hr := Lib.hid hr; clear hr
    have h1 : decide (0 ≤ r) = false := decide_eq_false hr0
    go_wp2
    go_ret
    exact ⟨by rw [← Hr.out]; rfl, hb⟩

theorem length_places (k : Int) : (placesOf k).length ≤ 7 := by unfold placesOf; split; decide; split; decide; split; decide; split <;> decide

set_option maxRecDepth 100000 in
theorem met_any (r : Nat) (k v : Int) (w : World) (hp : Places w.heap.size w) (hr : w.cell? ⟨0, 0, none⟩ = some (.map (some r))) (h1 : 1 ≤ k) (h4 : k ≤ 4) :
    Calls Tryz.prog 127 #[.map (some r), .int .i64 k, .int .i64 v] w (RetB w (.bool ((placesOf k).any fun z => v == z))) := by
  obtain ⟨r', h0, _, hlt, es, clock, hes, hk⟩ := hp
  rw [hr] at h0
  cases h0
  obtain ⟨i, a, n, c, hf, hi⟩ := hk k h1 h4
  have hl := run_lookup_any Tryz.underlying196 Tryz.underlying3 hes hf
  have hn : n ≤ 1000000 := by have := length_places k; have := hi.1; omega
  have Hi := Lib.hid hi.sl
  clear hes hk hf hi hr
  go_enter Tryz.func127, Tryz.ntmps127
  go_wp2_with ((with_reducible refine (contains_int (placesOf k) a n c v _ Hi.out hn).mono ?_); rintro e w2 ⟨he, hb⟩; subst he)
  go_ret
  exact ⟨rfl, hb⟩

/-- a valid surface has a parameter -/
def hasB (s : Surf) (p : Int) : Bool := if p = 16 ∨ p = 17 then !(s.order == 0) else (p == 9) || (placesOf s.kind).any fun z => p == z

set_option maxRecDepth 100000 in
set_option maxHeartbeats 1600000 in
theorem shas_any (s : Surf) (p : Int) (a : Option Addr) (n c : Nat) (w : World) (hp : Places w.heap.size w) (h1 : 1 ≤ s.kind) (h4 : s.kind ≤ 4) :
    Calls Tryz.prog 96 #[.agg #[.int .i64 s.kind, .int .i64 s.curv, .int .i64 s.conic, .int .i64 s.curvX, .int .i64 s.conicX, .int .i64 s.a0, .int .i64 s.a1, .int .i64 s.a2, .int .i64 s.a3, .int .i64 s.p0, .int .i64 s.p1, .int .i64 s.order, .int .i64 s.thick, .string s.glass, .int .i64 s.semi, .int .i64 s.hole, .int .i64 s.dx, .int .i64 s.dy, .int .i64 s.ax, .int .i64 s.ay, .int .i64 s.az, .slice a n c], .int .i64 p] w (RetB w (.bool (hasB s p))) := by
  have g1 := SurfB.new w s a n c
  have gb := (Below.refl w.heap.size w).alloc (Nat.le_refl _) (.cells #[.int .i64 s.kind, .int .i64 s.curv, .int .i64 s.conic, .int .i64 s.curvX, .int .i64 s.conicX, .int .i64 s.a0, .int .i64 s.a1, .int .i64 s.a2, .int .i64 s.a3, .int .i64 s.p0, .int .i64 s.p1, .int .i64 s.order, .int .i64 s.thick, .string s.glass, .int .i64 s.semi, .int .i64 s.hole, .int .i64 s.dx, .int .i64 s.dy, .int .i64 s.ax, .int .i64 s.ay, .int .i64 s.az, .slice a n c] 92)
  have G1 := Lib.hid g1; have Gb := Lib.hid gb; have Hp := Lib.hid (hp.go gb)
  clear g1 gb hp
  go_enter Tryz.func96, Tryz.ntmps96
  go_upto_region 1 with fail
  refine step_world (fun wx => SurfB wx w.heap.size s a n c ∧ Below w.heap.size w wx ∧ Places wx.heap.size wx) ⟨G1.out, Gb.out, Hp.out⟩ ?_
  clear G1 Gb Hp
  rintro w1 ⟨g1, hb, hp⟩
  obtain ⟨r, h0, _⟩ := id hp
  obtain ⟨k0, _, _, _, _, _, _, _, _, _, _, k11, _⟩ := g1.cells
  have Hb := Lib.hid hb; have Hp := Lib.hid hp; clear hb hp g1
  by_cases q1 : p = 16 ∨ p = 17
  · have hr : hasB s p = !(s.order == 0) := by unfold hasB; rw [if_pos q1]
    have Hr := Lib.hid hr; clear hr
    rcases q1 with rfl | rfl
    all_goals
      go_wp2
      go_ret
      exact ⟨by rw [Hr.out]; rfl, Hb.out⟩
  · have hr : hasB s p = ((p == 9) || (placesOf s.kind).any fun z => p == z) := by unfold hasB; rw [if_neg q1]
    have Hr := Lib.hid hr; clear hr
    have q2 : (p == 16) = false := by simp; omega
    have q3 : (p == 17) = false := by simp; omega
    have H0 := Lib.hid h0
    clear q1
    cases q : (p == 9)
    all_goals
      have Q := Lib.hid q
      go_wp2_with ((with_reducible refine (met_any r s.kind p _ Hp.out H0.out h1 h4).mono ?_); rintro e w2 ⟨he, hb2⟩; subst he; have Hb2 := Lib.hid hb2; clear hb2)
      go_ret
      rw [Hr.out, Q.out]
    · exact ⟨rfl, below_chain Hb.out Hb2.out⟩
    · exact ⟨rfl, Hb.out⟩

end Go.Proofs.YthommhfppeonpaaGreatDoor

namespace Go.Proofs.YthommhfppeonpaaGreatDoor
open Go.RowKit

def Surf.get (s : Surf) (p : Int) : Int := if p = 1 then s.curv else if p = 2 then s.conic else if p = 3 then s.curvX else if p = 4 then s.conicX else if p = 5 then s.a0 else if p = 6 then s.a1 else if p = 7 then s.a2 else if p = 8 then s.a3 else if p = 9 then s.thick else if p = 10 then s.semi else if p = 11 then s.dx else if p = 12 then s.dy else if p = 13 then s.ax else if p = 14 then s.ay else if p = 15 then s.az else if p = 16 then s.p0 else if p = 17 then s.p1 else 0
def Surf.put (s : Surf) (p v : Int) : Surf := if p = 1 then { s with curv := v } else if p = 2 then { s with conic := v } else if p = 3 then { s with curvX := v } else if p = 4 then { s with conicX := v } else if p = 5 then { s with a0 := v } else if p = 6 then { s with a1 := v } else if p = 7 then { s with a2 := v } else if p = 8 then { s with a3 := v } else if p = 9 then { s with thick := v } else if p = 10 then { s with semi := v } else if p = 11 then { s with dx := v } else if p = 12 then { s with dy := v } else if p = 13 then { s with ax := v } else if p = 14 then { s with ay := v } else if p = 15 then { s with az := v } else if p = 16 then { s with p0 := v } else if p = 17 then { s with p1 := v } else s
def placeOff (p : Int) : Nat := if p = 1 then 1 else if p = 2 then 2 else if p = 3 then 3 else if p = 4 then 4 else if p = 5 then 5 else if p = 6 then 6 else if p = 7 then 7 else if p = 8 then 8 else if p = 9 then 12 else if p = 10 then 14 else if p = 11 then 16 else if p = 12 then 17 else if p = 13 then 18 else if p = 14 then 19 else if p = 15 then 20 else if p = 16 then 9 else if p = 17 then 10 else 0

theorem ways17 {p : Int} (h1 : 1 ≤ p) (h2 : p ≤ 17) : p = 1 ∨ p = 2 ∨ p = 3 ∨ p = 4 ∨ p = 5 ∨ p = 6 ∨ p = 7 ∨ p = 8 ∨ p = 9 ∨ p = 10 ∨ p = 11 ∨ p = 12 ∨ p = 13 ∨ p = 14 ∨ p = 15 ∨ p = 16 ∨ p = 17 := by omega

theorem SurfB.put {w : World} {g : Nat} {s : Surf} {a : Option Addr} {n c : Nat} (h : SurfB w g s a n c) {p : Int} (h1 : 1 ≤ p) (h2 : p ≤ 17) (v : Int) : SurfB (w.setCell ⟨g, placeOff p, none⟩ (.int .i64 v)) g (s.put p v) a n c := by
  have k := obj_setCell h (placeOff p) (.int .i64 v)
  unfold SurfB
  rw [k]
  rcases ways17 h1 h2 with rfl | rfl | rfl | rfl | rfl | rfl | rfl | rfl | rfl | rfl | rfl | rfl | rfl | rfl | rfl | rfl | rfl <;> rfl
theorem SurfB.getP {w : World} {g : Nat} {s : Surf} {a : Option Addr} {n c : Nat} (h : SurfB w g s a n c) {p : Int} (h1 : 1 ≤ p) (h2 : p ≤ 17) : w.cell? ⟨g, placeOff p, none⟩ = some (.int .i64 (s.get p)) := by
  obtain ⟨k0, k1, k2, k3, k4, k5, k6, k7, k8, k9, k10, k11, k12, k13, k14, k15, k16, k17, k18, k19, k20, k21⟩ := h.cells
  rcases ways17 h1 h2 with rfl | rfl | rfl | rfl | rfl | rfl | rfl | rfl | rfl | rfl | rfl | rfl | rfl | rfl | rfl | rfl | rfl <;> assumption

theorem hasB_range {s : Surf} {p : Int} (h : hasB s p = true) : 1 ≤ p ∧ p ≤ 17 := by
  unfold hasB placesOf at h
  repeat' split at h
  all_goals simp at h; omega

theorem okS_kind {s : Surf} {zs : List Int} {n : Nat} (h : okS s zs n = true) : 1 ≤ s.kind ∧ s.kind ≤ 4 := by
  have h1 : tests s zs n = true := by unfold okS at h; simp at h; exact h.1
  have h2 := List.all_eq_true.1 h1 0 (by simp)
  unfold testN test1 at h2
  simp [outB] at h2
  omega

def missI (s : Surf) (zs : List Int) (n : Nat) (p : Int) : Int := if okS s zs n = true then (if hasB s p = true then 0 else 2) else 110

set_option maxRecDepth 100000 in
set_option maxHeartbeats 1600000 in
theorem missing_any (s : Surf) (zs : List Int) (p : Int) (a : Option Addr) (n c : Nat) (w : World) (hz : IR w.heap.size w 3 a n c zs) (hn : n ≤ 1000000) (hg : s.glass.size ≤ 9223372036854775807) (hp : Places w.heap.size w) :
    Calls Tryz.prog 64 #[.agg #[.int .i64 s.kind, .int .i64 s.curv, .int .i64 s.conic, .int .i64 s.curvX, .int .i64 s.conicX, .int .i64 s.a0, .int .i64 s.a1, .int .i64 s.a2, .int .i64 s.a3, .int .i64 s.p0, .int .i64 s.p1, .int .i64 s.order, .int .i64 s.thick, .string s.glass, .int .i64 s.semi, .int .i64 s.hole, .int .i64 s.dx, .int .i64 s.dy, .int .i64 s.ax, .int .i64 s.ay, .int .i64 s.az, .slice a n c], .int .i64 p] w (RetB w (.int .i64 (missI s zs n p))) := by
  have h1 := SurfB.new w s a n c
  have hb1 := (Below.refl w.heap.size w).alloc (Nat.le_refl _) (.cells #[.int .i64 s.kind, .int .i64 s.curv, .int .i64 s.conic, .int .i64 s.curvX, .int .i64 s.conicX, .int .i64 s.a0, .int .i64 s.a1, .int .i64 s.a2, .int .i64 s.a3, .int .i64 s.p0, .int .i64 s.p1, .int .i64 s.order, .int .i64 s.thick, .string s.glass, .int .i64 s.semi, .int .i64 s.hole, .int .i64 s.dx, .int .i64 s.dy, .int .i64 s.ax, .int .i64 s.ay, .int .i64 s.az, .slice a n c] 92)
  have H1 := Lib.hid h1; have Hz := Lib.hid (hz.go hb1); have Hp := Lib.hid (hp.go hb1); have Hb1 := Lib.hid hb1
  clear h1 hz hp hb1
  go_enter Tryz.func64, Tryz.ntmps64
  cases ho : okS s zs n with
  | false =>
    have Ho := Lib.hid ho; clear ho
    go_wp2_with (first
      | (refine wpL_load_surf H1.out rfl (.tmp 2) rfl rfl ?_)
      | ((with_reducible refine (scheck_any s zs a n c _ Hz.out hn hg).mono ?_); rintro e w2 ⟨he, hb⟩; rw [Ho.out] at he; unfold err at he; simp only [if_false, Bool.false_eq_true] at he; subst he))
    go_ret
    exact ⟨by (unfold missI; rw [if_neg (by rw [Ho.out]; simp)]; rfl), below_chain Hb1.out hb⟩
  | true =>
    obtain ⟨q1, q4⟩ := okS_kind ho
    have Ho := Lib.hid ho; clear ho
    cases hh : hasB s p
    all_goals
      have Hh := Lib.hid hh; clear hh
      go_wp2_with (first
        | (refine wpL_load_surf H1.out rfl (.tmp 2) rfl rfl ?_)
        | (refine wpL_load_surf (SurfB.go H1.out Hb2.out (by simp)) rfl (.tmp 2) rfl rfl ?_)
        | ((with_reducible refine (scheck_any s zs a n c _ Hz.out hn hg).mono ?_); rintro e w2 ⟨he, hb⟩; rw [Ho.out] at he; unfold err at he; simp only [if_true] at he; subst he; have Hb2 := Lib.hid hb; clear hb)
        | ((with_reducible refine (shas_any s p a n c _ (Hp.out.go Hb2.out) q1 q4).mono ?_); rintro e w3 ⟨he, hb⟩; rw [Hh.out] at he; subst he; have Hb3 := Lib.hid hb; clear hb))
      go_ret
      refine ⟨?_, below_chain Hb1.out (below_chain Hb2.out Hb3.out)⟩
      unfold missI
      rw [if_pos Ho.out, Hh.out]
      rfl

def hasC (s : Surf) (zs : List Int) (n : Nat) (p : Int) : Bool := okS s zs n && hasB s p

set_option maxRecDepth 100000 in
set_option maxHeartbeats 1600000 in
theorem sHas_any (s : Surf) (zs : List Int) (p : Int) (a : Option Addr) (n c : Nat) (w : World) (hz : IR w.heap.size w 3 a n c zs) (hn : n ≤ 1000000) (hg : s.glass.size ≤ 9223372036854775807) (hp : Places w.heap.size w) :
    Calls Tryz.prog 63 #[.agg #[.int .i64 s.kind, .int .i64 s.curv, .int .i64 s.conic, .int .i64 s.curvX, .int .i64 s.conicX, .int .i64 s.a0, .int .i64 s.a1, .int .i64 s.a2, .int .i64 s.a3, .int .i64 s.p0, .int .i64 s.p1, .int .i64 s.order, .int .i64 s.thick, .string s.glass, .int .i64 s.semi, .int .i64 s.hole, .int .i64 s.dx, .int .i64 s.dy, .int .i64 s.ax, .int .i64 s.ay, .int .i64 s.az, .slice a n c], .int .i64 p] w (RetB w (.bool (hasC s zs n p))) := by
  have h1 := SurfB.new w s a n c
  have hb1 := (Below.refl w.heap.size w).alloc (Nat.le_refl _) (.cells #[.int .i64 s.kind, .int .i64 s.curv, .int .i64 s.conic, .int .i64 s.curvX, .int .i64 s.conicX, .int .i64 s.a0, .int .i64 s.a1, .int .i64 s.a2, .int .i64 s.a3, .int .i64 s.p0, .int .i64 s.p1, .int .i64 s.order, .int .i64 s.thick, .string s.glass, .int .i64 s.semi, .int .i64 s.hole, .int .i64 s.dx, .int .i64 s.dy, .int .i64 s.ax, .int .i64 s.ay, .int .i64 s.az, .slice a n c] 92)
  have H1 := Lib.hid h1; have Hz := Lib.hid (hz.go hb1); have Hp := Lib.hid (hp.go hb1); have Hb1 := Lib.hid hb1
  clear h1 hz hp hb1
  go_enter Tryz.func63, Tryz.ntmps63
  cases ho : okS s zs n with
  | false =>
    have Ho := Lib.hid ho; clear ho
    go_wp2_with (first
      | (refine wpL_load_surf H1.out rfl (.tmp 2) rfl rfl ?_)
      | ((with_reducible refine (scheck_any s zs a n c _ Hz.out hn hg).mono ?_); rintro e w2 ⟨he, hb⟩; rw [Ho.out] at he; unfold err at he; simp only [if_false, Bool.false_eq_true] at he; subst he))
    go_ret
    exact ⟨by unfold hasC; rw [Ho.out]; rfl, below_chain Hb1.out hb⟩
  | true =>
    obtain ⟨q1, q4⟩ := okS_kind ho
    have Ho := Lib.hid ho; clear ho
    cases hh : hasB s p
    all_goals
      have Hh := Lib.hid hh; clear hh
      go_wp2_with (first
        | (refine wpL_load_surf H1.out rfl (.tmp 2) rfl rfl ?_)
        | (refine wpL_load_surfG (SurfB.go H1.out Hb2.out (by simp)) (by rfl) (.tmp 2) rfl rfl ?_)
        | ((with_reducible refine (scheck_any s zs a n c _ Hz.out hn hg).mono ?_); rintro e w2 ⟨he, hb⟩; rw [Ho.out] at he; unfold err at he; simp only [if_true] at he; subst he; have Hb2 := Lib.hid hb; clear hb)
        | ((with_reducible refine (shas_any s p a n c _ (Hp.out.go Hb2.out) q1 q4).mono ?_); rintro e w3 ⟨he, hb⟩; rw [Hh.out] at he; subst he; have Hb3 := Lib.hid hb; clear hb))
      go_ret
      refine ⟨?_, below_chain Hb1.out (below_chain Hb2.out Hb3.out)⟩
      unfold hasC
      rw [Ho.out, Hh.out]
      rfl

end Go.Proofs.YthommhfppeonpaaGreatDoor

namespace Go.Proofs.YthommhfppeonpaaGreatDoor
open Go.RowKit

set_option maxRecDepth 100000 in
set_option maxHeartbeats 3200000 in
theorem rsameConf_eq (l : List ConfC) (a b : Option Addr) (n c d : Nat) (w : World) (h1 : RR ConfR 2 (fun b => b < w.heap.size) w a n c l) (h2 : RR ConfR 2 (fun b => b < w.heap.size) w b n d l) (hn : n ≤ 1000000) :
    Calls Tryz.prog 30 #[.slice a n c, .slice b n d] w (RetB w (.bool true)) := by
  have H1 := Lib.hid h1; have H2 := Lib.hid h2; clear h1 h2
  go_enter Tryz.func30, Tryz.ntmps30
  go_wp2_with fail
  go_loopw [5] (fun iv wr => ∃ k : Nat, k ≤ n ∧ iv = .int .i64 (k : Int) ∧ Below w.heap.size w wr) (fun iv _ => n - (intOf iv).toNat)
  case atStart => exact ⟨0, Nat.zero_le _, rfl, Below.refl _ _⟩
  case round =>
    obtain ⟨k, hk, rfl, hb⟩ := hrel
    have Hb := Lib.hid hb; clear hb
    by_cases hkn : k < n
    · obtain ⟨b1, o1, y, cs, rfl, l1, hy, ⟨a2, n2, c2, rfl, hz2, hn2, -, hg2⟩, hr⟩ := (H1.out.go confOk Hb.out).at hkn
      obtain ⟨b2, o2, y', cs', rfl, l2, hy', ⟨a3, n3, c3, rfl, hz3, hn3, -, -⟩, hr'⟩ := (H2.out.go confOk Hb.out).at hkn
      rw [hy] at hy'
      cases hy'
      obtain rfl : n2 = n3 := by rw [coat_n hz2, coat_n hz3]
      have x0 := hr 0 _ rfl; have x1 := hr 1 _ rfl; have z0 := hr' 0 _ rfl; have z1 := hr' 1 _ rfl
      rw [Nat.add_zero] at x0 z0
      have Hz2 := Lib.hid (hz2.ir (fun _ h => h)); have Hz3 := Lib.hid (hz3.ir (fun _ h => h))
      have X1 := Lib.hid x1; have Z1 := Lib.hid z1
      clear hr hr' hz2 hz3 hy
      go_wp2_with fail
      go_quiet (fail)
      go_wp2_with fail
      go_loopw [6] (fun iv wq => ∃ j : Nat, j ≤ n2 ∧ iv = .int .i64 (j : Int) ∧ Below wr.heap.size wr wq) (fun iv _ => n2 - (intOf iv).toNat)
      case atStart => exact ⟨0, Nat.zero_le _, rfl, below_drewN (Below.refl _ _) _⟩
      case round =>
        obtain ⟨j, hj, rfl, hb2⟩ := hrel
        have Hb2 := Lib.hid hb2; clear hb2 x0 x1 z0 z1
        have x1 := (Hb2.out.cell (p := ⟨b1, o1 + k * 2 + 1, none⟩) l1).trans X1.out
        have z1 := (Hb2.out.cell (p := ⟨b2, o2 + k * 2 + 1, none⟩) l2).trans Z1.out
        by_cases hjn : j < n2
        · obtain ⟨b3, o3, rfl, l3, p0, p1, p2⟩ := (Hz2.out.go Hb2.out).at3 hjn
          obtain ⟨b4, o4, rfl, l4, q0, q1, q2⟩ := (Hz3.out.go Hb2.out).at3 hjn
          generalize y.zs.getD (j * 3) 0 = v0 at *
          generalize y.zs.getD (j * 3 + 1) 0 = v1 at *
          generalize y.zs.getD (j * 3 + 2) 0 = v2 at *
          go_wp2_with fail
          go_quiet (fail)
          go_wp2_with fail
          go_roundw
          case rel => exact ⟨j + 1, by omega, by go_num, below_drewN Hb2.out _⟩
          case measure => simp [intOf]; omega
        · obtain rfl : j = n2 := by omega
          go_wp2
          go_roundw
          case rel => exact ⟨k + 1, by omega, by go_num, below_chain Hb.out Hb2.out⟩
          case measure => simp [intOf]; omega
    · obtain rfl : k = n := by omega
      go_wp2
      go_ret
      exact ⟨rfl, Hb.out⟩

end Go.Proofs.YthommhfppeonpaaGreatDoor

namespace Go.Proofs.YthommhfppeonpaaGreatDoor
open Go.RowKit

theorem small_eq (s : Surf) (_zs : List Int) (n : Nat) : (smallA s && smallC s n) = (test2 s && test3 s && test4 s && test5 s && test6 s && decide (n ≤ 8)) := by
  cases h6 : test6 s
  · unfold smallC; rw [h6]; simp
  · unfold smallC; rw [h6]
    rw [Bool.eq_iff_iff]
    unfold smallA test2 test3 test4 test5
    simp only [outB, List.any_cons, List.any_nil, Bool.or_false, Bool.and_eq_true, Bool.not_eq_true', Bool.or_eq_false_iff, decide_eq_false_iff_not, decide_eq_true_eq, Bool.or_eq_true, Bool.and_true]
    omega

theorem isEmpty_eq (g : ByteArray) : g.toList.isEmpty = true ↔ g = emptyS := by
  constructor
  · intro h
    have h1 : g.toList = [] := by simpa using h
    have : g.data.toList = [] := by rw [ByteArray.toList_eq] at h1; exact h1
    cases g with
    | mk d =>
      have : d = #[] := by apply Array.ext'; simpa using this
      subst this; rfl
  · intro h; subst h; rw [ByteArray.toList_eq]; rfl

theorem kind_eq (s : Surf) (zs : List Int) (n : Nat) (hz : zs.length = n * 3) : kindB s n = test1 s zs := by
  have hn : zs = [] ↔ n = 0 := by
    constructor
    · intro h; subst h; simp at hz; omega
    · intro h; subst h; exact List.length_eq_zero_iff.1 (by rw [hz])
  have hg := isEmpty_eq s.glass
  obtain ⟨kind, curv, conic, curvX, conicX, a0, a1, a2, a3, p0, p1, order, thick, glass, semi, hole, dx, dy, ax, ay, az⟩ := s
  rw [Bool.eq_iff_iff]
  unfold test1 kindB plainX plainP straightB bareB keptS
  simp only at hg ⊢
  by_cases h1 : kind = 1
  · subst h1
    cases hm : isMirror glass <;> by_cases ho : order = 0
    all_goals
      simp [outB, ho, Surf.mk.injEq]
    all_goals try omega
  · by_cases h2 : kind = 2
    · subst h2
      simp [outB, Surf.mk.injEq]
      omega
    · by_cases h3 : kind = 3
      · subst h3
        simp [outB, Surf.mk.injEq, hn] at hg ⊢
        rw [hg]
        constructor <;> intro h <;> simp_all
      · by_cases h4 : kind = 4
        · subst h4
          simp [outB, Surf.mk.injEq, hn] at hg ⊢
          rw [hg]
          constructor <;> intro h <;> simp_all
        · simp [h1, h2, h3, h4, outB]
          omega

theorem tests_eq (s : Surf) (zs : List Int) (n : Nat) : tests s zs n = (test1 s zs && (test2 s && (test3 s && (test4 s && (test5 s && (test6 s && (decide (n ≤ 8) && true))))))) := rfl

/-- the reference's valid surfaces are the program's -/
theorem right_eq (s : Surf) (zs : List Int) (n : Nat) (hz : zs.length = n * 3) : rightB s zs n = okS s zs n := by
  have h := small_eq s zs n
  unfold rightB smallB' okS
  rw [tests_eq, kind_eq s zs n hz]
  rw [Bool.eq_iff_iff] at h ⊢
  simp only [Bool.and_eq_true] at h ⊢
  constructor
  · rintro ⟨⟨⟨a, f⟩, c⟩, t⟩
    obtain ⟨⟨⟨⟨⟨h2, h3⟩, h4⟩, h5⟩, h6⟩, h7⟩ := h.1 ⟨a, c⟩
    exact ⟨⟨t, h2, h3, h4, h5, h6, h7, trivial⟩, f⟩
  · rintro ⟨⟨t, h2, h3, h4, h5, h6, h7, _⟩, f⟩
    obtain ⟨a, c⟩ := h.2 ⟨⟨⟨⟨⟨h2, h3⟩, h4⟩, h5⟩, h6⟩, h7⟩
    exact ⟨⟨⟨a, f⟩, c⟩, t⟩

theorem right_ok (s : Surf) (zs : List Int) (a : Option Addr) (n c : Nat) (w : World) (hz : IR w.heap.size w 3 a n c zs) (hn : n ≤ 1000000) (hg : s.glass.size ≤ 9223372036854775807) :
    Calls Tryz.prog 113 #[.agg #[.int .i64 s.kind, .int .i64 s.curv, .int .i64 s.conic, .int .i64 s.curvX, .int .i64 s.conicX, .int .i64 s.a0, .int .i64 s.a1, .int .i64 s.a2, .int .i64 s.a3, .int .i64 s.p0, .int .i64 s.p1, .int .i64 s.order, .int .i64 s.thick, .string s.glass, .int .i64 s.semi, .int .i64 s.hole, .int .i64 s.dx, .int .i64 s.dy, .int .i64 s.ax, .int .i64 s.ay, .int .i64 s.az, .slice a n c]] w (RetB w (.bool (okS s zs n))) := by
  rw [← right_eq s zs n hz.1]
  exact right_any s zs a n c w hz hn hg

end Go.Proofs.YthommhfppeonpaaGreatDoor

namespace Go.Proofs.YthommhfppeonpaaGreatDoor
open Go.RowKit

def glassN : Nat → ByteArray
  | 0 => emptyS
  | 1 => ⟨#[66, 75, 55]⟩
  | 2 => ⟨#[83, 70, 45, 49]⟩
  | 3 => ⟨#[77, 73, 82, 82, 79, 82]⟩
  | _ => ⟨#[102, 95, 50]⟩

theorem glass_ok (k : Nat) (hk : k < 5) : ((glassN k).toList.isEmpty || nameB (glassN k)) = true := by
  match k, hk with
  | 0, _ => rw [(isEmpty_eq (glassN 0)).2 rfl]; rfl
  | 1, _ => rw [show nameB (glassN 1) = true by decide +kernel]; simp
  | 2, _ => rw [show nameB (glassN 2) = true by decide +kernel]; simp
  | 3, _ => rw [show nameB (glassN 3) = true by decide +kernel]; simp
  | 4, _ => rw [show nameB (glassN 4) = true by decide +kernel]; simp
theorem glass_size (k : Nat) : (glassN k).size ≤ 9223372036854775807 := by
  match k with
  | 0 => decide
  | 1 => decide
  | 2 => decide
  | 3 => decide
  | k + 4 => show (ByteArray.mk #[102, 95, 50]).size ≤ _; decide

/-- the numbers of a surface are small -/
structure NumIn (s : Surf) : Prop where
  curv : -1000000000 ≤ s.curv ∧ s.curv ≤ 1000000000
  curvX : -1000000000 ≤ s.curvX ∧ s.curvX ≤ 1000000000
  conic : -100000000 ≤ s.conic ∧ s.conic ≤ 100000000
  conicX : -100000000 ≤ s.conicX ∧ s.conicX ≤ 100000000
  a0 : -1000000000 ≤ s.a0 ∧ s.a0 ≤ 1000000000
  a1 : -1000000000 ≤ s.a1 ∧ s.a1 ≤ 1000000000
  a2 : -1000000000 ≤ s.a2 ∧ s.a2 ≤ 1000000000
  a3 : -1000000000 ≤ s.a3 ∧ s.a3 ≤ 1000000000
  p0 : -1000000000 ≤ s.p0 ∧ s.p0 ≤ 1000000000
  p1 : -1000000000 ≤ s.p1 ∧ s.p1 ≤ 1000000000
  order : -3 ≤ s.order ∧ s.order ≤ 3
  thick : -1000000000 ≤ s.thick ∧ s.thick ≤ 1000000000
  semi : 0 ≤ s.semi ∧ s.semi ≤ 1000000000
  hole : 0 ≤ s.hole ∧ s.hole ≤ 1000000000 ∧ (s.semi = 0 ∨ s.hole < s.semi)
  dx : -1000000000 ≤ s.dx ∧ s.dx ≤ 1000000000
  dy : -1000000000 ≤ s.dy ∧ s.dy ≤ 1000000000
  ax : -90000000 ≤ s.ax ∧ s.ax ≤ 90000000
  ay : -90000000 ≤ s.ay ∧ s.ay ≤ 90000000
  az : -90000000 ≤ s.az ∧ s.az ≤ 90000000
  glass : (s.glass.toList.isEmpty || nameB s.glass) = true

theorem out_in {lo hi z : Int} (h : lo ≤ z ∧ z ≤ hi) : outB lo hi [z] = false := by simp [outB]; omega
theorem ok_of {s : Surf} {zs : List Int} {n : Nat} (hz : zs.length = n * 3) (hn : n ≤ 8) (hf : (List.range n).all (filmB zs) = true) (h : NumIn s) (hk : kindB s n = true) : okS s zs n = true := by
  rw [← right_eq s zs n hz]
  unfold rightB smallB'
  have hA : smallA s = true := by
    unfold smallA
    rw [out_cons _ _ s.a0, out_cons _ _ s.a1, out_cons _ _ s.a2, out_in h.a0, out_in h.a1, out_in h.a2, out_in h.a3]; rfl
  have hC : smallC s n = true := by
    unfold smallC test6
    rw [out_in h.curv, out_in h.curvX, out_in h.conic, out_in h.conicX, out_in h.p0, out_in h.p1, out_in h.thick, out_in h.dx, out_in h.dy, out_in h.ax, out_in h.ay, out_in h.az, h.glass]
    have h1 := h.semi; have h2 := h.hole; have h3 := h.order
    simp
    omega
  rw [hA, hf, hC, hk]; rfl

def surf0 : Surf := ⟨0, 0, 0, 0, 0, 0, 0, 0, 0, 0, 0, 0, 0, emptyS, 0, 0, 0, 0, 0, 0, 0⟩

theorem Tryz.infoDrS : (Tryz.prog.info? 126).map (·.size) = some 22 := by kernel_rfl
theorem wpL_load_drs {ops : Array Oper} {rest : List Oper} {op : Oper} {ac : Act} {w : World} {Q : Exit → Act → World → Prop} {b o : Nat} {x : DrS} {a : Option Addr} {n c : Nat} (h : w.rangeAt b o (cellsDS x a n c)) (hgd : op.guard = none) (y : Operand) (ho : op.op = .load 126 y)
    (hx : ac.eval y = .pointer (some ⟨b, o, none⟩)) (hk : wpList Tryz.prog ops Q rest (ac.put op.dst (drsV x a n c)) w) : wpList Tryz.prog ops Q (op :: rest) ac w :=
  wpList_load_mid hgd 126 y ho b o hx (cellsDS x a n c) _ h Tryz.underlying126 rfl Tryz.infoDrS hk

theorem glasses_any (w : World) : Calls Tryz.prog 81 #[] w (fun e w' => e = .returned (.slice (some ⟨w.heap.size, 0, none⟩) 5 5) ∧ (∀ k, k < 5 → w'.cell? ⟨w.heap.size, k, none⟩ = some (.string (glassN k))) ∧ w.heap.size < w'.heap.size ∧ Below w.heap.size w w') := by
  go_enter Tryz.func81, Tryz.ntmps81
  go_wp2
  go_ret
  refine ⟨rfl, fun k hk => ?_, by simp, below_al (Below.refl _ _)⟩
  rw [World.cell?_alloc_at _ _ _ _ rfl]
  match k, hk with
  | 0, _ => rfl
  | 1, _ => rfl
  | 2, _ => rfl
  | 3, _ => rfl
  | 4, _ => rfl

structure DSt (w : World) (x : DrS) (a : Option Addr) (n c : Nat) (g : Nat) (s : Surf) (zs : List Int) (ca : Option Addr) (cn cc : Nat) (wx : World) : Prop where
  d : DrSB wx w.heap.size x a n c
  z : wx.heap[w.heap.size + 1]? = some (.cells #[.int .i64 0, .int .i64 0, .int .i64 0, .int .i64 0, .int .i64 0, .int .i64 0, .int .i64 0, .int .i64 0, .int .i64 0, .int .i64 0, .int .i64 0, .int .i64 0, .int .i64 0, .string emptyS, .int .i64 0, .int .i64 0, .int .i64 0, .int .i64 0, .int .i64 0, .int .i64 0, .int .i64 0, .slice none 0 0] 92 (0, 0))
  s : SurfB wx g s ca cn cc
  gt : w.heap.size + 1 < g
  b : Below w.heap.size w wx
  f : IRp (fun b => w.heap.size ≤ b ∧ b < wx.heap.size ∧ b ≠ w.heap.size + 1 ∧ b ≠ g) wx 3 ca cn cc zs
  cc : ca = none → cc = 0

theorem DSt.set {w : World} {x : DrS} {a : Option Addr} {n c : Nat} {g : Nat} {s : Surf} {zs : List Int} {ca : Option Addr} {cn cc : Nat} {wx : World} (h : DSt w x a n c g s zs ca cn cc wx) (i : Nat) (v : Value) (s' : Surf) (hs : SurfB (wx.setCell ⟨g, i, none⟩ v) g s' ca cn cc) :
    DSt w x a n c g s' zs ca cn cc (wx.setCell ⟨g, i, none⟩ v) := by
  have hk : KeptOn (fun b => b ≠ g) wx (wx.setCell ⟨g, i, none⟩ v) := keptOn_setCells g [v] i wx
  have hz : (wx.setCell ⟨g, i, none⟩ v).heap.size = wx.heap.size := size_setCells g [v] i wx
  have hg := h.gt
  exact ⟨(hk _ (by omega)).trans h.d, (hk _ (by omega)).trans h.z, hs, h.gt, h.b.setCell (p := ⟨g, i, none⟩) (by show w.heap.size ≤ g; omega) v, h.f.kept (hk.mono (fun b h => h.2.2.2)) (fun b hb => by rw [hz]; exact hb), h.cc⟩

/-- a new coating, behind a call that made it -/
theorem DSt.coat {w : World} {x : DrS} {a : Option Addr} {n c : Nat} {g : Nat} {s : Surf} {zs zs' : List Int} {ca ca' : Option Addr} {cn cc cn' cc' : Nat} {wx wy : World} (h : DSt w x a n c g s zs ca cn cc wx) (hb : Below wx.heap.size wx wy)
    (hf : IRp (fun b => wx.heap.size ≤ b ∧ b < wy.heap.size) wy 3 ca' cn' cc' zs') (hc : ca' = none → cc' = 0) : DSt w x a n c g s zs' ca' cn' cc' (wy.setCell ⟨g, 21, none⟩ (.slice ca' cn' cc')) := by
  have hk : KeptOn (fun b => b ≠ g) wy (wy.setCell ⟨g, 21, none⟩ (.slice ca' cn' cc')) := keptOn_setCells g [.slice ca' cn' cc'] 21 wy
  have hz : (wy.setCell ⟨g, 21, none⟩ (.slice ca' cn' cc')).heap.size = wy.heap.size := size_setCells g [.slice ca' cn' cc'] 21 wy
  have hg := h.gt
  have hgl := h.s.lt
  have hzl := lt_of_block h.z
  have hdl := lt_of_block h.d
  refine ⟨(hk _ (by omega)).trans (h.d.go hb), (hk _ (by omega)).trans ((hb.block _ hzl).trans h.z), SurfB.coat (h.s.go hb hgl) _ _ _, h.gt, (below_chain h.b hb).setCell (p := ⟨g, 21, none⟩) (by show w.heap.size ≤ g; omega) _, hf.kept (hk.mono (fun b h => by have := h.1; omega)) (fun b hq => ?_), hc⟩
  rw [hz]
  have := hq.1
  exact ⟨by omega, hq.2, by omega, by omega⟩

/-- the whole surface anew -/
theorem DSt.put {w : World} {x : DrS} {a : Option Addr} {n c : Nat} {g : Nat} {s : Surf} {zs : List Int} {ca : Option Addr} {cn cc : Nat} {wx : World} (h : DSt w x a n c g s zs ca cn cc wx) (s' : Surf) : DSt w x a n c g s' [] none 0 0 (W22 wx g s' none 0 0) := by
  have hk : KeptOn (fun b => b ≠ g) wx (W22 wx g s' none 0 0) := keptOn_setCells g (cells22 s' none 0 0) 0 wx
  have hg := h.gt
  exact ⟨(hk _ (by omega)).trans h.d, (hk _ (by omega)).trans h.z, SurfB.stored h.s rfl _ _ _ _, h.gt, Below.put22 h.b (by omega) _ _ _ _, IRp.nil _ _ _ _ _, fun _ => rfl⟩

theorem odd4 {z : Int} (h : z.tmod 2 ≠ 0) : z.tmod 4 ≠ 0 := fun e => h (Int.tmod_eq_zero_of_dvd (Int.dvd_trans (by decide : (2 : Int) ∣ 4) (Int.dvd_of_tmod_eq_zero e)))

/-- the surface with its first coefficients -/
def sA (x : DrS) (s : Surf) : Nat → Surf
  | 0 => s
  | 1 => { s with a0 := 1000 * x.h0 }
  | 2 => { s with a0 := 1000 * x.h0, a1 := 1000 * x.h1 }
  | 3 => { s with a0 := 1000 * x.h0, a1 := 1000 * x.h1, a2 := 1000 * x.h2 }
  | _ => { s with a0 := 1000 * x.h0, a1 := 1000 * x.h1, a2 := 1000 * x.h2, a3 := 1000 * x.h3 }

/-- the surface that the others start from -/
def surfD (x : DrS) (mk mt : Int) (g : Nat) : Surf := { surf0 with kind := 1, curv := 1000 * x.c0, conic := 1000 * mk, thick := 1000 * mt, glass := glassN g, semi := 100000 * x.semi }

/-- all ranges at once -/
theorem DrS.In.all {x : DrS} (h : x.In) : (-32768 ≤ x.c0 ∧ x.c0 ≤ 32767 ∧ -32768 ≤ x.c1 ∧ x.c1 ≤ 32767) ∧ (-128 ≤ x.h0 ∧ x.h0 ≤ 127 ∧ -128 ≤ x.h1 ∧ x.h1 ≤ 127 ∧ -128 ≤ x.h2 ∧ x.h2 ≤ 127 ∧ -128 ≤ x.h3 ∧ x.h3 ≤ 127) ∧ (-128 ≤ x.p0 ∧ x.p0 ≤ 127 ∧ -128 ≤ x.p1 ∧ x.p1 ≤ 127) ∧ (0 ≤ x.semi ∧ x.semi ≤ 255) ∧
    (-128 ≤ x.b0 ∧ x.b0 ≤ 127 ∧ -128 ≤ x.b1 ∧ x.b1 ≤ 127 ∧ -128 ≤ x.b2 ∧ x.b2 ≤ 127 ∧ -128 ≤ x.b3 ∧ x.b3 ≤ 127 ∧ -128 ≤ x.b4 ∧ x.b4 ≤ 127) := by
  obtain ⟨_, ⟨_, _⟩, ⟨_, _⟩, _, _, ⟨_, _⟩, ⟨_, _⟩, ⟨_, _⟩, ⟨_, _⟩, ⟨_, _⟩, ⟨_, _⟩, _, _, _, ⟨_, _⟩, _, ⟨_, _⟩, ⟨_, _⟩, ⟨_, _⟩, ⟨_, _⟩, ⟨_, _⟩⟩ := h
  omega

theorem ok_std {x : DrS} (hx : x.In) {mk mt h : Int} {mg : Nat} (hmk : -3000 < mk ∧ mk < 3000) (hmt : -20000 < mt ∧ mt < 20000) (hmg : mg < 5) (h0 : 0 ≤ h) (h1 : h = 0 ∨ h < 100000 * x.semi) :
    okS { surfD x mk mt mg with hole := h } [] 0 = true := by
  have hr := hx.all
  refine ok_of rfl (by omega) rfl ?_ ?_
  · constructor <;> first | exact glass_ok _ hmg | (simp only [surfD, surf0]; omega)
  · simp [kindB, plainX, straightB, surfD, surf0]
theorem ok_asph {x : DrS} (hx : x.In) {mk mt h : Int} {mg : Nat} (hmk : -3000 < mk ∧ mk < 3000) (hmt : -20000 < mt ∧ mt < 20000) (hmg : mg < 5) (h0 : 0 ≤ h) (h1 : h = 0 ∨ h < 100000 * x.semi) {zs : List Int} {n : Nat} (hz : zs.length = n * 3) (hn : n ≤ 3) (hf : (List.range n).all (filmB zs) = true) :
    okS (sA x { surfD x mk mt mg with hole := h } 4) zs n = true := by
  have hr := hx.all
  refine ok_of hz (by omega) hf ?_ ?_
  · constructor <;> first | exact glass_ok _ hmg | (simp only [sA, surfD, surf0]; omega)
  · simp [kindB, plainX, straightB, sA, surfD, surf0]
theorem ok_bic {x : DrS} (hx : x.In) {mk mt h m1 : Int} {mg : Nat} (hmk : -3000 < mk ∧ mk < 3000) (hm1 : -3000 < m1 ∧ m1 < 3000) (hmt : -20000 < mt ∧ mt < 20000) (hmg : mg < 5) (h0 : 0 ≤ h) (h1 : h = 0 ∨ h < 100000 * x.semi) :
    okS { surfD x mk mt mg with hole := h, kind := 2, curvX := 1000 * x.c1, conicX := 1000 * m1 } [] 0 = true := by
  have hr := hx.all
  refine ok_of rfl (by omega) rfl ?_ ?_
  · constructor <;> first | exact glass_ok _ hmg | (simp only [surfD, surf0]; omega)
  · simp [kindB, plainP, straightB, surfD, surf0]
def surfK (x : DrS) (mt : Int) : Surf := { surf0 with kind := 3, thick := 1000 * mt, dx := 10000 * x.b0, dy := 10000 * x.b1, ax := 100000 * x.b2, ay := 100000 * x.b3, az := 100000 * x.b4 }
theorem ok_brk {x : DrS} (hx : x.In) {mt : Int} (hmt : -20000 < mt ∧ mt < 20000) : okS (surfK x mt) [] 0 = true := by
  have hr := hx.all
  have he := (isEmpty_eq emptyS).2 rfl
  refine ok_of rfl (by omega) rfl ?_ ?_
  · constructor <;> first | exact glass_ok 0 (by omega) | (simp only [surfK, surf0]; omega) | (simp [surfK, surf0])
  · simp [kindB, plainX, plainP, bareB, surfK, surf0, he]
def surfI (x : DrS) (mt h : Int) : Surf := { surf0 with kind := 4, curv := 1000 * x.c0, thick := 1000 * mt, semi := 100000 * x.semi, hole := h }
theorem ok_ide {x : DrS} (hx : x.In) {mt h : Int} (hmt : -20000 < mt ∧ mt < 20000) (h0 : 0 ≤ h) (h1 : h = 0 ∨ h < 100000 * x.semi) : okS (surfI x mt h) [] 0 = true := by
  have hr := hx.all
  have he := (isEmpty_eq emptyS).2 rfl
  refine ok_of rfl (by omega) rfl ?_ ?_
  · constructor <;> first | exact glass_ok 0 (by omega) | (simp only [surfI, surf0]; omega)
  · simp [kindB, plainX, plainP, straightB, bareB, surfI, surf0, he]
theorem ok_gra {x : DrS} (hx : x.In) {mk mt h mo : Int} {mg : Nat} (hmk : -3000 < mk ∧ mk < 3000) (hmt : -20000 < mt ∧ mt < 20000) (hmg : mg < 5) (h0 : 0 ≤ h) (h1 : h = 0 ∨ h < 100000 * x.semi) (hmo : -4 < mo ∧ mo < 4) (hm0 : mo ≠ 0) (hmi : isMirror (glassN mg) = false) :
    okS { surfD x mk mt mg with hole := h, order := mo, p0 := 1000 * x.p0, p1 := 1000 * x.p1 } [] 0 = true := by
  have hr := hx.all
  refine ok_of rfl (by omega) rfl ?_ ?_
  · constructor <;> first | exact glass_ok _ hmg | (simp only [surfD, surf0]; omega)
  · simp [kindB, plainX, straightB, surfD, surf0, hm0, hmi]


/-! ### what is drafted, as a function -/
def holeOf (x : DrS) : Int := if x.hole.tmod 4 = 1 ∧ 0 < x.semi then (100000 * x.semi).tdiv 4 else 0
def stdOf (x : DrS) : Surf := { surfD x (x.k0.tmod 3000) (x.thick.tmod 20000) (x.glass.tmod 5).toNat with hole := holeOf x }
def surfOf (x : DrS) : SurfC :=
  if x.kind.tmod 8 = 4 then ⟨sA x (stdOf x) 4, filmsOf x.films (min 3 x.films.length)⟩
  else if x.kind.tmod 8 = 5 then ⟨{ stdOf x with kind := 2, curvX := 1000 * x.c1, conicX := 1000 * x.k1.tmod 3000 }, []⟩
  else if x.kind.tmod 8 = 6 then ⟨surfK x (x.thick.tmod 20000), []⟩
  else if x.kind.tmod 8 = 7 then
    (if x.order.tmod 2 = 0 then ⟨surfI x (x.thick.tmod 20000) (holeOf x), []⟩
     else if isMirror (glassN (x.glass.tmod 5).toNat) = true then ⟨stdOf x, []⟩
     else ⟨{ stdOf x with order := x.order.tmod 4, p0 := 1000 * x.p0, p1 := 1000 * x.p1 }, []⟩)
  else ⟨stdOf x, []⟩
theorem std_eq {x : DrS} {mk mt h : Int} {mg : Nat} (h1 : x.k0.tmod 3000 = mk) (h2 : x.thick.tmod 20000 = mt) (h3 : x.glass.tmod 5 = (mg : Int)) (h4 : h = holeOf x) : { surfD x mk mt mg with hole := h } = stdOf x := by
  unfold stdOf; rw [h1, h2, h3, h4]; rfl

/-- a surface that was drafted -/
def RetDS (x : DrS) (w : World) (e : Ending) (w' : World) : Prop :=
  ∃ (s : Surf) (a : Option Addr) (n c : Nat) (zs : List Int), (⟨s, zs⟩ : SurfC) = surfOf x ∧ e = .returned (.agg #[.int .i64 s.kind, .int .i64 s.curv, .int .i64 s.conic, .int .i64 s.curvX, .int .i64 s.conicX, .int .i64 s.a0, .int .i64 s.a1, .int .i64 s.a2, .int .i64 s.a3, .int .i64 s.p0, .int .i64 s.p1, .int .i64 s.order, .int .i64 s.thick, .string s.glass, .int .i64 s.semi, .int .i64 s.hole, .int .i64 s.dx, .int .i64 s.dy, .int .i64 s.ax, .int .i64 s.ay, .int .i64 s.az, .slice a n c]) ∧ IRp (fun b => w.heap.size ≤ b ∧ b < w'.heap.size) w' 3 a n c zs ∧ (a = none → c = 0) ∧ n ≤ 3 ∧ okS s zs n = true ∧ s.glass.size ≤ 9223372036854775807 ∧ Below w.heap.size w w'

theorem dst_end {w : World} {x : DrS} {a : Option Addr} {n c : Nat} {g : Nat} {s : Surf} {zs : List Int} {ca : Option Addr} {cn cc : Nat} {wx : World} (h : DSt w x a n c g s zs ca cn cc wx) (hx : (⟨s, zs⟩ : SurfC) = surfOf x) (ho : okS s zs cn = true) (hn : cn ≤ 3) (hg : s.glass.size ≤ 9223372036854775807) :
    RetDS x w (.returned (.agg #[.int .i64 s.kind, .int .i64 s.curv, .int .i64 s.conic, .int .i64 s.curvX, .int .i64 s.conicX, .int .i64 s.a0, .int .i64 s.a1, .int .i64 s.a2, .int .i64 s.a3, .int .i64 s.p0, .int .i64 s.p1, .int .i64 s.order, .int .i64 s.thick, .string s.glass, .int .i64 s.semi, .int .i64 s.hole, .int .i64 s.dx, .int .i64 s.dy, .int .i64 s.ax, .int .i64 s.ay, .int .i64 s.az, .slice ca cn cc])) (W22 wx (w.heap.size + 1) s ca cn cc) := by
  have hk : KeptOn (fun b => b ≠ w.heap.size + 1) wx (W22 wx (w.heap.size + 1) s ca cn cc) := keptOn_setCells (w.heap.size + 1) (cells22 s ca cn cc) 0 wx
  have hz : (W22 wx (w.heap.size + 1) s ca cn cc).heap.size = wx.heap.size := size_setCells (w.heap.size + 1) (cells22 s ca cn cc) 0 wx
  exact ⟨s, ca, cn, cc, zs, hx, rfl, h.f.kept (hk.mono (fun b h => h.2.2.1)) (fun b h => ⟨h.1, by rw [hz]; exact h.2.1⟩), h.cc, hn, ho, hg, Below.put22 h.b (Nat.le_succ _) _ _ _ _⟩

theorem dst_end0 {w : World} {x : DrS} {a : Option Addr} {n c : Nat} {g : Nat} {s s' : Surf} {zs : List Int} {ca : Option Addr} {cn cc : Nat} {wx : World} (h : DSt w x a n c g s zs ca cn cc wx) (hx : (⟨s', []⟩ : SurfC) = surfOf x) (ho : okS s' [] 0 = true) (hg : s'.glass.size ≤ 9223372036854775807) :
    RetDS x w (.returned (.agg #[.int .i64 s'.kind, .int .i64 s'.curv, .int .i64 s'.conic, .int .i64 s'.curvX, .int .i64 s'.conicX, .int .i64 s'.a0, .int .i64 s'.a1, .int .i64 s'.a2, .int .i64 s'.a3, .int .i64 s'.p0, .int .i64 s'.p1, .int .i64 s'.order, .int .i64 s'.thick, .string s'.glass, .int .i64 s'.semi, .int .i64 s'.hole, .int .i64 s'.dx, .int .i64 s'.dy, .int .i64 s'.ax, .int .i64 s'.ay, .int .i64 s'.az, .slice none 0 0])) (W22 wx (w.heap.size + 1) s' none 0 0) :=
  ⟨s', none, 0, 0, [], hx, rfl, IRp.nil _ _ _ _ _, fun _ => rfl, by omega, ho, hg, Below.put22 h.b (Nat.le_succ _) _ _ _ _⟩
theorem DrSB.range {w : World} {g : Nat} {x : DrS} {a : Option Addr} {n c : Nat} (h : DrSB w g x a n c) : w.rangeAt g 0 (cellsDS x a n c) := by
  intro j v hv
  rw [obj_cell h]
  simpa using hv

end Go.Proofs.YthommhfppeonpaaGreatDoor
