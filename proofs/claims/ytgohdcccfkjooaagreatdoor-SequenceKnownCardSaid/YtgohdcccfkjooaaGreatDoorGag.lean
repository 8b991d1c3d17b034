/-
  DERIVED. Several texts in one: LensM, LensN, LensO, LensP, LensQ, LensR, LensS, LensT, LensU.
-/
import Derived.Test.YtgohdcccfkjooaaGreatDoorHLensK
import Derived.Test.YtgohdcccfkjooaaGreatDoorGaa
import Derived.MapKept
namespace Go.Proofs.YtgohdcccfkjooaaGreatDoor
open Go.RowKit

theorem missI_zero {s : Surf} {zs : List Int} {n : Nat} {p : Int} (h : missI s zs n p = 0) : okS s zs n = true ∧ hasB s p = true := by
  unfold missI at h
  split at h
  · split at h
    · exact ⟨by assumption, by assumption⟩
    · cases h
  · cases h

/-- the error of Set -/
def setI (s : Surf) (zs : List Int) (n : Nat) (p v : Int) : Int := if missI s zs n p = 0 then (if okS (s.put p v) zs n = true then 0 else 2) else missI s zs n p

/-- what Set gives back -/
def RetSet (w : World) (s : Surf) (zs : List Int) (n : Nat) (p v : Int) (e : Ending) (w' : World) : Prop :=
  (setI s zs n p v ≠ 0 ∧ e = .returned (.tuple #[.agg #[.int .i64 0, .int .i64 0, .int .i64 0, .int .i64 0, .int .i64 0, .int .i64 0, .int .i64 0, .int .i64 0, .int .i64 0, .int .i64 0, .int .i64 0, .int .i64 0, .int .i64 0, .string emptyS, .int .i64 0, .int .i64 0, .int .i64 0, .int .i64 0, .int .i64 0, .int .i64 0, .int .i64 0, .slice none 0 0], .int .i64 (setI s zs n p v)]) ∧ Below w.heap.size w w') ∨
  (setI s zs n p v = 0 ∧ ∃ a c, e = .returned (.tuple #[.agg #[.int .i64 (s.put p v).kind, .int .i64 (s.put p v).curv, .int .i64 (s.put p v).conic, .int .i64 (s.put p v).curvX, .int .i64 (s.put p v).conicX, .int .i64 (s.put p v).a0, .int .i64 (s.put p v).a1, .int .i64 (s.put p v).a2, .int .i64 (s.put p v).a3, .int .i64 (s.put p v).p0, .int .i64 (s.put p v).p1, .int .i64 (s.put p v).order, .int .i64 (s.put p v).thick, .string (s.put p v).glass, .int .i64 (s.put p v).semi, .int .i64 (s.put p v).hole, .int .i64 (s.put p v).dx, .int .i64 (s.put p v).dy, .int .i64 (s.put p v).ax, .int .i64 (s.put p v).ay, .int .i64 (s.put p v).az, .slice a n c], .int .i64 0]) ∧ IRp (fun b => w.heap.size ≤ b ∧ b < w'.heap.size) w' 3 a n c zs ∧ (a = none → c = 0) ∧ Below w.heap.size w w')

set_option maxRecDepth 100000 in
set_option maxHeartbeats 3200000 in
theorem sSet_any (s : Surf) (zs : List Int) (p v : Int) (a : Option Addr) (n c : Nat) (w : World) (hz : IR w.heap.size w 3 a n c zs) (hn : n ≤ 1000000) (hc : a = none → c = 0) (hg : s.glass.size ≤ 9223372036854775807) (hp : Places w.heap.size w) :
    Calls Tryz.prog 245 #[.agg #[.int .i64 s.kind, .int .i64 s.curv, .int .i64 s.conic, .int .i64 s.curvX, .int .i64 s.conicX, .int .i64 s.a0, .int .i64 s.a1, .int .i64 s.a2, .int .i64 s.a3, .int .i64 s.p0, .int .i64 s.p1, .int .i64 s.order, .int .i64 s.thick, .string s.glass, .int .i64 s.semi, .int .i64 s.hole, .int .i64 s.dx, .int .i64 s.dy, .int .i64 s.ax, .int .i64 s.ay, .int .i64 s.az, .slice a n c], .int .i64 p, .int .i64 v] w (RetSet w s zs n p v) := by
  have h1 := SurfB.new w s a n c
  have h2 := heap_alloc_new (w.alloc (.cells #[.int .i64 s.kind, .int .i64 s.curv, .int .i64 s.conic, .int .i64 s.curvX, .int .i64 s.conicX, .int .i64 s.a0, .int .i64 s.a1, .int .i64 s.a2, .int .i64 s.a3, .int .i64 s.p0, .int .i64 s.p1, .int .i64 s.order, .int .i64 s.thick, .string s.glass, .int .i64 s.semi, .int .i64 s.hole, .int .i64 s.dx, .int .i64 s.dy, .int .i64 s.ax, .int .i64 s.ay, .int .i64 s.az, .slice a n c] 70)) (.cells #[.int .i64 0, .int .i64 0, .int .i64 0, .int .i64 0, .int .i64 0, .int .i64 0, .int .i64 0, .int .i64 0, .int .i64 0, .int .i64 0, .int .i64 0, .int .i64 0, .int .i64 0, .string emptyS, .int .i64 0, .int .i64 0, .int .i64 0, .int .i64 0, .int .i64 0, .int .i64 0, .int .i64 0, .slice none 0 0] 70)
  have hb := below_al (o := .cells #[.int .i64 0, .int .i64 0, .int .i64 0, .int .i64 0, .int .i64 0, .int .i64 0, .int .i64 0, .int .i64 0, .int .i64 0, .int .i64 0, .int .i64 0, .int .i64 0, .int .i64 0, .string emptyS, .int .i64 0, .int .i64 0, .int .i64 0, .int .i64 0, .int .i64 0, .int .i64 0, .int .i64 0, .slice none 0 0] 70) (below_al (o := .cells #[.int .i64 s.kind, .int .i64 s.curv, .int .i64 s.conic, .int .i64 s.curvX, .int .i64 s.conicX, .int .i64 s.a0, .int .i64 s.a1, .int .i64 s.a2, .int .i64 s.a3, .int .i64 s.p0, .int .i64 s.p1, .int .i64 s.order, .int .i64 s.thick, .string s.glass, .int .i64 s.semi, .int .i64 s.hole, .int .i64 s.dx, .int .i64 s.dy, .int .i64 s.ax, .int .i64 s.ay, .int .i64 s.az, .slice a n c] 70) (Below.refl w.heap.size w))
  rw [size_alloc] at h2
  have H1 := Lib.hid h1; have H2 := Lib.hid h2; have Hz := Lib.hid hz; have Hc := Lib.hid hc; have Hb := Lib.hid hb; have Hp := Lib.hid hp
  clear h1 h2 hz hc hb hp
  go_enter Tryz.func245, Tryz.ntmps245
  go_upto_region 1 with fail
  refine step_world (fun wx => SurfB wx w.heap.size s a n c ∧ wx.heap[w.heap.size + 1]? = some (.cells #[.int .i64 0, .int .i64 0, .int .i64 0, .int .i64 0, .int .i64 0, .int .i64 0, .int .i64 0, .int .i64 0, .int .i64 0, .int .i64 0, .int .i64 0, .int .i64 0, .int .i64 0, .string emptyS, .int .i64 0, .int .i64 0, .int .i64 0, .int .i64 0, .int .i64 0, .int .i64 0, .int .i64 0, .slice none 0 0] 70 (0, 0)) ∧ Below w.heap.size w wx) ⟨SurfB.go (B := w.heap.size + 1) H1.out ((Below.refl _ _).alloc (by simp) _) (by omega), H2.out, Hb.out⟩ ?_
  clear H1 H2 Hb
  rintro w1 ⟨h1, h2, hb⟩
  have hl1 := h1.lt; have hl2 := lt_of_block h2
  have H1 := Lib.hid h1; have H2 := Lib.hid h2; have Hb := Lib.hid hb
  clear h1 h2 hb
  by_cases ho : missI s zs n p = 0
  · obtain ⟨q1, q2⟩ := missI_zero ho
    obtain ⟨r1, r2⟩ := hasB_range q2
    have Ho := Lib.hid ho; clear ho q1 q2
    go_upto_region 5 with (first
      | (refine wpL_load_surf H1.out rfl (.tmp 3) rfl rfl ?_)
      | ((with_reducible refine (missing_any s zs p a n c _ (Hz.out.go Hb.out) hn hg (Hp.out.go Hb.out)).mono ?_); rintro e w2 ⟨he, hb⟩; rw [Ho.out] at he; subst he; have Hb2 := Lib.hid hb; clear hb)
      | ((with_reducible refine (place_any w.heap.size p _ r1 r2).mono ?_); rintro e w3 ⟨he, hb⟩; subst he; have Hb3 := Lib.hid hb; clear hb; have hs3 := SurfB.go (SurfB.go H1.out Hb2.out hl1) Hb3.out (Nat.lt_of_lt_of_le hl1 Hb2.out.size); have hc := hs3.getP r1 r2; have fz := hs3.free (placeOff p); have Hs3 := Lib.hid hs3; clear hs3))
    refine step_world (fun wx => SurfB wx w.heap.size (s.put p v) a n c ∧ wx.heap[w.heap.size + 1]? = some (.cells #[.int .i64 0, .int .i64 0, .int .i64 0, .int .i64 0, .int .i64 0, .int .i64 0, .int .i64 0, .int .i64 0, .int .i64 0, .int .i64 0, .int .i64 0, .int .i64 0, .int .i64 0, .string emptyS, .int .i64 0, .int .i64 0, .int .i64 0, .int .i64 0, .int .i64 0, .int .i64 0, .int .i64 0, .slice none 0 0] 70 (0, 0)) ∧ Below w.heap.size w wx) ⟨Hs3.out.put r1 r2 v, obj_other ((Hb3.out.block _ (Nat.lt_of_lt_of_le hl2 Hb2.out.size)).trans ((Hb2.out.block _ hl2).trans H2.out)) ⟨w.heap.size, placeOff p, none⟩ (by simp) _, (below_chain Hb.out (below_chain Hb2.out Hb3.out)).setCell (p := ⟨w.heap.size, placeOff p, none⟩) (Nat.le_refl _) _⟩ ?_
    clear hc fz Hs3 Hb3 Hb2 H1 H2 Hb hl1 hl2
    rintro w4 ⟨h1, h2, hb⟩
    have hl1 := h1.lt; have hl2 := lt_of_block h2
    obtain ⟨k0, k1, k2, k3, k4, k5, k6, k7, k8, k9, k10, k11, k12, k13, k14, k15, k16, k17, k18, k19, k20, k21⟩ := h1.cells
    have H1 := Lib.hid h1; have H2 := Lib.hid h2; have Hb := Lib.hid hb
    clear h1 h2 hb k0 k1 k2 k3 k4 k5 k6 k7 k8 k9 k10 k11 k12 k13 k14 k15 k16 k17 k18 k19 k20
    have hg2 : (s.put p v).glass.size ≤ 9223372036854775807 := by
      rcases ways17 r1 r2 with rfl | rfl | rfl | rfl | rfl | rfl | rfl | rfl | rfl | rfl | rfl | rfl | rfl | rfl | rfl | rfl | rfl <;> exact hg
    cases hk : okS (s.put p v) zs n with
    | false =>
      have hset : setI s zs n p v = 2 := by unfold setI; rw [if_pos Ho.out, hk]; rfl
      have Hk := Lib.hid hk; have Hset := Lib.hid hset; clear hk hset
      go_wp2_with (first
        | (refine wpL_load_surf H1.out rfl (.tmp 3) rfl rfl ?_)
        | ((with_reducible refine (scheck_any (s.put p v) zs a n c _ (Hz.out.go Hb.out) hn hg2).mono ?_); rintro e w2 ⟨he, hb⟩; rw [Hk.out] at he; unfold err at he; simp only [if_false, Bool.false_eq_true] at he; subst he; have Hb2 := Lib.hid hb; clear hb)
        | (refine wpL_store_surf ⟨0, 0, 0, 0, 0, 0, 0, 0, 0, 0, 0, 0, 0, emptyS, 0, 0, 0, 0, 0, 0, 0⟩ none 0 0 ((Hb2.out.block _ hl2).trans H2.out) rfl rfl (.tmp 6) (.tmp 23) rfl rfl rfl ?_))
      refine bodyPost_ret (ret_surf_tmp (s := ⟨0, 0, 0, 0, 0, 0, 0, 0, 0, 0, 0, 0, 0, emptyS, 0, 0, 0, 0, 0, 0, 0⟩) (a := none) (n := 0) (c := 0) rfl rfl rfl (SurfB.stored ((Hb2.out.block _ hl2).trans H2.out) rfl _ _ _ _)) rfl ?_
      exact Or.inl ⟨by rw [Hset.out]; decide, by rw [Hset.out]; rfl, Below.put22 (below_chain Hb.out Hb2.out) (by omega) _ _ _ _⟩
    | true =>
      have hset : setI s zs n p v = 0 := by unfold setI; rw [if_pos Ho.out, hk]; rfl
      have Hk := Lib.hid hk; have Hset := Lib.hid hset; clear hk hset
      go_upto_region 7 with (first
        | (refine wpL_load_surf H1.out rfl (.tmp 3) rfl rfl ?_)
        | ((with_reducible refine (scheck_any (s.put p v) zs a n c _ (Hz.out.go Hb.out) hn hg2).mono ?_); rintro e w2 ⟨he, hb⟩; rw [Hk.out] at he; unfold err at he; simp only [if_true] at he; subst he; have Hb2 := Lib.hid hb; clear hb))
      refine step_world (fun wx => SurfB wx w.heap.size (s.put p v) a n c ∧ wx.heap[w.heap.size + 1]? = some (.cells #[.int .i64 0, .int .i64 0, .int .i64 0, .int .i64 0, .int .i64 0, .int .i64 0, .int .i64 0, .int .i64 0, .int .i64 0, .int .i64 0, .int .i64 0, .int .i64 0, .int .i64 0, .string emptyS, .int .i64 0, .int .i64 0, .int .i64 0, .int .i64 0, .int .i64 0, .int .i64 0, .int .i64 0, .slice none 0 0] 70 (0, 0)) ∧ Below w.heap.size w wx) ⟨H1.out.go Hb2.out hl1, (Hb2.out.block _ hl2).trans H2.out, below_chain Hb.out Hb2.out⟩ ?_
      clear k21 Hb2 H1 H2 Hb hl1 hl2
      rintro w5 ⟨h1, h2, hb⟩
      have hl1 := h1.lt; have hl2 := lt_of_block h2
      obtain ⟨k0, k1, k2, k3, k4, k5, k6, k7, k8, k9, k10, k11, k12, k13, k14, k15, k16, k17, k18, k19, k20, k21⟩ := h1.cells
      have H1 := Lib.hid h1; have H2 := Lib.hid h2; have Hb := Lib.hid hb
      clear h1 h2 hb k0 k1 k2 k3 k4 k5 k6 k7 k8 k9 k10 k11 k12 k13 k14 k15 k16 k17 k18 k19 k20
      go_wp2_with (first
        | ((with_reducible refine (clone_film zs a n c _ (Hz.out.go Hb.out) hn Hc.out).mono ?_); rintro e w2 ⟨a', c', rfl, hi, hc, hb2⟩; clear k21; have fz := SurfB.free (SurfB.go H1.out hb2 hl1) 21; have k21 := (SurfB.cells (SurfB.go H1.out hb2 hl1)).2.2.2.2.2.2.2.2.2.2.2.2.2.2.2.2.2.2.2.2.2; have Hi := Lib.hid hi; have Hc2 := Lib.hid hc; have Hb2 := Lib.hid hb2; clear hi hc hb2)
        | (refine wpL_load_surf (SurfB.coat (SurfB.go H1.out Hb2.out hl1) a' n c') rfl (.tmp 3) rfl rfl ?_)
        | (refine wpL_store_surf (s.put p v) a' n c' (obj_other ((Hb2.out.block _ hl2).trans H2.out) ⟨w.heap.size, 21, none⟩ (by simp) _) rfl rfl (.tmp 6) (.tmp 28) rfl rfl rfl ?_))
      refine bodyPost_ret (ret_surf_tmp (s := s.put p v) (a := a') (n := n) (c := c') rfl rfl rfl (SurfB.stored (obj_other ((Hb2.out.block _ hl2).trans H2.out) ⟨w.heap.size, 21, none⟩ (by simp) _) rfl (s.put p v) a' n c')) rfl ?_
      refine Or.inr ⟨Hset.out, a', c', rfl, Hi.out.kept ((keptOn_setCells w.heap.size [_] 21 w2).mono ?_ |>.trans ((keptOn_setCells (w.heap.size + 1) (cells22 (s.put p v) a' n c') 0 _).mono ?_)) ?_, Hc2.out, ?_⟩
      · intro b hb; have := hb.1; omega
      · intro b hb; have := hb.1; omega
      · intro b hb
        refine ⟨by have := hb.1; have := Hb.out.size; omega, ?_⟩
        have := size_setCells (w.heap.size + 1) (cells22 (s.put p v) a' n c') 0 (w2.setCell ⟨w.heap.size, 21, none⟩ (.slice a' n c'))
        show b < ((w2.setCell ⟨w.heap.size, 21, none⟩ (.slice a' n c')).setCells (w.heap.size + 1) 0 (cells22 (s.put p v) a' n c')).heap.size
        rw [this]
        simpa using hb.2
      · exact Below.put22 ((below_chain Hb.out Hb2.out).setCell (p := ⟨w.heap.size, 21, none⟩) (Nat.le_refl _) _) (by omega) _ _ _ _
  · have hset : setI s zs n p v = missI s zs n p := by unfold setI; rw [if_neg ho]
    have ho2 : (missI s zs n p != 0) = true := by simpa using ho
    generalize hm : missI s zs n p = m at *
    have Ho := Lib.hid ho; have Hset := Lib.hid hset
    have Hm := Lib.hid hm; clear hm ho hset
    go_wp2_with (first
      | (refine wpL_load_surf H1.out rfl (.tmp 3) rfl rfl ?_)
      | ((with_reducible refine (missing_any s zs p a n c _ (Hz.out.go Hb.out) hn hg (Hp.out.go Hb.out)).mono ?_); rintro e w2 ⟨he, hb⟩; rw [Hm.out] at he; subst he; have Hb2 := Lib.hid hb; clear hb)
      | (refine wpL_store_surf ⟨0, 0, 0, 0, 0, 0, 0, 0, 0, 0, 0, 0, 0, emptyS, 0, 0, 0, 0, 0, 0, 0⟩ none 0 0 ((Hb2.out.block _ hl2).trans H2.out) rfl rfl (.tmp 6) (.tmp 14) rfl rfl rfl ?_))
    refine bodyPost_ret (ret_surf_tmp (s := ⟨0, 0, 0, 0, 0, 0, 0, 0, 0, 0, 0, 0, 0, emptyS, 0, 0, 0, 0, 0, 0, 0⟩) (a := none) (n := 0) (c := 0) rfl rfl rfl (SurfB.stored ((Hb2.out.block _ hl2).trans H2.out) rfl _ _ _ _)) rfl ?_
    exact Or.inl ⟨by rw [Hset.out]; exact Ho.out, by rw [Hset.out]; rfl, Below.put22 (below_chain Hb.out Hb2.out) (by omega) _ _ _ _⟩

end Go.Proofs.YtgohdcccfkjooaaGreatDoor

namespace Go.Proofs.YtgohdcccfkjooaaGreatDoor
open Go.RowKit

def hasX (l : List SurfC) (i : Nat) (p : Int) : Bool := match l[i]? with
  | some x => hasC x.s x.zs (x.zs.length / 3) p
  | none => false
/-- surfaces have a parameter, which is not Thick of the image -/
def lhasB (l : List SurfC) (i p : Int) : Bool := bt i 0 ((l.length : Int) - 1) && hasX l i.toNat p && ((p != 9) || decide (i < (l.length : Int) - 1))

set_option maxRecDepth 100000 in
set_option maxHeartbeats 1600000 in
theorem lhas_any (l : List SurfC) (a : Option Addr) (n c : Nat) (i p : Int) (w : World) (h : RR SurfR 22 (fun b => b < w.heap.size) w a n c l) (hn : n ≤ 1000000) (hp : Places w.heap.size w) :
    Calls Tryz.prog 244 #[.slice a n c, .int .i64 i, .int .i64 p] w (RetB w (.bool (lhasB l i p))) := by
  have hlen := h.1
  have H := Lib.hid h; have Hp := Lib.hid hp; clear h hp
  have hL : lhasB l i p = (bt i 0 ((n : Int) - 1) && hasX l i.toNat p && ((p != 9) || decide (i < (n : Int) - 1))) := by unfold lhasB; rw [hlen]
  have HL := Lib.hid hL; clear hL
  go_enter Tryz.func244, Tryz.ntmps244
  cases hb0 : bt i 0 ((n : Int) - 1) with
  | false =>
    have Hb0 := Lib.hid hb0; clear hb0
    go_wp2_with ((with_reducible refine (lbetween_any _ _ _ _).mono ?_); rintro e w2 ⟨he, hb⟩; rw [Hb0.out] at he; subst he)
    go_ret
    exact ⟨by rw [HL.out, Hb0.out]; rfl, hb⟩
  | true =>
    have hi : 0 ≤ i ∧ i ≤ (n : Int) - 1 := by simpa [bt] using hb0
    obtain ⟨k, rfl⟩ : ∃ k : Nat, i = (k : Int) := ⟨i.toNat, by omega⟩
    have hkn : k < n := by omega
    have Hb0 := Lib.hid hb0; clear hb0 hi
    obtain ⟨b, off, x, cs, rfl, hlt, hx, ⟨a2, n2, c2, rfl, hz, hn2, hc2, hg2⟩, hr⟩ := H.out.at hkn
    have hX : hasX l (k : Int).toNat p = hasC x.s x.zs n2 p := by unfold hasX; rw [Int.toNat_natCast, hx]; simp only; rw [← coat_n hz]
    have HX := Lib.hid hX; have Hz := Lib.hid (hz.ir (fun _ h => h)); have Hr := Lib.hid hr; have Hg2 := Lib.hid hg2
    clear hX hx hz hc2 hr hg2
    cases hv : hasC x.s x.zs n2 p <;> cases h9 : (p != 9) <;> cases hlast : decide ((k : Int) < (n : Int) - 1)
    all_goals
      have Hv := Lib.hid hv; have H9 := Lib.hid h9; have Hla := Lib.hid hlast
      clear hv
      simp only [decide_eq_true_eq, decide_eq_false_iff_not] at hlast
      go_wp2_with (first
        | (refine wpL_load_atG (rangeAt_kept Hr.out (keptOn_below hb2) hlt) (by rfl) (.tmp 15) rfl rfl ?_)
        | ((with_reducible refine (lbetween_any _ _ _ _).mono ?_); rintro e w2 ⟨he, hb⟩; rw [Hb0.out] at he; subst he; have hb2 := hb; have Hb2 := Lib.hid hb)
        | ((with_reducible refine (sHas_any x.s x.zs p _ n2 c2 _ (Hz.out.go Hb2.out) hn2 Hg2.out (Hp.out.go Hb2.out)).mono ?_); rintro e w3 ⟨he, hb3⟩; rw [Hv.out] at he; subst he; have Hb3 := Lib.hid hb3; clear hb3))
      go_ret
      exact ⟨by rw [HL.out, Hb0.out, HX.out, Hv.out, H9.out, Hla.out]; rfl, below_chain Hb2.out Hb3.out⟩

end Go.Proofs.YtgohdcccfkjooaaGreatDoor

namespace Go.Proofs.YtgohdcccfkjooaaGreatDoor
open Go.RowKit

theorem cells22_load {P : Program} {op : Oper} {ac : Act} {y : World} {b o : Nat} {s : Surf} {a : Option Addr} {n c : Nat} {d : TypeDesc} (h : y.rangeAt b o (cells22 s a n c)) (hu : P.underlying 70 = some d) (hd : d.isRow = true) (hi : (P.info? 70).map (·.size) = some 22) (x : Operand) (ho : op.op = .load 70 x)
    (hx : ac.eval x = .pointer (some ⟨b, o, none⟩)) : (execOp ac.eval op).run P y = .ok (.value (.agg #[.int .i64 s.kind, .int .i64 s.curv, .int .i64 s.conic, .int .i64 s.curvX, .int .i64 s.conicX, .int .i64 s.a0, .int .i64 s.a1, .int .i64 s.a2, .int .i64 s.a3, .int .i64 s.p0, .int .i64 s.p1, .int .i64 s.order, .int .i64 s.thick, .string s.glass, .int .i64 s.semi, .int .i64 s.hole, .int .i64 s.dx, .int .i64 s.dy, .int .i64 s.ax, .int .i64 s.ay, .int .i64 s.az, .slice a n c])) y := by
  unfold execOp
  simp only [ho, hx, Instr.loadAt, Instr.sureAddr, Sem.run_bind, Sem.run_pure, Result.andThen_ok, run_loadVar_mid y b o 70 (cells22 s a n c) d h hu hd hi]
  rfl

/-- a surface is loaded in a region that draws its order -/
theorem wpG_load_at {ops : Array Oper} {Q : Exit → Act → World → Prop} {N i : Nat} {pu : List Nat} {fs : List (Nat × Tmp × Obj)} {C : Nat → Prop} {rest : List (Nat × Bool)} {op : Oper} {ac : Act} {w : World} (hi : ops.toList[i]? = some op) (hpu : pu.contains i = false)
    (hw : Region.wanted op (yielded ops ac.tmps) = true) {b o : Nat} {s : Surf} {a : Option Addr} {n c : Nat} (h : ∀ y, Below w.heap.size w y → y.rangeAt b o (cells22 s a n c)) (x : Operand) (ho : op.op = .load 70 x)
    (hx : ac.eval x = .pointer (some ⟨b, o, none⟩)) (hk : wpG Tryz.prog ops Q N pu fs C rest (ac.put op.dst (.agg #[.int .i64 s.kind, .int .i64 s.curv, .int .i64 s.conic, .int .i64 s.curvX, .int .i64 s.conicX, .int .i64 s.a0, .int .i64 s.a1, .int .i64 s.a2, .int .i64 s.a3, .int .i64 s.p0, .int .i64 s.p1, .int .i64 s.order, .int .i64 s.thick, .string s.glass, .int .i64 s.semi, .int .i64 s.hole, .int .i64 s.dx, .int .i64 s.dy, .int .i64 s.ax, .int .i64 s.ay, .int .i64 s.az, .slice a n c])) w) : wpG Tryz.prog ops Q N pu fs C ((i, true) :: rest) ac w :=
  wpG_yield hi hpu hw (fun y hy => cells22_load (h y hy) Tryz.underlying70 rfl Tryz.infoSurf x ho hx) hk

/-- a surface is stored into a list -/
theorem wpL_store_at {ops : Array Oper} {rest : List Oper} {op : Oper} {ac : Act} {w : World} {Q : Exit → Act → World → Prop} {b o : Nat} (s : Surf) (a : Option Addr) (n c : Nat) (h : w.there b o 22) (hgd : op.guard = none) (x y : Operand) (ho : op.op = .store 70 x y)
    (hx : ac.eval x = .pointer (some ⟨b, o, none⟩)) (hy : ac.eval y = .agg #[.int .i64 s.kind, .int .i64 s.curv, .int .i64 s.conic, .int .i64 s.curvX, .int .i64 s.conicX, .int .i64 s.a0, .int .i64 s.a1, .int .i64 s.a2, .int .i64 s.a3, .int .i64 s.p0, .int .i64 s.p1, .int .i64 s.order, .int .i64 s.thick, .string s.glass, .int .i64 s.semi, .int .i64 s.hole, .int .i64 s.dx, .int .i64 s.dy, .int .i64 s.ax, .int .i64 s.ay, .int .i64 s.az, .slice a n c]) (hk : wpList Tryz.prog ops Q rest (ac.put op.dst undef) (w.setCells b o (cells22 s a n c))) : wpList Tryz.prog ops Q (op :: rest) ac w :=
  wpList_store_mid hgd 70 x y ho b o #[.int .i64 s.kind, .int .i64 s.curv, .int .i64 s.conic, .int .i64 s.curvX, .int .i64 s.conicX, .int .i64 s.a0, .int .i64 s.a1, .int .i64 s.a2, .int .i64 s.a3, .int .i64 s.p0, .int .i64 s.p1, .int .i64 s.order, .int .i64 s.thick, .string s.glass, .int .i64 s.semi, .int .i64 s.hole, .int .i64 s.dx, .int .i64 s.dy, .int .i64 s.ax, .int .i64 s.ay, .int .i64 s.az, .slice a n c] hx hy h Tryz.infoSurf (by simp [Value.oneCell']) hk

def putB (l : List SurfC) (i p v : Int) : Bool := lhasB l i p && (match l[i.toNat]? with
  | some x => decide (setI x.s x.zs (x.zs.length / 3) p v = 0)
  | none => false)
def putL (l : List SurfC) (i p v : Int) : List SurfC := match l[i.toNat]? with
  | some x => if putB l i p v then l.set i.toNat ⟨x.s.put p v, x.zs⟩ else l
  | none => l

/-- put: whether the parameter could be set; the list -/
def RetPut (w : World) (g n c base : Nat) (l : List SurfC) (i p v : Int) (e : Ending) (w' : World) : Prop :=
  e = .returned (.bool (putB l i p v)) ∧ OwnR SurfR 22 70 base w' (.slice (some ⟨g, 0, none⟩) n c) (putL l i p v) ∧ w.grownBy w' (some g)

theorem grown_of_below {w w' : World} {row : Option Nat} (h : Below w.heap.size w w') : w.grownBy w' row := ⟨h.os, h.tape, h.output, h.size, fun k hk _ => h.block k hk⟩

theorem grown_setCells {w w' : World} (h : Below w.heap.size w w') (g o : Nat) (vs : List Value) : w.grownBy (w'.setCells g o vs) (some g) := by
  have h0 := below_setCells (Nat.zero_le g) vs o (h.mono (Nat.zero_le _))
  refine ⟨h0.os, h0.tape, h0.output, by rw [size_setCells]; exact h.size, fun k hk hne => ?_⟩
  exact (keptOn_setCells g vs o w' k (fun e => hne (by rw [e]))).trans (h.block k hk)

theorem cells_of_three {w : World} {g : Nat} {x y z : Value} {T : TypeId} (h : w.heap[g]? = some (.cells #[x, y, z] T (0, 0))) : w.cell? ⟨g, 0, none⟩ = some x ∧ w.cell? ⟨g, 1, none⟩ = some y ∧ w.cell? ⟨g, 2, none⟩ = some z := by
  refine ⟨?_, ?_, ?_⟩ <;> simp [World.cell?, h]

set_option maxRecDepth 100000 in
set_option maxHeartbeats 3200000 in
theorem put_any (l : List SurfC) (g n c base : Nat) (i p v : Int) (w : World) (h : OwnR SurfR 22 70 base w (.slice (some ⟨g, 0, none⟩) n c) l) (hn : n ≤ 1000000) (hp : Places w.heap.size w) :
    Calls Tryz.prog 216 #[.slice (some ⟨g, 0, none⟩) n c, .agg #[.int .i64 i, .int .i64 p, .int .i64 v]] w (RetPut w g n c base l i p v) := by
  have hrr := h.rr surfOk
  have hlen := hrr.1
  have hb0 : Below w.heap.size w (w.alloc (.cells #[.int .i64 i, .int .i64 p, .int .i64 v] 72)) := (Below.refl _ _).alloc (Nat.le_refl _) _
  have H := Lib.hid h; have Hr := Lib.hid hrr; have Hp := Lib.hid hp; have Hb0 := Lib.hid hb0; clear h hp hrr hb0
  go_enter Tryz.func216, Tryz.ntmps216
  cases hh : lhasB l i p with
  | false =>
    have hput : putB l i p v = false := by unfold putB; rw [hh]; rfl
    have hputl : putL l i p v = l := by unfold putL; split <;> simp [hput]
    have Hh := Lib.hid hh; have Hput := Lib.hid hput; have Hputl := Lib.hid hputl; clear hh hput hputl
    go_wp2_with ((with_reducible refine (lhas_any l _ n c i p _ (Hr.out.go surfOk Hb0.out) hn (Hp.out.go Hb0.out)).mono ?_); rintro e w2 ⟨he, hb⟩; rw [Hh.out] at he; subst he; have Hb2 := Lib.hid (below_chain Hb0.out hb); clear hb)
    go_ret
    exact ⟨by rw [Hput.out]; rfl, by rw [Hputl.out]; exact H.out.go surfOk Hb2.out, grown_of_below Hb2.out⟩
  | true =>
    have hin : 0 ≤ i ∧ i ≤ (n : Int) - 1 := by
      unfold lhasB at hh
      simp only [Bool.and_eq_true] at hh
      have := hh.1.1
      rw [hlen] at this
      simpa [bt] using this
    obtain ⟨k, rfl⟩ : ∃ k : Nat, i = (k : Int) := ⟨i.toNat, by omega⟩
    have hkn : k < n := by omega
    have Hh := Lib.hid hh; clear hh hin
    have hkl : k < l.length := by omega
    have hN : w.heap.size < (w.alloc (.cells #[.int .i64 (k : Int), .int .i64 p, .int .i64 v] 72)).heap.size := by simp
    have hbx := heap_alloc_new w (.cells #[.int .i64 (k : Int), .int .i64 p, .int .i64 v] 72)
    have Hbx := Lib.hid hbx; clear hbx
    go_upto_region 3 with ((with_reducible refine (lhas_any l _ n c k p _ (Hr.out.go surfOk Hb0.out) hn (Hp.out.go Hb0.out)).mono ?_); rintro e w2 ⟨he, hb⟩; rw [Hh.out] at he; subst he; have Hb2 := Lib.hid hb; clear hb)
    refine step_world (fun wx => wx.heap[w.heap.size]? = some (.cells #[.int .i64 (k : Int), .int .i64 p, .int .i64 v] 72 (0, 0)) ∧ Below w.heap.size w wx) ⟨(Hb2.out.block _ hN).trans Hbx.out, below_chain Hb0.out Hb2.out⟩ ?_
    clear Hb2 Hb0 Hbx hN w2
    rintro w2 ⟨hbx, hb⟩
    have hl2 := lt_of_block hbx
    obtain ⟨q0, q1, q2⟩ := cells_of_three hbx
    have H2 := Lib.hid (H.out.go surfOk hb)
    obtain ⟨cs, ⟨a2, n2, c2, rfl, hz, hn2, hc2, hg2⟩, hrow⟩ := H2.out.at surfOk hkl
    have hgl : g < w2.heap.size := by
      rcases H2.out.form with ⟨e, _⟩ | ⟨g', _, e, _, q, _, _, _⟩
      · cases e
      · cases e; exact q
    have hgw : g < w.heap.size := by
      rcases H.out.form with ⟨e, _⟩ | ⟨g', _, e, _, q, _, _, _⟩
      · cases e
      · cases e; exact q
    have hx : l[k]? = some l[k] := List.getElem?_eq_getElem hkl
    generalize l[k] = x at *
    have hnx := coat_n hz
    have Hz := Lib.hid (hz.ir (fun _ h => h)); have Hg2 := Lib.hid hg2; have Hc2 := Lib.hid hc2; have Hrow := Lib.hid hrow; have Hb := Lib.hid hb; have Hbx := Lib.hid hbx; have Hx := Lib.hid hx; have Hnx := Lib.hid hnx
    clear hz hg2 hc2 hrow hb hbx hx hnx
    refine wp_region_floats 14 [12] [(13, 5, .cells #[.int .i64 0, .int .i64 0, .int .i64 0, .int .i64 0, .int .i64 0, .int .i64 0, .int .i64 0, .int .i64 0, .int .i64 0, .int .i64 0, .int .i64 0, .int .i64 0, .int .i64 0, .string emptyS, .int .i64 0, .int .i64 0, .int .i64 0, .int .i64 0, .int .i64 0, .int .i64 0, .int .i64 0, .slice none 0 0] 70)] [(0, true), (1, true), (2, true), (3, true), (4, true), (5, true), (6, true), (7, true), (8, true), (9, false), (10, true), (11, true), (12, true)] (by kernel_rfl) (by kernel_rfl) ⟨by simp, by simp, by (simp only [List.forall_mem_cons]; exact ⟨⟨by omega, _, rfl, rfl, rfl, fun _ _ => rfl⟩, fun _ h => by cases h⟩)⟩ (fun _ _ _ _ _ h => h) (fun _ _ o _ _ h => by cases o <;> exact h) ?_
    iterate 4
      refine wpG_yield (v := ?_) rfl rfl (by rfl) ?_ ?_
      rotate_left
      · intro y hy
        have z0 := (hy.cell (p := ⟨w.heap.size, 0, none⟩) hl2).trans q0
        go_simp
        with_reducible rfl
      try simp only [Act.put, List.setIfInBounds_toArray, List.set_cons_zero, List.set_cons_succ]
    refine wpG_load_at rfl rfl (by rfl) (fun y hy => rangeAt_kept Hrow.out (keptOn_below (below_undrew (k := 1) hy)) hgl) _ rfl rfl ?_
    try simp only [Act.put, List.setIfInBounds_toArray, List.set_cons_zero, List.set_cons_succ]
    iterate 4
      refine wpG_yield (v := ?_) rfl rfl (by rfl) ?_ ?_
      rotate_left
      · intro y hy
        have z1 := (hy.cell (p := ⟨w.heap.size, 1, none⟩) hl2).trans q1
        have z2 := (hy.cell (p := ⟨w.heap.size, 2, none⟩) hl2).trans q2
        go_simp
        with_reducible rfl
      try simp only [Act.put, List.setIfInBounds_toArray, List.set_cons_zero, List.set_cons_succ]
    refine wpG_step rfl rfl (fun x1 hx1 K hK => ?_)
    go_simp
    have hx1' : Below w2.heap.size w2 x1 := below_undrew (k := 1) hx1
    have hw1 := below_chain Hb.out hx1'
    refine (sSet_any x.s x.zs p v a2 n2 c2 _ (Hz.out.go hx1') hn2 Hc2.out Hg2.out (Hp.out.go hw1)).mono ?_
    rintro e w3 (⟨h1, rfl, hb3⟩ | ⟨h0, a', c', rfl, hi, hc', hb3⟩)
    · refine hK _ _ hb3 ?_
      clear hK K
      iterate 3
        refine wpG_pure (v := ?_) rfl (by rfl) ?_ ?_
        rotate_left
        · intro y
          go_simp
          with_reducible rfl
        try simp only [Act.put, List.setIfInBounds_toArray, List.set_cons_zero, List.set_cons_succ]
      refine wpG_nil1 (l := [_, _]) rfl (fun b1 w4 hC hb4 hbl => ?_)
      try simp only [Act.put, List.setIfInBounds_toArray, List.set_cons_zero, List.set_cons_succ]
      have hput : putB l k p v = false := by unfold putB; rw [Int.toNat_natCast, Hx.out]; simp only; rw [← Hnx.out]; simp [h1]
      have hputl : putL l k p v = l := by unfold putL; split <;> simp [hput]
      have hne : (setI x.s x.zs n2 p v == 0) = false := by simpa using h1
      have hb14 := below_chain hw1 (below_chain hb3 hb4)
      have hCb : w.heap.size ≤ b1 := Nat.le_trans Hb.out.size hC.1
      have Hput := Lib.hid hput; have Hputl := Lib.hid hputl; have Hbl := Lib.hid hbl; have Hb14 := Lib.hid hb14
      clear hput hputl h1 hbl hb14 hb3 hb4 hw1 hx1 hx1'
      generalize setI x.s x.zs n2 p v = m at *
      go_wp2_with (refine wpL_store_surf ⟨0, 0, 0, 0, 0, 0, 0, 0, 0, 0, 0, 0, 0, emptyS, 0, 0, 0, 0, 0, 0, 0⟩ none 0 0 Hbl.out rfl rfl (.tmp 5) (.tmp 25) rfl rfl rfl ?_; refine step_list (fun wx => Below w.heap.size w wx) (Below.put22 Hb14.out hCb ⟨0, 0, 0, 0, 0, 0, 0, 0, 0, 0, 0, 0, 0, emptyS, 0, 0, 0, 0, 0, 0, 0⟩ none 0 0) ?_; clear Hbl; rintro w5 hfin; have Hfin := Lib.hid hfin; clear hfin)
      go_ret
      exact ⟨by rw [Hput.out]; rfl, by rw [Hputl.out]; exact H.out.go surfOk Hfin.out, grown_of_below Hfin.out⟩
    · refine hK _ _ hb3 ?_
      clear hK K
      iterate 3
        refine wpG_pure (v := ?_) rfl (by rfl) ?_ ?_
        rotate_left
        · intro y
          go_simp
          with_reducible rfl
        try simp only [Act.put, List.setIfInBounds_toArray, List.set_cons_zero, List.set_cons_succ]
      refine wpG_nil1 (l := [_, _]) rfl (fun b1 w4 hC hb4 hbl => ?_)
      try simp only [Act.put, List.setIfInBounds_toArray, List.set_cons_zero, List.set_cons_succ]
      have hput : putB l k p v = true := by unfold putB; rw [Hh.out, Int.toNat_natCast, Hx.out]; simp only; rw [← Hnx.out]; simp [h0]
      have hputl : putL l k p v = l.set k ⟨x.s.put p v, x.zs⟩ := by unfold putL; rw [Int.toNat_natCast, Hx.out]; simp [hput]
      have hb14 := below_chain hw1 (below_chain hb3 hb4)
      have hCb : w.heap.size ≤ b1 := Nat.le_trans Hb.out.size hC.1
      have hi4 : IRp (fun b => w.heap.size ≤ b ∧ b < w4.heap.size ∧ b ≠ g ∧ b ≠ b1) w4 3 a' n2 c' x.zs := hi.kept (fun b hb => hb4.block b hb.2) (fun b hb => ⟨by have := hb.1; have := hx1'.size; have := Hb.out.size; omega, by have := hb4.size; omega, by have := hx1'.size; omega, by have := hC.2; omega⟩)
      have Hput := Lib.hid hput; have Hputl := Lib.hid hputl; have Hbl := Lib.hid hbl; have Hb14 := Lib.hid hb14; have Hi4 := Lib.hid hi4; have Hc' := Lib.hid hc'
      have hg3 : (x.s.put p v).glass.size ≤ 9223372036854775807 := by
        obtain ⟨_, q2'⟩ := missI_zero (show missI x.s x.zs n2 p = 0 from by
          apply Decidable.byContradiction; intro hc
          unfold setI at h0; rw [if_neg hc] at h0; exact hc h0)
        obtain ⟨r1, r2⟩ := hasB_range q2'
        rcases ways17 r1 r2 with rfl | rfl | rfl | rfl | rfl | rfl | rfl | rfl | rfl | rfl | rfl | rfl | rfl | rfl | rfl | rfl | rfl <;> exact Hg2.out
      have hbx4 : b1 ≠ w.heap.size := by have := hC.1; omega
      have Hbx4 := Lib.hid ((below_chain hx1' (below_chain hb3 hb4)).block _ hl2 |>.trans Hbx.out)
      have hgb : b1 ≠ g := by omega
      have hbw : base ≤ w.heap.size := by
        rcases H.out.form with ⟨e, _⟩ | ⟨g', _, e, q, q2, _⟩
        · cases e
        · omega
      clear hput hputl hbl hb14 hb3 hb4 hw1 hx1 hx1' hi4 hi hc' q0 q1 q2 Hbx
      go_wp2_with (first
        | (refine wpL_store_surf (x.s.put p v) a' n2 c' Hbl.out rfl rfl (.tmp 5) (.tmp 25) rfl rfl rfl ?_; refine step_list (fun wx => SurfB wx b1 (x.s.put p v) a' n2 c' ∧ wx.heap[w.heap.size]? = some (.cells #[.int .i64 (k : Int), .int .i64 p, .int .i64 v] 72 (0, 0)) ∧ Below w.heap.size w wx ∧ IRp (fun b => w.heap.size ≤ b ∧ b < wx.heap.size ∧ b ≠ g) wx 3 a' n2 c' x.zs) ⟨SurfB.stored Hbl.out rfl _ _ _ _, W22.other Hbx4.out hbx4 _ _ _ _, Below.put22 Hb14.out hCb _ _ _ _, Hi4.out.kept ((keptOn_setCells b1 (cells22 (x.s.put p v) a' n2 c') 0 w4).mono (fun b hb => hb.2.2.2)) (fun b hb => ⟨hb.1, by have e := size_setCells b1 (cells22 (x.s.put p v) a' n2 c') 0 w4; exact Nat.lt_of_lt_of_le hb.2.1 (Nat.le_of_eq e.symm), hb.2.2.1⟩)⟩ ?_; clear Hbl Hbx4 Hi4; rintro w5 ⟨hs5, hbx5, hfin, hi5⟩; obtain ⟨q0, q1, q2⟩ := cells_of_three hbx5; have Hs5 := Lib.hid hs5; have Hfin := Lib.hid hfin; have Hi5 := Lib.hid hi5; have H5 := Lib.hid (H.out.go surfOk hfin); clear hs5 hfin hi5 hbx5)
        | (refine wpL_load_surf Hs5.out rfl (.tmp 5) rfl rfl ?_)
        | (refine wpL_store_at (x.s.put p v) a' n2 c' (H5.out.there hkl) rfl _ _ rfl rfl rfl ?_; refine step_list (fun wx => OwnR SurfR 22 70 base wx (.slice (some ⟨g, 0, none⟩) n c) (l.set k ⟨x.s.put p v, x.zs⟩) ∧ w.grownBy wx (some g)) ⟨H5.out.set surfOk hkl ⟨a', n2, c', rfl, Hi5.out.kept (KeptOn.refl _ _) (fun b hb => ⟨Nat.le_trans hbw hb.1, hb.2⟩), hn2, Hc'.out, hg3⟩, grown_setCells Hfin.out g _ _⟩ ?_; clear Hs5 H5; rintro w6 ⟨h6, hg6⟩; have H6 := Lib.hid h6; have Hg6 := Lib.hid hg6; clear h6 hg6))
      go_ret
      exact ⟨by rw [Hput.out]; rfl, by rw [Hputl.out]; exact H6.out, Hg6.out⟩

end Go.Proofs.YtgohdcccfkjooaaGreatDoor

namespace Go.Proofs.YtgohdcccfkjooaaGreatDoor
open Go.RowKit

/-- the surfaces behind the first k changes; none if one is not possible -/
def chN (l : List SurfC) (zs : List Int) : Nat → Option (List SurfC)
  | 0 => some l
  | k + 1 => (chN l zs k).bind fun l' => if againB zs k (zs.getD (k * 3) 0) (zs.getD (k * 3 + 1) 0) = false ∧ putB l' (zs.getD (k * 3) 0) (zs.getD (k * 3 + 1) 0) (zs.getD (k * 3 + 2) 0) = true then some (putL l' (zs.getD (k * 3) 0) (zs.getD (k * 3 + 1) 0) (zs.getD (k * 3 + 2) 0)) else none

theorem chN_none {l : List SurfC} {zs : List Int} {k n : Nat} (h : chN l zs k = none) (hk : k ≤ n) : chN l zs n = none := by
  induction n with
  | zero => obtain rfl : k = 0 := by omega
            exact h
  | succ n ih =>
    by_cases e : k = n + 1
    · subst e; exact h
    · unfold chN; rw [ih (by omega)]; rfl
theorem length_putL (l : List SurfC) (i p v : Int) : (putL l i p v).length = l.length := by
  unfold putL; split
  · split <;> simp
  · rfl

theorem getD_tk {zs : List Int} {m j : Nat} (h : j < m) : (zs.take m).getD j 0 = zs.getD j 0 := by
  simp only [List.getD_eq_getElem?_getD, List.getElem?_take, if_pos h]
theorem IR.take {N : Nat} {w : World} {k : Nat} {a : Option Addr} {n c : Nat} {zs : List Int} (h : IR N w k a n c zs) {i : Nat} (hi : i ≤ n) : IR N w k a i c (zs.take (i * k)) := by
  have hm := Nat.mul_le_mul_right k hi
  refine ⟨by rw [List.length_take, h.1]; omega, Nat.le_trans hi h.2.1, fun h0 => ?_⟩
  obtain ⟨b, off, e, hb, hc⟩ := h.2.2 (by omega)
  exact ⟨b, off, e, hb, fun j hj => by rw [getD_tk hj]; exact hc j (by omega)⟩
theorem againB_take (zs : List Int) (i : Nat) (s p : Int) : againB (zs.take (i * 3)) i s p = againB zs i s p := by
  unfold againB
  rw [Bool.eq_iff_iff, List.any_eq_true, List.any_eq_true]
  constructor
  all_goals
    rintro ⟨k, hk, h⟩
    have hk' := List.mem_range.1 hk
    refine ⟨k, hk, ?_⟩
    simp only [getD_tk (zs := zs) (m := i * 3) (j := k * 3) (by omega), getD_tk (zs := zs) (m := i * 3) (j := k * 3 + 1) (by omega)] at h ⊢
    exact h

/-- changed: the surfaces behind the changes; whether they are possible, and not too many -/
def RetCh (w : World) (l : List SurfC) (zs : List Int) (n : Nat) (e : Ending) (w' : World) : Prop :=
  (chN l zs n = none ∧ e = .returned (.tuple #[.slice none 0 0, .bool false]) ∧ Below w.heap.size w w') ∨
  (∃ l' g m c, chN l zs n = some l' ∧ e = .returned (.tuple #[.slice (some ⟨g, 0, none⟩) m c, .bool (decide (n ≤ 12))]) ∧ OwnR SurfR 22 70 w.heap.size w' (.slice (some ⟨g, 0, none⟩) m c) l' ∧ Below w.heap.size w w')

set_option maxRecDepth 100000 in
set_option maxHeartbeats 3200000 in
theorem changed_any (l : List SurfC) (zs : List Int) (a b : Option Addr) (m d n c : Nat) (w : World) (h : RR SurfR 22 (fun b => b < w.heap.size) w a m d l) (hm : m ≤ 1000000) (hz : IR w.heap.size w 3 b n c zs) (hn : n ≤ 1000000) (hp : Places w.heap.size w) :
    Calls Tryz.prog 167 #[.slice a m d, .slice b n c] w (RetCh w l zs n) := by
  have H := Lib.hid h; have Hz := Lib.hid hz; have Hp := Lib.hid hp; have hlen := h.1; have hnc := hz.2.1; clear h hz hp
  go_enter Tryz.func167, Tryz.ntmps167
  go_wp2_with ((with_reducible refine (own_surf l a m d _ H.out hm).mono ?_); rintro e w1 ⟨g, c1, rfl, ho, hb⟩; rw [hlen] at ho; rw [hlen]; have Ho := Lib.hid ho; have Hb := Lib.hid hb; clear ho hb)
  have hgN : w.heap.size ≤ g := by
    rcases Ho.out.form with ⟨e, _⟩ | ⟨g', _, e, q, _⟩
    · cases e
    · cases e; exact q
  go_loopw [14] (fun iv wr => ∃ k l', k ≤ n ∧ iv = .int .i64 (k : Int) ∧ chN l zs k = some l' ∧ OwnR SurfR 22 70 w.heap.size wr (.slice (some ⟨g, 0, none⟩) m c1) l' ∧ Below w.heap.size w wr) (fun iv _ => n - (intOf iv).toNat)
  case atStart => exact ⟨0, l, by omega, rfl, rfl, Ho.out, Hb.out⟩
  case round =>
    obtain ⟨k, l', hk, rfl, hch, ho, hb⟩ := hrel
    have Hch := Lib.hid hch; have Ho2 := Lib.hid ho; have Hb2 := Lib.hid hb
    clear hch ho hb
    by_cases hkn : k < n
    · have hz2 := Hz.out.go Hb2.out
      obtain ⟨b1, off, rfl, hlt, x0, x1, x2⟩ := hz2.at3 hkn
      have Hzt := Lib.hid (hz2.take (i := k) (by omega))
      clear hz2
      have hnx : chN l zs (k + 1) = if againB zs k (zs.getD (k * 3) 0) (zs.getD (k * 3 + 1) 0) = false ∧ putB l' (zs.getD (k * 3) 0) (zs.getD (k * 3 + 1) 0) (zs.getD (k * 3 + 2) 0) = true then some (putL l' (zs.getD (k * 3) 0) (zs.getD (k * 3 + 1) 0) (zs.getD (k * 3 + 2) 0)) else none := by
        rw [chN, Hch.out]; rfl
      have Hnx := Lib.hid hnx; clear hnx
      generalize zs.getD (k * 3) 0 = s0 at *
      generalize zs.getD (k * 3 + 1) 0 = p0 at *
      generalize zs.getD (k * 3 + 2) 0 = v0 at *
      have hbw : Below wr.heap.size wr (wr.alloc (.cells #[.int .i64 s0, .int .i64 p0, .int .i64 v0] 72)) := (Below.refl _ _).alloc (Nat.le_refl _) _
      have hnb := heap_alloc_new wr (.cells #[.int .i64 s0, .int .i64 p0, .int .i64 v0] 72)
      have Hbw := Lib.hid hbw; have Hnb := Lib.hid hnb; clear hbw hnb
      cases hag : againB zs k s0 p0 with
      | true =>
        have Hag := Lib.hid ((againB_take zs k s0 p0).trans hag); have Hag2 := Lib.hid hag; clear hag
        go_wp2_with ((with_reducible refine (contains_again (zs.take (k * 3)) _ k c s0 p0 wr.heap.size _ (Hzt.out.go Hbw.out) (by omega) (cells_of_three Hnb.out).1 (cells_of_three Hnb.out).2.1 (by simp)).mono ?_); rintro e w2 ⟨he, hb3⟩; rw [Hag.out] at he; subst he; have Hb3 := Lib.hid (below_chain Hbw.out hb3); clear hb3)
        go_ret2
        refine Or.inl ⟨chN_none (k := k + 1) ?_ (by omega), rfl, below_chain Hb2.out Hb3.out⟩
        rw [Hnx.out, if_neg (by rw [Hag2.out]; simp)]
      | false =>
        have Hag := Lib.hid ((againB_take zs k s0 p0).trans hag); have Hag2 := Lib.hid hag; clear hag
        cases hpu : putB l' s0 p0 v0
        all_goals
          have Hpu := Lib.hid hpu; clear hpu
          go_wp2_with (first
            | ((with_reducible refine (contains_again (zs.take (k * 3)) _ k c s0 p0 wr.heap.size _ (Hzt.out.go Hbw.out) (by omega) (cells_of_three Hnb.out).1 (cells_of_three Hnb.out).2.1 (by simp)).mono ?_); rintro e w2 ⟨he, hb3⟩; rw [Hag.out] at he; subst he; obtain ⟨q0, q1, q2⟩ := cells_of_three ((hb3.block wr.heap.size (by simp)).trans Hnb.out); have Hb3 := Lib.hid (below_chain Hbw.out hb3); clear hb3)
            | ((with_reducible refine (put_any l' g m c1 w.heap.size s0 p0 v0 _ (Ho2.out.go surfOk Hb3.out) hm (Hp.out.go (below_chain Hb2.out Hb3.out))).mono ?_); rintro e w3 ⟨he, ho3, hg3⟩; rw [Hpu.out] at he; subst he; have Ho3 := Lib.hid ho3; have Hb4 := Lib.hid ((below_chain Hb2.out Hb3.out).grown hg3 (below_chain Hb2.out Hb3.out).size (fun q hq => by cases hq; exact hgN)); clear ho3 hg3))
        · go_ret2
          refine Or.inl ⟨chN_none (k := k + 1) ?_ (by omega), rfl, Hb4.out⟩
          rw [Hnx.out, if_neg (by rw [Hpu.out]; simp)]
        · go_roundw
          case rel => exact ⟨k + 1, putL l' s0 p0 v0, by omega, by go_num, by rw [Hnx.out, if_pos ⟨Hag2.out, Hpu.out⟩], Ho3.out, Hb4.out⟩
          case measure => simp [intOf]; omega
    · obtain rfl : k = n := by omega
      by_cases h12 : k ≤ 12
      all_goals
        go_wp2
        go_ret2
        exact Or.inr ⟨l', g, m, c1, Hch.out, by simp [h12] <;> omega, Ho2.out, Hb2.out⟩

end Go.Proofs.YtgohdcccfkjooaaGreatDoor

namespace Go.Proofs.YtgohdcccfkjooaaGreatDoor
open Go.RowKit

/-- a lens -/
structure LensD where
  nm : ByteArray
  dist : Int
  pupil : Int
  stop : Int
  prim : Int
  fs : List Int
  ws : List Int
  l : List SurfC
  cf : List ConfC

/-- where its lists lie -/
structure Ptr where
  a : Option Addr
  n : Nat
  c : Nat
def Ptr.v (p : Ptr) : Value := .slice p.a p.n p.c

def cells9 (x : LensD) (f w s k : Ptr) : List Value := [.string x.nm, .int .i64 x.dist, .int .i64 x.pupil, .int .i64 x.stop, .int .i64 x.prim, .slice f.a f.n f.c, .slice w.a w.n w.c, .slice s.a s.n s.c, .slice k.a k.n k.c]

structure LensAt (S : Nat → Prop) (w : World) (x : LensD) (f v s k : Ptr) : Prop where
  fs : IRp S w 2 f.a f.n f.c x.fs
  ws : IRp S w 2 v.a v.n v.c x.ws
  l : RR SurfR 22 S w s.a s.n s.c x.l
  cf : RR ConfR 2 S w k.a k.n k.c x.cf
  fn : f.n ≤ 1000000
  wn : v.n ≤ 1000000
  sn : s.n ≤ 1000000
  kn : k.n ≤ 1000000
  fc : f.a = none → f.c = 0
  wc : v.a = none → v.c = 0
  nm : x.nm.size ≤ 9223372036854775807

theorem LensAt.kept {S T : Nat → Prop} {w w' : World} {x : LensD} {f v s k : Ptr} (h : LensAt S w x f v s k) (hk : KeptOn S w w') (hs : ∀ b, S b → T b) : LensAt T w' x f v s k :=
  ⟨h.fs.kept hk hs, h.ws.kept hk hs, h.l.kept surfOk hk hs, h.cf.kept confOk hk hs, h.fn, h.wn, h.sn, h.kn, h.fc, h.wc, h.nm⟩
theorem LensAt.go {w w' : World} {x : LensD} {f v s k : Ptr} (h : LensAt (fun b => b < w.heap.size) w x f v s k) (hb : Below w.heap.size w w') : LensAt (fun b => b < w'.heap.size) w' x f v s k :=
  h.kept (keptOn_below hb) (fun _b h => Nat.lt_of_lt_of_le h hb.size)

/-- block g holds the lens -/
def BenchB (w : World) (g : Nat) (T : TypeId) (x : LensD) (f v s k : Ptr) : Prop := w.heap[g]? = some (.cells (cells9 x f v s k).toArray T (0, 0))
theorem BenchB.cells {w : World} {g : Nat} {T : TypeId} {x : LensD} {f v s k : Ptr} (h : BenchB w g T x f v s k) :
    w.cell? ⟨g, 0, none⟩ = some (.string x.nm) ∧ w.cell? ⟨g, 1, none⟩ = some (.int .i64 x.dist) ∧ w.cell? ⟨g, 2, none⟩ = some (.int .i64 x.pupil) ∧ w.cell? ⟨g, 3, none⟩ = some (.int .i64 x.stop) ∧ w.cell? ⟨g, 4, none⟩ = some (.int .i64 x.prim) ∧
    w.cell? ⟨g, 5, none⟩ = some (.slice f.a f.n f.c) ∧ w.cell? ⟨g, 6, none⟩ = some (.slice v.a v.n v.c) ∧ w.cell? ⟨g, 7, none⟩ = some (.slice s.a s.n s.c) ∧ w.cell? ⟨g, 8, none⟩ = some (.slice k.a k.n k.c) := by
  unfold BenchB cells9 at h
  refine ⟨?_, ?_, ?_, ?_, ?_, ?_, ?_, ?_, ?_⟩ <;> simp [World.cell?, h]
theorem BenchB.free {w : World} {g : Nat} {T : TypeId} {x : LensD} {f v s k : Ptr} (h : BenchB w g T x f v s k) (j : Nat) : w.frozen? ⟨g, j, none⟩ = false := by
  unfold BenchB at h; simp [World.frozen?, h]
theorem BenchB.lt {w : World} {g : Nat} {T : TypeId} {x : LensD} {f v s k : Ptr} (h : BenchB w g T x f v s k) : g < w.heap.size := lt_of_block h
theorem BenchB.go {w w' : World} {g : Nat} {T : TypeId} {x : LensD} {f v s k : Ptr} (h : BenchB w g T x f v s k) (hb : Below w.heap.size w w') : BenchB w' g T x f v s k := (hb.block g h.lt).trans h

/-! ### fields -/
def fldOk (most : Int) (fs : List Int) (i : Nat) : Bool := bt (fs.getD (i * 2) 0) (-most) most && bt (fs.getD (i * 2 + 1) 0) (-most) most
def fldDup (fs : List Int) (i j : Nat) : Bool := decide (fs.getD (i * 2) 0 = fs.getD (j * 2) 0 ∧ fs.getD (i * 2 + 1) 0 = fs.getD (j * 2 + 1) 0)
def fldGood (most : Int) (fs : List Int) (i : Nat) : Bool := fldOk most fs i && !(List.range i).any (fldDup fs i)
def fldMost (dist : Int) : Int := if dist = 0 then 1000000 else 1000000000
def fieldsB (dist : Int) (fs : List Int) (n : Nat) : Bool := (List.range n).all (fldGood (fldMost dist) fs) && bt (n : Int) 1 5

theorem IR.at2 {N : Nat} {w : World} {a : Option Addr} {n c : Nat} {zs : List Int} (h : IR N w 2 a n c zs) {k : Nat} (hk : k < n) :
    ∃ b off, a = some ⟨b, off, none⟩ ∧ b < N ∧ w.cell? ⟨b, off + k * 2, none⟩ = some (.int .i64 (zs.getD (k * 2) 0)) ∧ w.cell? ⟨b, off + k * 2 + 1, none⟩ = some (.int .i64 (zs.getD (k * 2 + 1) 0)) := by
  obtain ⟨b, off, e, hb, hc⟩ := h.2.2 (by omega)
  exact ⟨b, off, e, hb, hc (k * 2) (by omega), hc (k * 2 + 1) (by omega)⟩

theorem range_all_bad {f : Nat → Bool} {n k : Nat} (hk : k < n) (h : f k = false) : (List.range n).all f = false := by
  rw [Bool.eq_false_iff]; intro ha
  have := List.all_eq_true.1 ha k (List.mem_range.2 hk)
  rw [h] at this; cases this
theorem range_all_next {f : Nat → Bool} {k : Nat} (h : (List.range k).all f = true) (hk : f k = true) : (List.range (k + 1)).all f = true := by
  rw [List.range_succ, List.all_append, h]; simp [hk]

set_option maxRecDepth 100000 in
set_option maxHeartbeats 3200000 in
theorem lfields_any (x : LensD) (f v s k : Ptr) (g : Nat) (T : TypeId) (w : World) (hg : BenchB w g T x f v s k) (hf : IR w.heap.size w 2 f.a f.n f.c x.fs) (hn : f.n ≤ 1000000) :
    Calls Tryz.prog 123 #[.pointer (some ⟨g, 0, none⟩)] w (RetB w (.bool (fieldsB x.dist x.fs f.n))) := by
  have Hg := Lib.hid hg; have Hf := Lib.hid hf; clear hg hf
  obtain ⟨fa, n, fc⟩ := f
  simp only at *
  show Calls _ _ _ w (RetB w (.bool (fieldsB x.dist x.fs n)))
  obtain ⟨_, c1, _, _, _, c5, _⟩ := Hg.out.cells
  have hl := Hg.out.lt
  have hm : ∃ most : Int, fldMost x.dist = most ∧ 0 ≤ most ∧ most ≤ 1000000000 ∧ ((x.dist = 0 ∧ most = 1000000) ∨ ((x.dist == 0) = false ∧ most = 1000000000)) := by
    by_cases h0 : x.dist = 0
    · exact ⟨1000000, by unfold fldMost; rw [if_pos h0], by omega, by omega, Or.inl ⟨h0, rfl⟩⟩
    · exact ⟨1000000000, by unfold fldMost; rw [if_neg h0], by omega, by omega, Or.inr ⟨by simpa using h0, rfl⟩⟩
  obtain ⟨most, hm0, hm1, hm2, hmm⟩ := hm
  have Hm0 := Lib.hid hm0; clear hm0
  rcases hmm with ⟨hd, rfl⟩ | ⟨hd, rfl⟩
  · rw [hd] at c1
    have Hd := Lib.hid hd; clear hd
    go_enter Tryz.func123, Tryz.ntmps123
    go_wp2_with fail
    go_loopw [20] (fun iv wr => ∃ i : Nat, i ≤ n ∧ iv = .int .i64 (i : Int) ∧ (List.range i).all (fldGood (fldMost x.dist) x.fs) = true ∧ Below w.heap.size w wr) (fun iv _ => n - (intOf iv).toNat)
    case atStart => exact ⟨0, by omega, rfl, rfl, Below.refl _ _⟩
    case round =>
      obtain ⟨i, hi, rfl, ho, hb⟩ := hrel
      have Ho := Lib.hid ho; have Hb := Lib.hid hb
      clear ho hb
      by_cases hin : i < n
      · obtain ⟨b1, off, rfl, hlt, x0, x1⟩ := (Hf.out.go Hb.out).at2 hin
        have hf2 := Hf.out.go Hb.out
        have hnc := hf2.2.1
        have Hf2 := Lib.hid hf2; clear hf2
        clear c1 c5
        obtain ⟨_, c1, _, _, _, c5, _⟩ := (Hg.out.go Hb.out).cells
        have hgood : ∀ b, fldGood (fldMost x.dist) x.fs i = b → (b = true → (List.range (i + 1)).all (fldGood (fldMost x.dist) x.fs) = true) ∧ (b = false → fieldsB x.dist x.fs n = false) := by
          intro b hb
          refine ⟨fun e => range_all_next Ho.out (hb.trans e), fun e => ?_⟩
          unfold fieldsB
          rw [range_all_bad hin (hb.trans e)]; rfl
        have Hgood := Lib.hid hgood; clear hgood
        have hok : fldOk (fldMost x.dist) x.fs i = (bt (x.fs.getD (i * 2) 0) (-1000000) 1000000 && bt (x.fs.getD (i * 2 + 1) 0) (-1000000) 1000000) := by unfold fldOk; rw [Hm0.out]
        have Hok := Lib.hid hok; clear hok
        have hdu : ∀ j, fldDup x.fs i j = decide (x.fs.getD (i * 2) 0 = x.fs.getD (j * 2) 0 ∧ x.fs.getD (i * 2 + 1) 0 = x.fs.getD (j * 2 + 1) 0) := fun j => rfl
        generalize hp0 : x.fs.getD (i * 2) 0 = p0 at *
        generalize hp1 : x.fs.getD (i * 2 + 1) 0 = p1 at *
        have Hdu := Lib.hid hdu; clear hdu hp0 hp1
        obtain ⟨wo, rfl⟩ : ∃ wo : World, wo = wr := ⟨_, rfl⟩
        have hgw : g < wo.heap.size := Nat.lt_of_lt_of_le hl Hb.out.size
        have hic : i ≤ fc := by omega
        have e5 := heap_alloc_new wo (.cells #[.int .i64 p0, .int .i64 p1] 112)
        have hbo := (Below.refl wo.heap.size wo).alloc (Nat.le_refl _) (.cells #[.int .i64 p0, .int .i64 p1] 112)
        have E5 := Lib.hid e5; have Hbo := Lib.hid hbo; clear e5 hbo
        go_wp2_with fail
        clear x0 x1 c1 c5
        go_loopw [33] (fun iv wr => ∃ j : Nat, j ≤ i ∧ iv = .int .i64 (j : Int) ∧ (List.range j).any (fldDup x.fs i) = false ∧ wr.heap[wo.heap.size]? = some (.cells #[.int .i64 p0, .int .i64 p1] 112 (0, 0)) ∧ Below wo.heap.size wo wr) (fun iv _ => i - (intOf iv).toNat)
        case atStart => exact ⟨0, by omega, rfl, rfl, E5.out, Hbo.out⟩
        case round =>
          obtain ⟨j, hj, rfl, hd2, e5, hb2⟩ := hrel
          have Hd2 := Lib.hid hd2; have Hb2 := Lib.hid hb2; have hl5 := lt_of_block e5
          have y0 := (obj_cell e5 0).trans rfl; have y1 := (obj_cell e5 1).trans rfl
          have E6 := Lib.hid e5
          clear hd2 hb2 e5
          by_cases hji : j < i
          · obtain ⟨b2, o2, e2, hlt2, z0, z1⟩ := (Hf2.out.go Hb2.out).at2 (k := j) (by omega)
            cases e2
            have hnd := Hdu.out j
            generalize x.fs.getD (j * 2) 0 = r0 at *
            generalize x.fs.getD (j * 2 + 1) 0 = r1 at *
            have Hnd := Lib.hid hnd; clear hnd
            have hways : (p0 = r0 ∧ p1 = r1) ∨ ¬ (p0 = r0 ∧ p1 = r1) ∧ (((p0 == r0) = false) ∨ (p0 = r0 ∧ (p1 == r1) = false)) := by
              simp only [beq_eq_false_iff_ne]; omega
            rcases hways with ⟨rfl, rfl⟩ | ⟨hne, hw⟩
            · go_wp2
              go_ret
              refine ⟨?_, below_chain Hb.out (below_al Hb2.out)⟩
              rw [(Hgood.out false (by unfold fldGood; rw [range_any_true hji (Hnd.out.trans (by simp))]; simp)).2 rfl]
              rfl
            · have Hne := Lib.hid hne; clear hne
              rcases hw with hw | ⟨rfl, hw⟩
              all_goals
                go_wp2
                go_roundw
                case rel => exact ⟨j + 1, by omega, by go_num, (range_any_next Hd2.out).trans (Hnd.out.trans (by simpa using Hne.out)), (Below.heap_alloc _ _ _ hl5).trans E6.out, below_al Hb2.out⟩
                case measure => simp [intOf]; omega
          · obtain rfl : j = i := by omega
            have Hmm := Lib.hid (below_chain Hb.out Hb2.out)
            cases hq0 : bt p0 (-1000000) 1000000 <;> cases hq1 : bt p1 (-1000000) 1000000
            all_goals
              have Q0 := Lib.hid hq0; have Q1 := Lib.hid hq1; clear hq0 hq1
              go_wp2_with (first
                | ((with_reducible refine (lbetween_any p0 _ _ _).mono ?_); rintro e w2 ⟨he, hb⟩; rw [Q0.out] at he; subst he; clear y0 y1; have y1 := ((hb.block _ hl5).trans E6.out |> fun h => (obj_cell h 1).trans rfl); have Hb3 := Lib.hid hb; clear hb)
                | ((with_reducible refine (lbetween_any p1 _ _ _).mono ?_); rintro e w3 ⟨he, hb⟩; rw [Q1.out] at he; subst he; have Hb4 := Lib.hid hb; clear hb))
            · go_ret
              refine ⟨?_, below_chain Hmm.out Hb3.out⟩
              rw [(Hgood.out false (by unfold fldGood; rw [Hok.out, Q0.out]; rfl)).2 rfl]
              rfl
            · go_ret
              refine ⟨?_, below_chain Hmm.out Hb3.out⟩
              rw [(Hgood.out false (by unfold fldGood; rw [Hok.out, Q0.out]; rfl)).2 rfl]
              rfl
            · go_ret
              refine ⟨?_, below_chain Hmm.out (below_chain Hb3.out Hb4.out)⟩
              rw [(Hgood.out false (by unfold fldGood; rw [Hok.out, Q0.out, Q1.out]; rfl)).2 rfl]
              rfl
            · go_roundw
              case rel => exact ⟨j + 1, by omega, by go_num, (Hgood.out true (by unfold fldGood; rw [Hok.out, Q0.out, Q1.out, Hd2.out]; rfl)).1 rfl, below_chain Hmm.out (below_chain Hb3.out Hb4.out)⟩
              case measure => simp [intOf]; omega
      · obtain rfl : i = n := by omega
        clear c1 c5
        obtain ⟨_, c1, _, _, _, c5, _⟩ := (Hg.out.go Hb.out).cells
        go_wp2_with ((with_reducible refine (lbetween_any _ _ _ _).mono ?_); rintro e w2 ⟨he, hb⟩; subst he)
        go_ret
        exact ⟨by unfold fieldsB; rw [Ho.out]; rfl, below_chain Hb.out hb⟩
  · go_enter Tryz.func123, Tryz.ntmps123
    go_wp2_with fail
    go_loopw [20] (fun iv wr => ∃ i : Nat, i ≤ n ∧ iv = .int .i64 (i : Int) ∧ (List.range i).all (fldGood (fldMost x.dist) x.fs) = true ∧ Below w.heap.size w wr) (fun iv _ => n - (intOf iv).toNat)
    case atStart => exact ⟨0, by omega, rfl, rfl, Below.refl _ _⟩
    case round =>
      obtain ⟨i, hi, rfl, ho, hb⟩ := hrel
      have Ho := Lib.hid ho; have Hb := Lib.hid hb
      clear ho hb
      by_cases hin : i < n
      · obtain ⟨b1, off, rfl, hlt, x0, x1⟩ := (Hf.out.go Hb.out).at2 hin
        have hf2 := Hf.out.go Hb.out
        have hnc := hf2.2.1
        have Hf2 := Lib.hid hf2; clear hf2
        clear c1 c5
        obtain ⟨_, c1, _, _, _, c5, _⟩ := (Hg.out.go Hb.out).cells
        have hgood : ∀ b, fldGood (fldMost x.dist) x.fs i = b → (b = true → (List.range (i + 1)).all (fldGood (fldMost x.dist) x.fs) = true) ∧ (b = false → fieldsB x.dist x.fs n = false) := by
          intro b hb
          refine ⟨fun e => range_all_next Ho.out (hb.trans e), fun e => ?_⟩
          unfold fieldsB
          rw [range_all_bad hin (hb.trans e)]; rfl
        have Hgood := Lib.hid hgood; clear hgood
        have hok : fldOk (fldMost x.dist) x.fs i = (bt (x.fs.getD (i * 2) 0) (-1000000000) 1000000000 && bt (x.fs.getD (i * 2 + 1) 0) (-1000000000) 1000000000) := by unfold fldOk; rw [Hm0.out]
        have Hok := Lib.hid hok; clear hok
        have hdu : ∀ j, fldDup x.fs i j = decide (x.fs.getD (i * 2) 0 = x.fs.getD (j * 2) 0 ∧ x.fs.getD (i * 2 + 1) 0 = x.fs.getD (j * 2 + 1) 0) := fun j => rfl
        generalize hp0 : x.fs.getD (i * 2) 0 = p0 at *
        generalize hp1 : x.fs.getD (i * 2 + 1) 0 = p1 at *
        have Hdu := Lib.hid hdu; clear hdu hp0 hp1
        obtain ⟨wo, rfl⟩ : ∃ wo : World, wo = wr := ⟨_, rfl⟩
        have hgw : g < wo.heap.size := Nat.lt_of_lt_of_le hl Hb.out.size
        have hic : i ≤ fc := by omega
        have e5 := heap_alloc_new wo (.cells #[.int .i64 p0, .int .i64 p1] 112)
        have hbo := (Below.refl wo.heap.size wo).alloc (Nat.le_refl _) (.cells #[.int .i64 p0, .int .i64 p1] 112)
        have E5 := Lib.hid e5; have Hbo := Lib.hid hbo; clear e5 hbo
        go_wp2_with fail
        clear x0 x1 c1 c5
        go_loopw [33] (fun iv wr => ∃ j : Nat, j ≤ i ∧ iv = .int .i64 (j : Int) ∧ (List.range j).any (fldDup x.fs i) = false ∧ wr.heap[wo.heap.size]? = some (.cells #[.int .i64 p0, .int .i64 p1] 112 (0, 0)) ∧ Below wo.heap.size wo wr) (fun iv _ => i - (intOf iv).toNat)
        case atStart => exact ⟨0, by omega, rfl, rfl, E5.out, Hbo.out⟩
        case round =>
          obtain ⟨j, hj, rfl, hd2, e5, hb2⟩ := hrel
          have Hd2 := Lib.hid hd2; have Hb2 := Lib.hid hb2; have hl5 := lt_of_block e5
          have y0 := (obj_cell e5 0).trans rfl; have y1 := (obj_cell e5 1).trans rfl
          have E6 := Lib.hid e5
          clear hd2 hb2 e5
          by_cases hji : j < i
          · obtain ⟨b2, o2, e2, hlt2, z0, z1⟩ := (Hf2.out.go Hb2.out).at2 (k := j) (by omega)
            cases e2
            have hnd := Hdu.out j
            generalize x.fs.getD (j * 2) 0 = r0 at *
            generalize x.fs.getD (j * 2 + 1) 0 = r1 at *
            have Hnd := Lib.hid hnd; clear hnd
            have hways : (p0 = r0 ∧ p1 = r1) ∨ ¬ (p0 = r0 ∧ p1 = r1) ∧ (((p0 == r0) = false) ∨ (p0 = r0 ∧ (p1 == r1) = false)) := by
              simp only [beq_eq_false_iff_ne]; omega
            rcases hways with ⟨rfl, rfl⟩ | ⟨hne, hw⟩
            · go_wp2
              go_ret
              refine ⟨?_, below_chain Hb.out (below_al Hb2.out)⟩
              rw [(Hgood.out false (by unfold fldGood; rw [range_any_true hji (Hnd.out.trans (by simp))]; simp)).2 rfl]
              rfl
            · have Hne := Lib.hid hne; clear hne
              rcases hw with hw | ⟨rfl, hw⟩
              all_goals
                go_wp2
                go_roundw
                case rel => exact ⟨j + 1, by omega, by go_num, (range_any_next Hd2.out).trans (Hnd.out.trans (by simpa using Hne.out)), (Below.heap_alloc _ _ _ hl5).trans E6.out, below_al Hb2.out⟩
                case measure => simp [intOf]; omega
          · obtain rfl : j = i := by omega
            have Hmm := Lib.hid (below_chain Hb.out Hb2.out)
            cases hq0 : bt p0 (-1000000000) 1000000000 <;> cases hq1 : bt p1 (-1000000000) 1000000000
            all_goals
              have Q0 := Lib.hid hq0; have Q1 := Lib.hid hq1; clear hq0 hq1
              go_wp2_with (first
                | ((with_reducible refine (lbetween_any p0 _ _ _).mono ?_); rintro e w2 ⟨he, hb⟩; rw [Q0.out] at he; subst he; clear y0 y1; have y1 := ((hb.block _ hl5).trans E6.out |> fun h => (obj_cell h 1).trans rfl); have Hb3 := Lib.hid hb; clear hb)
                | ((with_reducible refine (lbetween_any p1 _ _ _).mono ?_); rintro e w3 ⟨he, hb⟩; rw [Q1.out] at he; subst he; have Hb4 := Lib.hid hb; clear hb))
            · go_ret
              refine ⟨?_, below_chain Hmm.out Hb3.out⟩
              rw [(Hgood.out false (by unfold fldGood; rw [Hok.out, Q0.out]; rfl)).2 rfl]
              rfl
            · go_ret
              refine ⟨?_, below_chain Hmm.out Hb3.out⟩
              rw [(Hgood.out false (by unfold fldGood; rw [Hok.out, Q0.out]; rfl)).2 rfl]
              rfl
            · go_ret
              refine ⟨?_, below_chain Hmm.out (below_chain Hb3.out Hb4.out)⟩
              rw [(Hgood.out false (by unfold fldGood; rw [Hok.out, Q0.out, Q1.out]; rfl)).2 rfl]
              rfl
            · go_roundw
              case rel => exact ⟨j + 1, by omega, by go_num, (Hgood.out true (by unfold fldGood; rw [Hok.out, Q0.out, Q1.out, Hd2.out]; rfl)).1 rfl, below_chain Hmm.out (below_chain Hb3.out Hb4.out)⟩
              case measure => simp [intOf]; omega
      · obtain rfl : i = n := by omega
        clear c1 c5
        obtain ⟨_, c1, _, _, _, c5, _⟩ := (Hg.out.go Hb.out).cells
        go_wp2_with ((with_reducible refine (lbetween_any _ _ _ _).mono ?_); rintro e w2 ⟨he, hb⟩; subst he)
        go_ret
        exact ⟨by unfold fieldsB; rw [Ho.out]; rfl, below_chain Hb.out hb⟩
end Go.Proofs.YtgohdcccfkjooaaGreatDoor

namespace Go.Proofs.YtgohdcccfkjooaaGreatDoor
open Go.RowKit

/-- the length before wave i -/
def wavPrev (ws : List Int) (i : Nat) : Int := if i = 0 then 299999 else ws.getD ((i - 1) * 2) 0
def wavGood (ws : List Int) (i : Nat) : Bool := decide (wavPrev ws i < ws.getD (i * 2) 0) && decide (ws.getD (i * 2) 0 ≤ 2500000) && bt (ws.getD (i * 2 + 1) 0) 1 100
def wavesB (prim : Int) (ws : List Int) (n : Nat) : Bool := (List.range n).all (wavGood ws) && bt (n : Int) 1 5 && bt prim 0 ((n : Int) - 1)

set_option maxRecDepth 100000 in
set_option maxHeartbeats 3200000 in
theorem lwaves_any (x : LensD) (f v s k : Ptr) (g : Nat) (T : TypeId) (w : World) (hg : BenchB w g T x f v s k) (hf : IR w.heap.size w 2 v.a v.n v.c x.ws) (hn : v.n ≤ 1000000) :
    Calls Tryz.prog 124 #[.pointer (some ⟨g, 0, none⟩)] w (RetB w (.bool (wavesB x.prim x.ws v.n))) := by
  have Hg := Lib.hid hg; have Hf := Lib.hid hf; clear hg hf
  obtain ⟨va, n, vc⟩ := v
  simp only at *
  show Calls _ _ _ w (RetB w (.bool (wavesB x.prim x.ws n)))
  obtain ⟨_, _, _, _, _, _, c6, _⟩ := Hg.out.cells
  have hl := Hg.out.lt
  go_enter Tryz.func124, Tryz.ntmps124
  go_wp2_with fail
  go_loopw [3, 12] (fun pv iv wr => ∃ i : Nat, i ≤ n ∧ iv = .int .i64 (i : Int) ∧ pv = .int .i64 (wavPrev x.ws i) ∧ (List.range i).all (wavGood x.ws) = true ∧ Below w.heap.size w wr) (fun _ iv _ => n - (intOf iv).toNat)
  case atStart => exact ⟨0, by omega, rfl, rfl, rfl, Below.refl _ _⟩
  case round =>
    obtain ⟨i, hi, rfl, rfl, ho, hb⟩ := hrel
    have Ho := Lib.hid ho; have Hb := Lib.hid hb
    clear ho hb c6
    by_cases hin : i < n
    · obtain ⟨b1, off, rfl, hlt, x0, x1⟩ := (Hf.out.go Hb.out).at2 hin
      have hgood : ∀ b, wavGood x.ws i = b → (b = true → (List.range (i + 1)).all (wavGood x.ws) = true) ∧ (b = false → wavesB x.prim x.ws n = false) := by
        intro b hb
        refine ⟨fun e => range_all_next Ho.out (hb.trans e), fun e => ?_⟩
        unfold wavesB
        rw [range_all_bad hin (hb.trans e)]; rfl
      have hdef : wavGood x.ws i = (decide (wavPrev x.ws i < x.ws.getD (i * 2) 0) && decide (x.ws.getD (i * 2) 0 ≤ 2500000) && bt (x.ws.getD (i * 2 + 1) 0) 1 100) := rfl
      have hnext : wavPrev x.ws (i + 1) = x.ws.getD (i * 2) 0 := by unfold wavPrev; rw [if_neg (by omega), Nat.add_sub_cancel]
      generalize wavPrev x.ws i = pr at *
      generalize hp0 : x.ws.getD (i * 2) 0 = p0 at *
      generalize hp1 : x.ws.getD (i * 2 + 1) 0 = p1 at *
      have Hgood := Lib.hid hgood; have Hdef := Lib.hid hdef; have Hnext := Lib.hid hnext
      clear hgood hdef hnext hp0 hp1
      cases hq : bt p1 1 100 <;> by_cases h1 : pr < p0 <;> by_cases h2 : p0 ≤ 2500000
      all_goals
        have Q := Lib.hid hq; have H1 := Lib.hid h1; have H2 := Lib.hid h2; clear hq
        go_wp2_with ((with_reducible refine (lbetween_any p1 _ _ _).mono ?_); rintro e w2 ⟨he, hb⟩; rw [Q.out] at he; subst he; have hl5 : wr.heap.size < w2.heap.size := (by (have := hb.size; simp at this; omega)); have y0 := (obj_cell ((hb.block wr.heap.size (by simp)).trans (heap_alloc_new wr _)) 0).trans rfl; have Hb3 := Lib.hid (below_chain (below_al (Below.refl _ _)) hb); clear hb)
      all_goals first
        | (go_ret
           refine ⟨?_, (by first | exact below_chain Hb.out Hb3.out | exact below_chain Hb.out (below_al (Below.refl _ _)))⟩
           rw [(Hgood.out false (by rw [Hdef.out, Q.out]; simp [H1.out, H2.out])).2 rfl]; rfl)
        | (go_roundw
           case rel => exact ⟨i + 1, by omega, by go_num, by rw [Hnext.out], (Hgood.out true (by rw [Hdef.out, Q.out]; simp [H1.out, H2.out])).1 rfl, below_chain Hb.out Hb3.out⟩
           case measure => simp [intOf]; omega)
    · obtain rfl : i = n := by omega
      obtain ⟨_, _, _, _, c4, _, c6, _⟩ := (Hg.out.go Hb.out).cells
      have hgl : g < wr.heap.size := Nat.lt_of_lt_of_le hl Hb.out.size
      have hwrap : IntKind.i64.wrap ((i : Int) - 1) = (i : Int) - 1 := IntWalk.i64_in _ (by omega)
      cases h1 : bt (i : Int) 1 5
      all_goals
        have H1 := Lib.hid h1; clear h1
        go_upto_region 9 with fail
      · refine wp_region_floats 23 [] [] [(0, true), (1, true), (2, true), (3, true), (4, true), (5, true), (6, false), (7, true), (8, true), (9, true), (10, true), (11, true), (12, true), (13, true), (14, true), (15, true), (16, true), (17, true), (18, true), (19, true), (20, true), (21, true), (22, true)] (by kernel_rfl) (by kernel_rfl) ⟨by simp, by simp, fun _ h => by cases h⟩ (fun _ _ _ _ _ h => h) (fun _ _ o _ _ h => by cases o <;> exact h) ?_
        iterate 6
          refine wpG_yield (v := ?_) rfl rfl (by rfl) ?_ ?_
          rotate_left
          · intro y hy
            have z4 := (hy.cell (p := ⟨g, 4, none⟩) hgl).trans c4
            have z6 := (hy.cell (p := ⟨g, 6, none⟩) hgl).trans c6
            go_simp
            with_reducible rfl
          try simp only [Act.put, List.setIfInBounds_toArray, List.set_cons_zero, List.set_cons_succ]
        refine wpG_step rfl rfl (fun x1 hx1 K hK => ?_)
        go_simp
        refine (lbetween_any (i : Int) 1 5 _).mono ?_
        rintro e w2 ⟨he, hb2⟩
        rw [H1.out] at he; subst he
        refine hK _ _ hb2 ?_
        clear hK K
        have hx1' : Below wr.heap.size wr x1 := below_undrew (k := 1) hx1
        have hbx := below_chain hx1' hb2
        iterate 1
          refine wpG_pure (v := ?_) rfl (by rfl) ?_ ?_
          rotate_left
          · intro y
            go_simp
            with_reducible rfl
          try simp only [Act.put, List.setIfInBounds_toArray, List.set_cons_zero, List.set_cons_succ]
        iterate 13
          refine wpG_skip rfl (by rfl) ?_
          try simp only [Act.put, List.setIfInBounds_toArray, List.set_cons_zero, List.set_cons_succ]
        iterate 2
          refine wpG_pure (v := ?_) rfl (by rfl) ?_ ?_
          rotate_left
          · intro y
            go_simp
            with_reducible rfl
          try simp only [Act.put, List.setIfInBounds_toArray, List.set_cons_zero, List.set_cons_succ]
        refine wpG_nil0 (l := []) rfl (fun w3 hb3 => ?_)
        go_wp2
        go_ret
        refine ⟨?_, below_chain Hb.out (below_chain hbx hb3)⟩
        unfold wavesB
        rw [Ho.out, H1.out]; rfl
      · refine wp_region_floats 23 [] [] [(0, true), (1, true), (2, true), (3, true), (4, true), (5, true), (6, false), (7, true), (8, true), (9, true), (10, true), (11, true), (12, true), (13, true), (14, true), (15, true), (16, true), (17, true), (18, true), (19, true), (20, false), (21, true), (22, true)] (by kernel_rfl) (by kernel_rfl) ⟨by simp, by simp, fun _ h => by cases h⟩ (fun _ _ _ _ _ h => h) (fun _ _ o _ _ h => by cases o <;> exact h) ?_
        iterate 6
          refine wpG_yield (v := ?_) rfl rfl (by rfl) ?_ ?_
          rotate_left
          · intro y hy
            have z4 := (hy.cell (p := ⟨g, 4, none⟩) hgl).trans c4
            have z6 := (hy.cell (p := ⟨g, 6, none⟩) hgl).trans c6
            go_simp
            with_reducible rfl
          try simp only [Act.put, List.setIfInBounds_toArray, List.set_cons_zero, List.set_cons_succ]
        refine wpG_step rfl rfl (fun x1 hx1 K hK => ?_)
        go_simp
        refine (lbetween_any (i : Int) 1 5 _).mono ?_
        rintro e w2 ⟨he, hb2⟩
        rw [H1.out] at he; subst he
        refine hK _ _ hb2 ?_
        clear hK K
        have hx1' : Below wr.heap.size wr x1 := below_undrew (k := 1) hx1
        have hbx := below_chain hx1' hb2
        have k4 := (hbx.cell (p := ⟨g, 4, none⟩) hgl).trans c4
        have k6 := (hbx.cell (p := ⟨g, 6, none⟩) hgl).trans c6
        have hgl2 : g < w2.heap.size := Nat.lt_of_lt_of_le hgl hbx.size
        iterate 1
          refine wpG_pure (v := ?_) rfl (by rfl) ?_ ?_
          rotate_left
          · intro y
            go_simp
            with_reducible rfl
          try simp only [Act.put, List.setIfInBounds_toArray, List.set_cons_zero, List.set_cons_succ]
        iterate 12
          refine wpG_yield (v := ?_) rfl rfl (by rfl) ?_ ?_
          rotate_left
          · intro y hy
            have z4 := (hy.cell (p := ⟨g, 4, none⟩) hgl2).trans k4
            have z6 := (hy.cell (p := ⟨g, 6, none⟩) hgl2).trans k6
            go_simp
            with_reducible rfl
          try simp only [Act.put, List.setIfInBounds_toArray, List.set_cons_zero, List.set_cons_succ]
        refine wpG_stepw rfl (by rfl) (fun x2 hx2 K hK => ?_)
        go_simp
        refine (lbetween_any x.prim 0 ((i : Int) - 1) _).mono ?_
        rintro e w4 ⟨he, hb4⟩
        subst he
        refine hK _ _ hb4 ?_
        clear hK K
        iterate 2
          refine wpG_pure (v := ?_) rfl (by rfl) ?_ ?_
          rotate_left
          · intro y
            go_simp
            with_reducible rfl
          try simp only [Act.put, List.setIfInBounds_toArray, List.set_cons_zero, List.set_cons_succ]
        refine wpG_nil0 (l := []) rfl (fun w3 hb3 => ?_)
        have h34 : Below x2.heap.size x2 w3 := below_chain hb4 hb3
        have h24 : Below w2.heap.size w2 w3 := below_chain hx2 h34
        have h14 : Below wr.heap.size wr w3 := below_chain hbx h24
        have h04 : Below w.heap.size w w3 := below_chain Hb.out h14
        have Hfin := Lib.hid h04
        clear h34 h24 h14 h04 hb4 hb3 hx2 hbx
        go_wp2
        go_ret
        refine ⟨?_, Hfin.out⟩
        unfold wavesB
        rw [Ho.out, H1.out]; rfl

end Go.Proofs.YtgohdcccfkjooaaGreatDoor

namespace Go.Proofs.YtgohdcccfkjooaaGreatDoor
open Go.RowKit

def lastImg (l : List SurfC) : Bool := match l[l.length - 1]? with
  | some x => imageB x.s (x.zs.length / 3)
  | none => false
def kindAt (l : List SurfC) (i : Int) : Int := match l[i.toNat]? with
  | some x => x.s.kind
  | none => 0
def surfacesB (stop : Int) (l : List SurfC) : Bool := bt (l.length : Int) 2 16 && bt stop 0 ((l.length : Int) - 2) && !badB l && lastImg l && (kindAt l stop != 3)

set_option maxRecDepth 100000 in
set_option maxHeartbeats 3200000 in
theorem lsurfaces_any (x : LensD) (f v s k : Ptr) (g : Nat) (T : TypeId) (w : World) (hg : BenchB w g T x f v s k) (hf : RR SurfR 22 (fun b => b < w.heap.size) w s.a s.n s.c x.l) (hn : s.n ≤ 1000000) :
    Calls Tryz.prog 125 #[.pointer (some ⟨g, 0, none⟩)] w (RetB w (.bool (surfacesB x.stop x.l))) := by
  have Hg := Lib.hid hg; have Hf := Lib.hid hf
  have hlen := hf.1; clear hg hf
  obtain ⟨sa, n, sc⟩ := s
  simp only at *
  obtain ⟨_, _, _, c3, _, _, _, c7, _⟩ := Hg.out.cells
  have hl := Hg.out.lt
  have hdef : surfacesB x.stop x.l = (bt (n : Int) 2 16 && bt x.stop 0 ((n : Int) - 2) && !badB x.l && lastImg x.l && (kindAt x.l x.stop != 3)) := by unfold surfacesB; rw [hlen]
  have Hdef := Lib.hid hdef; clear hdef
  have hwr : IntKind.i64.wrap ((n : Int) - 2) = (n : Int) - 2 := IntWalk.i64_in _ (by omega)
  cases h1 : bt (n : Int) 2 16 with
  | false =>
    have H1 := Lib.hid h1; clear h1
    go_enter Tryz.func125, Tryz.ntmps125
    go_wp2_with ((with_reducible refine (lbetween_any (n : Int) 2 16 _).mono ?_); rintro e w2 ⟨he, hb⟩; rw [H1.out] at he; subst he; have Hb := Lib.hid hb; clear hb)
    go_ret
    exact ⟨by rw [Hdef.out, H1.out]; rfl, Hb.out⟩
  | true =>
    have hn2 : 2 ≤ (n : Int) ∧ (n : Int) ≤ 16 := by simpa [bt] using h1
    have H1 := Lib.hid h1; clear h1
    cases h2 : bt x.stop 0 ((n : Int) - 2) with
    | false =>
      have H2 := Lib.hid h2; clear h2
      go_enter Tryz.func125, Tryz.ntmps125
      go_wp2_with (first
        | ((with_reducible refine (lbetween_any (n : Int) 2 16 _).mono ?_); rintro e w2 ⟨he, hb⟩; rw [H1.out] at he; subst he; have Hb := Lib.hid hb; clear c3 c7; have c3 := (hb.cell (p := ⟨g, 3, none⟩) hl).trans (Hg.out.cells).2.2.2.1; clear hb)
        | ((with_reducible refine (lbetween_any x.stop 0 ((n : Int) - 2) _).mono ?_); rintro e w3 ⟨he, hb⟩; rw [H2.out] at he; subst he; have Hb2 := Lib.hid hb; clear hb))
      go_ret
      exact ⟨by rw [Hdef.out, H1.out, H2.out]; rfl, below_chain Hb.out Hb2.out⟩
    | true =>
      have hst : 0 ≤ x.stop ∧ x.stop ≤ (n : Int) - 2 := by simpa [bt] using h2
      have H2 := Lib.hid h2; clear h2
      obtain ⟨m, hm⟩ : ∃ m, n = m + 1 := ⟨n - 1, by omega⟩
      obtain ⟨j, hj⟩ : ∃ j : Nat, x.stop = (j : Int) := ⟨x.stop.toNat, by omega⟩
      have hmn : m < n := by omega
      have hjn : j < n := by omega
      have hwm : IntKind.i64.wrap ((n : Int) - 1) = (m : Int) := (IntWalk.i64_in _ (by omega)).trans (by omega)
      have Hm := Lib.hid hm; have Hj := Lib.hid hj; have Hst := Lib.hid hst
      clear hm hj hst
      go_enter Tryz.func125, Tryz.ntmps125
      go_upto_region 5 with (first
        | ((with_reducible refine (lbetween_any (n : Int) 2 16 _).mono ?_); rintro e w2 ⟨he, hb⟩; rw [H1.out] at he; subst he; have Hb := Lib.hid hb; clear c3 c7; have c3 := (hb.cell (p := ⟨g, 3, none⟩) hl).trans (Hg.out.cells).2.2.2.1; clear hb)
        | ((with_reducible refine (lbetween_any x.stop 0 ((n : Int) - 2) _).mono ?_); rintro e w3 ⟨he, hb⟩; rw [H2.out] at he; subst he; have Hb2 := Lib.hid (below_chain Hb.out hb); clear hb))
      have hgl : g < w3.heap.size := Nat.lt_of_lt_of_le hl Hb2.out.size
      obtain ⟨_, _, _, c3, _, _, _, c7, _⟩ := (Hg.out.go Hb2.out).cells
      rw [Hj.out] at c3
      have Hf3 := Lib.hid (Hf.out.go surfOk Hb2.out)
      obtain ⟨b1, off, y, cs, rfl, hlt, hy, ⟨a2, n2, c2, rfl, hz, hn2', hc2, hg2⟩, hr⟩ := Hf3.out.at hmn
      obtain ⟨b1', off', z, cs', e', _, hz', ⟨a3, n3, c3', rfl, hzz, _, _, _⟩, hr'⟩ := Hf3.out.at hjn
      cases e'
      have hlast : lastImg x.l = imageB y.s n2 := by unfold lastImg; rw [hlen, show n - 1 = m by (have := Hm.out; omega), hy]; simp only; rw [← coat_n hz]
      have hkind : kindAt x.l x.stop = z.s.kind := by unfold kindAt; rw [Hj.out, Int.toNat_natCast, hz']
      have Hlast := Lib.hid hlast; have Hkind := Lib.hid hkind; have Hr := Lib.hid hr
      have d0 : w3.cell? ⟨b1, off + j * 22, none⟩ = some (.int .i64 z.s.kind) := by have := hr' 0 _ rfl; rwa [Nat.add_zero] at this
      clear hlast hkind hr hr' hz hzz hy hz' hc2 hg2
      cases hbad : badB x.l with
      | true =>
        have Hbad := Lib.hid hbad; clear hbad
        refine wp_region_floats 37 [] [] [(0, true), (1, true), (2, true), (3, true), (4, true), (5, true), (6, false), (7, true), (8, true), (9, true), (10, true), (11, true), (12, true), (13, true), (14, true), (15, true), (16, true), (17, true), (18, true), (19, true), (20, true), (21, true), (22, true), (23, true), (24, true), (25, true), (26, true), (27, true), (28, true), (29, true), (30, true), (31, true), (32, true), (33, true), (34, true), (35, true), (36, true)] (by kernel_rfl) (by kernel_rfl) ⟨by simp, by simp, fun _ h => by cases h⟩ (fun _ _ _ _ _ h => h) (fun _ _ o _ _ h => by cases o <;> exact h) ?_
        iterate 6
          refine wpG_yield (v := ?_) rfl rfl (by rfl) ?_ ?_
          rotate_left
          · intro y hy
            have z7 := (hy.cell (p := ⟨g, 7, none⟩) hgl).trans c7
            go_simp
            with_reducible rfl
          try simp only [Act.put, List.setIfInBounds_toArray, List.set_cons_zero, List.set_cons_succ]
        refine wpG_step rfl rfl (fun x1 hx1 K hK => ?_)
        go_simp
        have hx1' : Below w3.heap.size w3 x1 := below_undrew (k := 1) hx1
        refine (contains_bad x.l _ n sc _ (Hf3.out.go surfOk hx1') hn).mono ?_
        rintro e w4 ⟨he, hb4⟩
        rw [Hbad.out] at he; subst he
        refine hK _ _ hb4 ?_
        clear hK K
        have hbx := below_chain hx1' hb4
        iterate 2
          refine wpG_pure (v := ?_) rfl (by rfl) ?_ ?_
          rotate_left
          · intro y
            go_simp
            with_reducible rfl
          try simp only [Act.put, List.setIfInBounds_toArray, List.set_cons_zero, List.set_cons_succ]
        iterate 10
          refine wpG_skip rfl (by rfl) ?_
          try simp only [Act.put, List.setIfInBounds_toArray, List.set_cons_zero, List.set_cons_succ]
        iterate 2
          refine wpG_pure (v := ?_) rfl (by rfl) ?_ ?_
          rotate_left
          · intro y
            go_simp
            with_reducible rfl
          try simp only [Act.put, List.setIfInBounds_toArray, List.set_cons_zero, List.set_cons_succ]
        iterate 14
          refine wpG_skip rfl (by rfl) ?_
          try simp only [Act.put, List.setIfInBounds_toArray, List.set_cons_zero, List.set_cons_succ]
        iterate 2
          refine wpG_pure (v := ?_) rfl (by rfl) ?_ ?_
          rotate_left
          · intro y
            go_simp
            with_reducible rfl
          try simp only [Act.put, List.setIfInBounds_toArray, List.set_cons_zero, List.set_cons_succ]
        refine wpG_nil0 (l := []) rfl (fun w5 hb5 => ?_)
        have Hfin := Lib.hid (below_chain Hb2.out (below_chain hbx hb5))
        clear hbx hb5 hb4 hx1' hx1
        go_wp2
        go_ret
        exact ⟨by rw [Hdef.out, Hbad.out, H1.out, H2.out]; rfl, Hfin.out⟩
      | false =>
        have Hbad := Lib.hid hbad; clear hbad
        cases him : imageB y.s n2
        · have Him := Lib.hid him; clear him
          refine wp_region_floats 37 [] [] [(0, true), (1, true), (2, true), (3, true), (4, true), (5, true), (6, false), (7, true), (8, true), (9, true), (10, true), (11, true), (12, true), (13, true), (14, true), (15, true), (16, true), (17, true), (18, false), (19, true), (20, true), (21, true), (22, true), (23, true), (24, true), (25, true), (26, true), (27, true), (28, true), (29, true), (30, true), (31, true), (32, true), (33, true), (34, true), (35, true), (36, true)] (by kernel_rfl) (by kernel_rfl) ⟨by simp, by simp, fun _ h => by cases h⟩ (fun _ _ _ _ _ h => h) (fun _ _ o _ _ h => by cases o <;> exact h) ?_
          iterate 6
            refine wpG_yield (v := ?_) rfl rfl (by rfl) ?_ ?_
            rotate_left
            · intro y hy
              have z7 := (hy.cell (p := ⟨g, 7, none⟩) hgl).trans c7
              go_simp
              with_reducible rfl
            try simp only [Act.put, List.setIfInBounds_toArray, List.set_cons_zero, List.set_cons_succ]
          refine wpG_step rfl rfl (fun x1 hx1 K hK => ?_)
          go_simp
          have hx1' : Below w3.heap.size w3 x1 := below_undrew (k := 1) hx1
          refine (contains_bad x.l _ n sc _ (Hf3.out.go surfOk hx1') hn).mono ?_
          rintro e w4 ⟨he, hb4⟩
          rw [Hbad.out] at he; subst he
          refine hK _ _ hb4 ?_
          clear hK K
          have hbx : Below w3.heap.size w3 w4 := below_chain hx1' hb4
          have hgl4 : g < w4.heap.size := Nat.lt_of_lt_of_le hgl hbx.size
          have k7 := (hbx.cell (p := ⟨g, 7, none⟩) hgl).trans c7
          have k3 := (hbx.cell (p := ⟨g, 3, none⟩) hgl).trans c3
          have hlt4 : b1 < w4.heap.size := Nat.lt_of_lt_of_le hlt hbx.size
          have kr := rangeAt_kept Hr.out (keptOn_below hbx) hlt
          have e0 := (hbx.cell (p := ⟨b1, off + j * 22, none⟩) hlt).trans d0
          have Kr := Lib.hid kr; have Hbx := Lib.hid hbx
          clear kr hb4 hx1' hx1 hbx c3 c7 d0
          iterate 2
            refine wpG_pure (v := ?_) rfl (by rfl) ?_ ?_
            rotate_left
            · intro y
              go_simp
              with_reducible rfl
            try simp only [Act.put, List.setIfInBounds_toArray, List.set_cons_zero, List.set_cons_succ]
          iterate 8
            refine wpG_yield (v := ?_) rfl rfl (by rfl) ?_ ?_
            rotate_left
            · intro y hy
              have z7 := (hy.cell (p := ⟨g, 7, none⟩) hgl4).trans k7
              go_simp
              with_reducible rfl
            try simp only [Act.put, List.setIfInBounds_toArray, List.set_cons_zero, List.set_cons_succ]
          refine wpG_load_at rfl rfl (by rfl) (fun y hy => rangeAt_kept Kr.out (keptOn_below hy) hlt4) _ rfl rfl ?_
          try simp only [Act.put, List.setIfInBounds_toArray, List.set_cons_zero, List.set_cons_succ]
          refine wpG_stepw rfl (by rfl) (fun x2 hx2 K hK => ?_)
          go_simp
          refine (image_any y.s a2 n2 c2 _).mono ?_
          rintro e w6 ⟨he, hb6⟩
          rw [Him.out] at he; subst he
          refine hK _ _ hb6 ?_
          clear hK K
          have hby : Below w4.heap.size w4 w6 := below_chain hx2 hb6
          have hgl6 : g < w6.heap.size := Nat.lt_of_lt_of_le hgl4 hby.size
          have hlt6 : b1 < w6.heap.size := Nat.lt_of_lt_of_le hlt4 hby.size
          have l7 := (hby.cell (p := ⟨g, 7, none⟩) hgl4).trans k7
          have l3 := (hby.cell (p := ⟨g, 3, none⟩) hgl4).trans k3
          have f0 := (hby.cell (p := ⟨b1, off + j * 22, none⟩) hlt4).trans e0
          have Hby := Lib.hid hby
          clear hb6 hx2 hby k3 k7 e0
          iterate 2
            refine wpG_pure (v := ?_) rfl (by rfl) ?_ ?_
            rotate_left
            · intro y
              go_simp
              with_reducible rfl
            try simp only [Act.put, List.setIfInBounds_toArray, List.set_cons_zero, List.set_cons_succ]
          iterate 14
            refine wpG_skip rfl (by rfl) ?_
            try simp only [Act.put, List.setIfInBounds_toArray, List.set_cons_zero, List.set_cons_succ]
          iterate 2
            refine wpG_pure (v := ?_) rfl (by rfl) ?_ ?_
            rotate_left
            · intro y
              go_simp
              with_reducible rfl
            try simp only [Act.put, List.setIfInBounds_toArray, List.set_cons_zero, List.set_cons_succ]
          refine wpG_nil0 (l := []) rfl (fun w5 hb5 => ?_)
          have Hfin := Lib.hid (below_chain Hb2.out (below_chain Hbx.out (below_chain Hby.out hb5)))
          clear hb5
          go_wp2
          go_ret
          exact ⟨by rw [Hdef.out, Hbad.out, H1.out, H2.out, Hlast.out, Him.out]; rfl, Hfin.out⟩
        · have Him := Lib.hid him; clear him
          refine wp_region_floats 37 [] [] [(0, true), (1, true), (2, true), (3, true), (4, true), (5, true), (6, false), (7, true), (8, true), (9, true), (10, true), (11, true), (12, true), (13, true), (14, true), (15, true), (16, true), (17, true), (18, false), (19, true), (20, true), (21, true), (22, true), (23, true), (24, true), (25, true), (26, true), (27, true), (28, true), (29, true), (30, true), (31, true), (32, true), (33, true), (34, true), (35, true), (36, true)] (by kernel_rfl) (by kernel_rfl) ⟨by simp, by simp, fun _ h => by cases h⟩ (fun _ _ _ _ _ h => h) (fun _ _ o _ _ h => by cases o <;> exact h) ?_
          iterate 6
            refine wpG_yield (v := ?_) rfl rfl (by rfl) ?_ ?_
            rotate_left
            · intro y hy
              have z7 := (hy.cell (p := ⟨g, 7, none⟩) hgl).trans c7
              go_simp
              with_reducible rfl
            try simp only [Act.put, List.setIfInBounds_toArray, List.set_cons_zero, List.set_cons_succ]
          refine wpG_step rfl rfl (fun x1 hx1 K hK => ?_)
          go_simp
          have hx1' : Below w3.heap.size w3 x1 := below_undrew (k := 1) hx1
          refine (contains_bad x.l _ n sc _ (Hf3.out.go surfOk hx1') hn).mono ?_
          rintro e w4 ⟨he, hb4⟩
          rw [Hbad.out] at he; subst he
          refine hK _ _ hb4 ?_
          clear hK K
          have hbx : Below w3.heap.size w3 w4 := below_chain hx1' hb4
          have hgl4 : g < w4.heap.size := Nat.lt_of_lt_of_le hgl hbx.size
          have k7 := (hbx.cell (p := ⟨g, 7, none⟩) hgl).trans c7
          have k3 := (hbx.cell (p := ⟨g, 3, none⟩) hgl).trans c3
          have hlt4 : b1 < w4.heap.size := Nat.lt_of_lt_of_le hlt hbx.size
          have kr := rangeAt_kept Hr.out (keptOn_below hbx) hlt
          have e0 := (hbx.cell (p := ⟨b1, off + j * 22, none⟩) hlt).trans d0
          have Kr := Lib.hid kr; have Hbx := Lib.hid hbx
          clear kr hb4 hx1' hx1 hbx c3 c7 d0
          iterate 2
            refine wpG_pure (v := ?_) rfl (by rfl) ?_ ?_
            rotate_left
            · intro y
              go_simp
              with_reducible rfl
            try simp only [Act.put, List.setIfInBounds_toArray, List.set_cons_zero, List.set_cons_succ]
          iterate 8
            refine wpG_yield (v := ?_) rfl rfl (by rfl) ?_ ?_
            rotate_left
            · intro y hy
              have z7 := (hy.cell (p := ⟨g, 7, none⟩) hgl4).trans k7
              go_simp
              with_reducible rfl
            try simp only [Act.put, List.setIfInBounds_toArray, List.set_cons_zero, List.set_cons_succ]
          refine wpG_load_at rfl rfl (by rfl) (fun y hy => rangeAt_kept Kr.out (keptOn_below hy) hlt4) _ rfl rfl ?_
          try simp only [Act.put, List.setIfInBounds_toArray, List.set_cons_zero, List.set_cons_succ]
          refine wpG_stepw rfl (by rfl) (fun x2 hx2 K hK => ?_)
          go_simp
          refine (image_any y.s a2 n2 c2 _).mono ?_
          rintro e w6 ⟨he, hb6⟩
          rw [Him.out] at he; subst he
          refine hK _ _ hb6 ?_
          clear hK K
          have hby : Below w4.heap.size w4 w6 := below_chain hx2 hb6
          have hgl6 : g < w6.heap.size := Nat.lt_of_lt_of_le hgl4 hby.size
          have hlt6 : b1 < w6.heap.size := Nat.lt_of_lt_of_le hlt4 hby.size
          have l7 := (hby.cell (p := ⟨g, 7, none⟩) hgl4).trans k7
          have l3 := (hby.cell (p := ⟨g, 3, none⟩) hgl4).trans k3
          have f0 := (hby.cell (p := ⟨b1, off + j * 22, none⟩) hlt4).trans e0
          have Hby := Lib.hid hby
          clear hb6 hx2 hby k3 k7 e0
          iterate 2
            refine wpG_pure (v := ?_) rfl (by rfl) ?_ ?_
            rotate_left
            · intro y
              go_simp
              with_reducible rfl
            try simp only [Act.put, List.setIfInBounds_toArray, List.set_cons_zero, List.set_cons_succ]
          iterate 14
            refine wpG_yield (v := ?_) rfl rfl (by rfl) ?_ ?_
            rotate_left
            · intro y hy
              have z7 := (hy.cell (p := ⟨g, 7, none⟩) hgl6).trans l7
              have z3 := (hy.cell (p := ⟨g, 3, none⟩) hgl6).trans l3
              have z0 := (hy.cell (p := ⟨b1, off + j * 22, none⟩) hlt6).trans f0
              go_simp
              with_reducible rfl
            try simp only [Act.put, List.setIfInBounds_toArray, List.set_cons_zero, List.set_cons_succ]
          iterate 2
            refine wpG_pure (v := ?_) rfl (by rfl) ?_ ?_
            rotate_left
            · intro y
              go_simp
              with_reducible rfl
            try simp only [Act.put, List.setIfInBounds_toArray, List.set_cons_zero, List.set_cons_succ]
          refine wpG_nil0 (l := []) rfl (fun w5 hb5 => ?_)
          have Hfin := Lib.hid (below_chain Hb2.out (below_chain Hbx.out (below_chain Hby.out hb5)))
          clear hb5
          go_wp2
          go_ret
          exact ⟨by rw [Hdef.out, Hbad.out, H1.out, H2.out, Hlast.out, Him.out, Hkind.out]; rfl, Hfin.out⟩

end Go.Proofs.YtgohdcccfkjooaaGreatDoor

namespace Go.Proofs.YtgohdcccfkjooaaGreatDoor
open Go.RowKit

/-- block b is a map of the strings ks to true -/
def MapOf (w : World) (b : Nat) (ks : List ByteArray) : Prop :=
  ∃ es clock, w.heap[b]? = some (.map es clock) ∧ es.toList.map (fun e => (e.key, e.val)) = ks.map (fun s => (Value.string s, Value.bool true))

def memB (s : ByteArray) (ks : List ByteArray) : Bool := ks.any fun k => s == k

theorem findNow_str (s : ByteArray) : ∀ (l : List MapEntry) (ks : List ByteArray) (i : Nat), l.map (fun e => (e.key, e.val)) = ks.map (fun s => (Value.string s, Value.bool true)) →
    (memB s ks = true ∧ ∃ j, Instr.findNow .string (.string s) l i = some (some (j, .bool true))) ∨ (memB s ks = false ∧ Instr.findNow .string (.string s) l i = some none)
  | [], [], i, _ => Or.inr ⟨by simp [memB], rfl⟩
  | [], k :: ks, i, h => by cases h
  | e :: l, [], i, h => by cases h
  | e :: l, k :: ks, i, h => by
    simp only [List.map_cons, List.cons.injEq, Prod.mk.injEq] at h
    obtain ⟨⟨h1, h2⟩, h3⟩ := h
    unfold Instr.findNow
    rw [h1, h2]
    simp only [Instr.sameNow]
    cases e : (s == k)
    · rcases findNow_str s l ks (i + 1) h3 with ⟨q1, q2⟩ | ⟨q1, q2⟩
      · exact Or.inl ⟨by unfold memB at *; rw [List.any_cons, e, q1]; rfl, q2⟩
      · exact Or.inr ⟨by unfold memB at *; rw [List.any_cons, e, q1]; rfl, q2⟩
    · exact Or.inl ⟨by unfold memB; rw [List.any_cons, e]; rfl, i, rfl⟩

theorem run_lookup_str {P : Program} {t kt e : TypeId} (ht : P.underlying t = some (.map kt e)) (hk : P.underlying kt = some .string) {w : World} (hz : (zeroValue e).run P w = .ok (.bool false) w) {b : Nat} {ks : List ByteArray} (h : MapOf w b ks) (s : ByteArray) :
    (Instr.lookup t (.map (some b)) (.string s) false).run P w = .ok (.bool (memB s ks)) w := by
  obtain ⟨es, clock, hb, hes⟩ := h
  have hc : ∀ b, (Instr.checkKey b 10000 kt (.string s)).run P w = .ok () w := fun b => by
    rw [show (10000 : Nat) = 9999 + 1 from rfl, Instr.checkKey, Sem.run_bind, run_underlying hk]
    rfl
  rcases findNow_str s es.toList ks 0 hes with ⟨q1, j, q2⟩ | ⟨q1, q2⟩
  · simp [Instr.lookup, Instr.findKey, Sem.run_bind, run_underlying ht, run_underlying hk, MapKept.run_getObj_map hb, hc, q2, q1]
  · simp [Instr.lookup, Instr.findKey, Sem.run_bind, run_underlying ht, run_underlying hk, MapKept.run_getObj_map hb, hc, q2, q1, hz]

theorem run_update_str {P : Program} {t kt e : TypeId} (ht : P.underlying t = some (.map kt e)) (hk : P.underlying kt = some .string) {w : World} {b : Nat} {ks : List ByteArray} (h : MapOf w b ks) (s : ByteArray) (hs : memB s ks = false) :
    ∃ w', (Instr.mapUpdate t (.map (some b)) (.string s) (.bool true)).run P w = .ok () w' ∧ MapOf w' b (ks ++ [s]) ∧ w.grownBy w' (some b) := by
  obtain ⟨es, clock, hb, hes⟩ := h
  have hc : (Instr.checkKey false 10000 kt (.string s)).run P w = .ok () w := by
    rw [show (10000 : Nat) = 9999 + 1 from rfl, Instr.checkKey, Sem.run_bind, run_underlying hk]
    rfl
  rcases findNow_str s es.toList ks 0 hes with ⟨q1, _⟩ | ⟨q1, q2⟩
  · rw [hs] at q1; cases q1
  · refine ⟨{ w with heap := w.heap.setIfInBounds b (.map (es.push { key := .string s, val := .bool true, born := clock }) (clock + 1)) }, ?_, ?_, ?_⟩
    · simp [Instr.mapUpdate, Instr.findKey, Sem.run_bind, run_underlying ht, run_underlying hk, MapKept.run_getObj_map hb, hc, q2, MapKept.run_setObj_map _ hb]
    · have hlt := lt_of_block hb
      exact ⟨es.push { key := .string s, val := .bool true, born := clock }, clock + 1, by simp [hlt], by simp [hes]⟩
    · refine ⟨rfl, rfl, rfl, by simp, fun k hk hne => ?_⟩
      show (w.heap.setIfInBounds b _)[k]? = _
      rw [Array.getElem?_setIfInBounds_ne (fun e => hne (by rw [e]))]

/-- a name is set in a map of one's own -/
theorem wpList_update_str {ops : Array Oper} {rest : List Oper} {o : Oper} {a : Act} {Q : Exit → Act → World → Prop} {w : World} {t kt e : TypeId} (ht : Tryz.prog.underlying t = some (.map kt e)) (hk : Tryz.prog.underlying kt = some .string) (hgd : o.guard = none) (m x v : Operand) (ho : o.op = .mapUpdate t m x v)
    {b : Nat} {ks : List ByteArray} (h : MapOf w b ks) (s : ByteArray) (hs : memB s ks = false) (hm : a.eval m = .map (some b)) (hx : a.eval x = .string s) (hv : a.eval v = .bool true)
    (hK : ∀ w', MapOf w' b (ks ++ [s]) → w.grownBy w' (some b) → wpList Tryz.prog ops Q rest (a.put o.dst undef) w') : wpList Tryz.prog ops Q (o :: rest) a w := by
  obtain ⟨w', hr, h1, h2⟩ := run_update_str ht hk h s hs
  refine wpList_plain hgd fun K hK' => ?_
  unfold Oper.wp
  simp [execOp, ho, hm, hx, hv, hr, Result.andThen]
  exact hK' _ _ (hK w' h1 h2)

theorem MapOf.block {w w' : World} {b : Nat} {ks : List ByteArray} (h : MapOf w b ks) (hb : w'.heap[b]? = w.heap[b]?) : MapOf w' b ks := by
  obtain ⟨es, clock, h1, h2⟩ := h
  exact ⟨es, clock, hb.trans h1, h2⟩

def StrR : Rep ByteArray := fun _ _ s cs => cs = [.string s] ∧ s.size ≤ 9223372036854775807
theorem strOk : RepOk 1 StrR where
  len := by rintro S w x cs ⟨rfl, _⟩; rfl
  kept := by rintro S T w w' x cs ⟨e, h⟩ hk hs; exact ⟨e, h⟩
  one := by rintro S w x cs ⟨rfl, _⟩ v hv; simp only [List.mem_singleton] at hv; subst hv; rfl

def diffGood (ks : List ByteArray) (i : Nat) : Bool := match ks[i]? with
  | some s => !memB s (ks.take i) && nameB s
  | none => false
/-- all are names, and no two are equal -/
def diffB (ks : List ByteArray) : Bool := (List.range ks.length).all (diffGood ks)

theorem Tryz.zeroBool (w : World) : (zeroValue 4).run Tryz.prog w = .ok (.bool false) w := by kernel_rfl

set_option maxRecDepth 100000 in
set_option maxHeartbeats 3200000 in
theorem different_any (ks : List ByteArray) (a : Option Addr) (n c : Nat) (w : World) (h : RR StrR 1 (fun b => b < w.heap.size) w a n c ks) (hn : n ≤ 1000000) :
    Calls Tryz.prog 168 #[.slice a n c] w (RetB w (.bool (diffB ks))) := by
  have H := Lib.hid h; have hlen := h.1; clear h
  have hmm := @run_makeMap Tryz.prog
  go_enter Tryz.func168, Tryz.ntmps168
  go_wp2_with fail
  go_loopw [9] (fun iv wr => ∃ k : Nat, k ≤ n ∧ iv = .int .i64 (k : Int) ∧ MapOf wr w.heap.size (ks.take k) ∧ (List.range k).all (diffGood ks) = true ∧ Below w.heap.size w wr) (fun iv _ => n - (intOf iv).toNat)
  case atStart => exact ⟨0, by omega, rfl, ⟨#[], 0, heap_alloc_new w _, rfl⟩, rfl, below_al (Below.refl _ _)⟩
  case round =>
    obtain ⟨k, hk, rfl, hm, ho, hb⟩ := hrel
    have Ho := Lib.hid ho; have Hb := Lib.hid hb; have Hm := Lib.hid hm
    obtain ⟨es, clock, hm1, _⟩ := hm
    have hml := lt_of_block hm1
    clear ho hb hm1
    by_cases hkn : k < n
    · obtain ⟨b, off, s, cs, rfl, hlt, hs, ⟨rfl, hsz⟩, hr⟩ := (H.out.go strOk Hb.out).at hkn
      have x0 := hr 0 _ rfl
      rw [Nat.add_zero, Nat.mul_one] at x0
      have hl := run_lookup_str Tryz.underlying126 Tryz.underlying9 (Tryz.zeroBool wr) Hm.out s
      have hg : diffGood ks k = (!memB s (ks.take k) && nameB s) := by unfold diffGood; rw [hs]
      have Hg := Lib.hid hg; have Hs := Lib.hid hs
      clear hr hg hs
      cases h1 : memB s (ks.take k)
      · cases h2 : nameB s
        all_goals
          rw [h1] at hl
          have H1 := Lib.hid h1; have H2 := Lib.hid h2; clear h1 h2
          go_wp2_with (first
            | ((with_reducible refine (name_any s _ hsz).mono ?_); rintro e w2 ⟨he, hb2⟩; rw [H2.out] at he; subst he; have Hb2 := Lib.hid hb2; clear hb2)
            | (refine wpList_update_str Tryz.underlying126 Tryz.underlying9 rfl (.tmp 21) (.tmp 22) _ rfl (Hm.out.block (Hb2.out.block _ hml)) s H1.out rfl rfl rfl ?_; intro w3 hm3 hg3; have Hm3 := Lib.hid hm3; have Hb3 := Lib.hid ((below_chain Hb.out Hb2.out).grown hg3 (below_chain Hb.out Hb2.out).size (fun q hq => (by cases hq; exact Nat.le_refl _))); clear hm3 hg3))
        · go_ret
          refine ⟨?_, below_chain Hb.out Hb2.out⟩
          unfold diffB
          rw [hlen, range_all_bad hkn (Hg.out.trans (by rw [H1.out, H2.out]; rfl))]; rfl
        · go_roundw
          case rel => exact ⟨k + 1, by omega, by go_num, by rw [take_next Hs.out]; exact Hm3.out, range_all_next Ho.out (Hg.out.trans (by rw [H1.out, H2.out]; rfl)), Hb3.out⟩
          case measure => simp [intOf]; omega
      · rw [h1] at hl
        have H1 := Lib.hid h1; clear h1
        go_wp2
        go_ret
        refine ⟨?_, Hb.out⟩
        unfold diffB
        rw [hlen, range_all_bad hkn (Hg.out.trans (by rw [H1.out]; rfl))]; rfl
    · obtain rfl : k = n := by omega
      go_wp2
      go_ret
      refine ⟨?_, Hb.out⟩
      unfold diffB
      rw [hlen, Ho.out]; rfl

end Go.Proofs.YtgohdcccfkjooaaGreatDoor

namespace Go.Proofs.YtgohdcccfkjooaaGreatDoor
open Go.RowKit

def cfGood (l : List SurfC) (c : ConfC) : Bool := match chN l c.zs (c.zs.length / 3) with
  | none => false
  | some _ => decide (c.zs.length / 3 ≤ 12)
def configsB (l : List SurfC) (cf : List ConfC) : Bool := cf.all (cfGood l) && decide (cf.length ≤ 4) && diffB (cf.map ConfC.nm)

/-- .. its length said -/
theorem wpList_append_recN {ops : Array Oper} {rest : List Oper} {o : Oper} {a : Act} {Q : Exit → Act → World → Prop} {W : World} {α : Type} {R : Rep α} {k : Nat} (ok : RepOk k R) {T ST : TypeId} {z : Value} {bytes : Nat} (hST : Tryz.prog.underlying ST = some (.slice T)) (hT : (Tryz.prog.info? T).map (fun i => (i.zero, i.size, i.bytes)) = some (some z, k, bytes)) (hz : z.cells.size = k) (hk : 0 < k) (hby : bytes ≤ 10000)
    (hgd : o.guard = none) (s x : Operand)
    (ho : o.op = .call { callee := .builtin .append, args := #[s, x], argTypes := #[ST, ST] }) (base : Nat) (w : World) (v : Value) (l : List α) (y : α) (cs : List Value)
    (N : Nat) (hN : l.length = N) (hs : a.eval s = v) (hrow : OwnR R k T base w v l) (hW : W = w.alloc (.cells cs.toArray T)) (hx : a.eval x = .slice (some ⟨w.heap.size, 0, none⟩) 1 1) (hy : R (fun b => base ≤ b ∧ b < w.heap.size ∧ v.ownBlock ≠ some b) w y cs) (hlen : l.length ≤ 1000000) (hbase : base ≤ w.heap.size)
    (h : ∀ g cap w', OwnR R k T base w' (.slice (some ⟨g, 0, none⟩) (N + 1) cap) (l ++ [y]) → (∀ B w0, B ≤ base → Below B w0 w → Below B w0 w') → KeptOn (fun b => b < w.heap.size ∧ v.ownBlock ≠ some b) w w' → w.heap.size ≤ w'.heap.size → wpList Tryz.prog ops Q rest (a.put o.dst (.slice (some ⟨g, 0, none⟩) (N + 1) cap)) w') :
    wpList Tryz.prog ops Q (o :: rest) a W := by
  subst hN
  exact wpList_append_rec2 ok hST hT hz hk hby hgd s x ho base w v l y cs hs hrow hW hx hy hlen hbase h

theorem Tryz.infoString1 : (Tryz.prog.info? 9).map (fun i => (i.zero, i.size, i.bytes)) = some (some (.string emptyS), 1, 16) := by kernel_rfl
theorem all_takeS {α : Type} {f : α → Bool} {l : List α} {k : Nat} {x : α} (h : l[k]? = some x) (h0 : (l.take k).all f = true) : (l.take (k + 1)).all f = f x := by
  rw [take_next h, List.all_append, h0]; simp
theorem all_badS {α : Type} {f : α → Bool} {l : List α} {k : Nat} {x : α} (h : l[k]? = some x) (h0 : f x = false) : l.all f = false := by
  rw [Bool.eq_false_iff]; intro ha
  have := List.all_eq_true.1 ha x (List.mem_of_getElem? h)
  rw [h0] at this; cases this

set_option maxRecDepth 100000 in
set_option maxHeartbeats 3200000 in
theorem lconfigs_any (x : LensD) (f v s k : Ptr) (g : Nat) (T : TypeId) (w : World) (hg : BenchB w g T x f v s k) (hf : RR SurfR 22 (fun b => b < w.heap.size) w s.a s.n s.c x.l) (hn : s.n ≤ 1000000)
    (hc : RR ConfR 2 (fun b => b < w.heap.size) w k.a k.n k.c x.cf) (hk : k.n ≤ 1000000) (hp : Places w.heap.size w) :
    Calls Tryz.prog 126 #[.pointer (some ⟨g, 0, none⟩)] w (RetB w (.bool (configsB x.l x.cf))) := by
  have Hg := Lib.hid hg; have Hf := Lib.hid hf; have Hc := Lib.hid hc; have Hp := Lib.hid hp
  have hlen := hc.1; clear hg hf hc hp
  obtain ⟨sa, n, sc⟩ := s
  obtain ⟨ka, m, kc⟩ := k
  simp only at *
  obtain ⟨_, _, _, _, _, _, _, _, c8⟩ := Hg.out.cells
  have hl := Hg.out.lt
  go_enter Tryz.func126, Tryz.ntmps126
  go_wp2_with fail
  go_loopw [3, 14] (fun nv iv wr => ∃ i : Nat, i ≤ m ∧ iv = .int .i64 (i : Int) ∧ OwnR StrR 1 9 w.heap.size wr nv ((x.cf.take i).map ConfC.nm) ∧ (x.cf.take i).all (cfGood x.l) = true ∧ Below w.heap.size w wr) (fun _ iv _ => m - (intOf iv).toNat)
  case atStart => exact ⟨0, by omega, rfl, OwnR.nil _ _ _ _ _, rfl, Below.refl _ _⟩
  case round =>
    clear c8
    obtain ⟨i, hi, rfl, ho, ha, hb⟩ := hrel
    have Ho := Lib.hid ho; have Hb := Lib.hid hb; have Ha := Lib.hid ha
    clear ho hb ha
    have hgl : g < wr.heap.size := Nat.lt_of_lt_of_le hl Hb.out.size
    by_cases hin : i < m
    · obtain ⟨b1, off, y, cs, rfl, hlt, hy, ⟨a2, n2, c2, rfl, hz, hn2, hc2, hg2⟩, hr⟩ := Hc.out.at hin
      have x0 := (Hb.out.cell (p := ⟨b1, off + i * 2 + 0, none⟩) hlt).trans (hr 0 _ rfl)
      have x1 := (Hb.out.cell (p := ⟨b1, off + i * 2 + 1, none⟩) hlt).trans (hr 1 _ rfl)
      rw [Nat.add_zero] at x0
      have hnn := coat_n hz
      have Hy := Lib.hid hy; have Hz := Lib.hid (hz.ir (fun _ h => h)); have Hnn := Lib.hid hnn; have Hg2 := Lib.hid hg2
      clear hr hy hz hnn hc2 hg2
      have hl1 : ((x.cf.take i).map ConfC.nm).length = i := by rw [List.length_map, List.length_take, hlen]; omega
      have Hl1 := Lib.hid hl1; clear hl1
      have hb1 : Below wr.heap.size wr (wr.alloc (.cells #[.string y.nm, .slice a2 n2 c2] 75)) := below_al (Below.refl _ _)
      have Hb1 := Lib.hid hb1; clear hb1
      have hnb := heap_alloc_new wr (.cells #[.string y.nm, .slice a2 n2 c2] 75)
      have Hnb := Lib.hid hnb; clear hnb
      go_upto_region 5 with fail
      refine step_world (fun wx => wx.heap[wr.heap.size]? = some (.cells #[.string y.nm, .slice a2 n2 c2] 75 (0, 0)) ∧ Below wr.heap.size wr wx) ⟨Hnb.out, Hb1.out⟩ ?_
      clear Hnb Hb1
      rintro w2 ⟨hnb, hb1⟩
      have d0 : w2.cell? ⟨wr.heap.size, 0, none⟩ = some (.string y.nm) := (obj_cell hnb 0).trans rfl
      have hl2 := lt_of_block hnb
      have Hnb := Lib.hid hnb; have Hb1 := Lib.hid hb1; clear hnb hb1
      go_upto_region 6 with (refine wpList_append_recN strOk Tryz.underlying52 Tryz.infoString1 rfl (by omega) (by omega) rfl (.tmp 18) (.tmp 21) rfl w.heap.size w2 u3 ((x.cf.take i).map ConfC.nm) y.nm [.string y.nm] i Hl1.out rfl (Ho.out.go strOk Hb1.out) rfl rfl ⟨rfl, Hg2.out⟩ (by rw [Hl1.out]; omega) (Nat.le_trans Hb.out.size Hb1.out.size) ?_; intro g3 cap3 w3 ho3 hb3 hk3 hs3)
      have Ho3 := Lib.hid ho3
      have Hb3 := Lib.hid (hb3 _ _ (Nat.le_refl _) (below_chain Hb.out Hb1.out))
      have Hs3 := Lib.hid (Nat.le_trans Hb1.out.size hs3)
      have Hn3 := Lib.hid ((hk3 wr.heap.size ⟨hl2, Ho.out.fresh (Nat.le_refl _)⟩).trans Hnb.out)
      have Hk3 := Lib.hid hk3
      clear ho3 hb3 hk3 hs3
      have hl3 : wr.heap.size < w3.heap.size := lt_of_block Hn3.out
      have hgl3 : g < w3.heap.size := by have := Hs3.out; omega
      have d1 : w3.cell? ⟨wr.heap.size, 1, none⟩ = some (.slice a2 n2 c2) := (obj_cell Hn3.out 1).trans rfl
      obtain ⟨_, _, _, _, _, _, _, c7, _⟩ := (Hg.out.go Hb3.out).cells
      refine wp_region_floats 13 [] [] [(0, true), (1, true), (2, true), (3, true), (4, true), (5, true), (6, true), (7, false), (8, true), (9, true), (10, true), (11, true), (12, true)] (by kernel_rfl) (by kernel_rfl) ⟨by simp, by simp, fun _ h => by cases h⟩ (fun _ _ _ _ _ h => h) (fun _ _ o _ _ h => by cases o <;> exact h) ?_
      iterate 7
        refine wpG_yield (v := ?_) rfl rfl (by rfl) ?_ ?_
        rotate_left
        · intro y hy
          have z7 := (hy.cell (p := ⟨g, 7, none⟩) hgl3).trans c7
          have z1 := (hy.cell (p := ⟨wr.heap.size, 1, none⟩) hl3).trans d1
          go_simp
          with_reducible rfl
        try simp only [Act.put, List.setIfInBounds_toArray, List.set_cons_zero, List.set_cons_succ]
      refine wpG_step rfl rfl (fun x1 hx1 K hK => ?_)
      go_simp
      have hx1' : Below w3.heap.size w3 x1 := below_undrew (k := 1) hx1
      have Hx1 := Lib.hid (below_chain Hb3.out hx1')
      have hcd : ∀ b, cfGood x.l y = b → (b = true → (x.cf.take (i + 1)).all (cfGood x.l) = true) ∧ (b = false → configsB x.l x.cf = false) := by
        intro b hb
        refine ⟨fun e => (all_takeS Hy.out Ha.out).trans (hb.trans e), fun e => ?_⟩
        unfold configsB
        rw [all_badS Hy.out (hb.trans e)]; rfl
      have hdef : cfGood x.l y = (match chN x.l y.zs n2 with | none => false | some _ => decide (n2 ≤ 12)) := by unfold cfGood; rw [← Hnn.out]
      have Hcd := Lib.hid hcd; have Hdef := Lib.hid hdef; clear hcd hdef
      refine (changed_any x.l y.zs sa a2 n sc n2 c2 _ (Hf.out.go surfOk Hx1.out) hn (Hz.out.go Hx1.out) hn2 (Hp.out.go Hx1.out)).mono ?_
      rintro e w4 (⟨h1, rfl, hb4⟩ | ⟨l', g', m', c', h1, rfl, ho4, hb4⟩)
      · refine hK _ _ hb4 ?_
        clear hK K
        have Hb4 := Lib.hid (below_chain Hb3.out (below_chain hx1' hb4)); clear hb4 hx1 hx1'
        iterate 5
          refine wpG_pure (v := ?_) rfl (by rfl) ?_ ?_
          rotate_left
          · intro y
            go_simp
            with_reducible rfl
          try simp only [Act.put, List.setIfInBounds_toArray, List.set_cons_zero, List.set_cons_succ]
        refine wpG_nil0 (l := []) rfl (fun w5 hb5 => ?_)
        have Hb5 := Lib.hid (below_chain Hb4.out hb5); clear hb5
        go_wp2
        go_ret
        refine ⟨?_, Hb5.out⟩
        rw [(Hcd.out false (by rw [Hdef.out, h1])).2 rfl]; rfl
      · refine hK _ _ hb4 ?_
        clear hK K
        have Hb34 := Lib.hid (below_chain hx1' hb4)
        have Hb4 := Lib.hid (below_chain Hb3.out (below_chain hx1' hb4)); clear hb4 hx1 hx1' ho4
        by_cases h12 : n2 ≤ 12
        all_goals
          have H12 := Lib.hid h12
          iterate 5
            refine wpG_pure (v := ?_) rfl (by rfl) ?_ ?_
            rotate_left
            · intro y
              go_simp
              with_reducible rfl
            try simp only [Act.put, List.setIfInBounds_toArray, List.set_cons_zero, List.set_cons_succ]
          refine wpG_nil0 (l := []) rfl (fun w5 hb5 => ?_)
          have Hb35 := Lib.hid (below_chain Hb34.out hb5)
          have Hb5 := Lib.hid (below_chain Hb4.out hb5); clear hb5
          go_wp2_with fail
        · go_roundw
          case rel => exact ⟨i + 1, by omega, by go_num, by rw [take_next Hy.out, List.map_append]; exact Ho3.out.go strOk Hb35.out, (Hcd.out true (by rw [Hdef.out, h1]; simp [H12.out])).1 rfl, Hb5.out⟩
          case measure => simp [intOf]; omega
        · go_ret
          refine ⟨?_, Hb5.out⟩
          rw [(Hcd.out false (by rw [Hdef.out, h1]; simp [H12.out])).2 rfl]; rfl
    · obtain rfl : i = m := by omega
      obtain ⟨_, _, _, _, _, _, _, _, c8⟩ := (Hg.out.go Hb.out).cells
      have ho2 := Ho.out
      have ha2 := Ha.out
      rw [← hlen, List.take_length] at ho2 ha2
      have hcd : configsB x.l x.cf = (decide (i ≤ 4) && diffB (x.cf.map ConfC.nm)) := by unfold configsB; rw [ha2, hlen]; rfl
      have Hcd := Lib.hid hcd; clear hcd
      have hv : ∃ a c, u3 = .slice a i c := by
        rcases ho2.form with ⟨rfl, e⟩ | ⟨g, cap, rfl, _, _, _, _, _⟩
        · have : i = 0 := by rw [← hlen]; have := congrArg List.length e; simpa using this
          subst this; exact ⟨none, 0, rfl⟩
        · exact ⟨_, _, by rw [List.length_map, hlen]⟩
      obtain ⟨av, cv, rfl⟩ := hv
      have Hrr := Lib.hid (ho2.rr strOk)
      clear ho2 ha2
      by_cases h4 : i ≤ 4
      all_goals
        go_wp2_with ((with_reducible refine (different_any (x.cf.map ConfC.nm) av i cv _ Hrr.out hk).mono ?_); rintro e w2 ⟨he, hb2⟩; subst he; have Hb2 := Lib.hid hb2; clear hb2)
        go_ret
      · exact ⟨by rw [Hcd.out]; simp [h4], below_chain Hb.out Hb2.out⟩
      · exact ⟨by rw [Hcd.out]; simp [h4], Hb.out⟩

end Go.Proofs.YtgohdcccfkjooaaGreatDoor
