/-
  DERIVED. The walks of package lens: valid.
-/
import Derived.Test.YtgohdcccfkjooaaGreatDoorGag
namespace Go.Proofs.YtgohdcccfkjooaaGreatDoor
open Go.RowKit

set_option maxRecDepth 100000 in
theorem valid1_any (x : LensD) (f v s k : Ptr) (g p : Nat) (T : TypeId) (w : World) (hg : BenchB w g T x f v s k) (hn : x.nm.size ≤ 9223372036854775807) (hp : w.cell? ⟨p, 0, none⟩ = some (.pointer (some ⟨g, 0, none⟩))) :
    Calls Tryz.prog 119 #[.pointer (some ⟨p, 0, none⟩)] w (RetB w (.bool (nameB x.nm))) := by
  obtain ⟨c0, _⟩ := hg.cells
  clear hg
  go_enter Tryz.func119, Tryz.ntmps119
  go_wp2_with ((with_reducible refine (name_any x.nm _ hn).mono ?_); rintro e w2 ⟨he, hb⟩; subst he)
  go_ret
  exact ⟨rfl, hb⟩

def sizesB (dist pupil : Int) : Bool := bt dist 0 1000000000 && bt pupil 1 1000000000

set_option maxRecDepth 100000 in
theorem valid2_any (x : LensD) (f v s k : Ptr) (g p : Nat) (T : TypeId) (w : World) (hg : BenchB w g T x f v s k) (hp : w.cell? ⟨p, 0, none⟩ = some (.pointer (some ⟨g, 0, none⟩))) (hpl : p < w.heap.size) :
    Calls Tryz.prog 121 #[.pointer (some ⟨p, 0, none⟩)] w (RetB w (.bool (sizesB x.dist x.pupil))) := by
  obtain ⟨_, c1, c2, _⟩ := hg.cells
  have hl := hg.lt
  have C2 := Lib.hid c2; have P := Lib.hid hp
  clear hg c2
  cases h1 : bt x.dist 0 1000000000 <;> cases h2 : bt x.pupil 1 1000000000
  all_goals
    have H1 := Lib.hid h1; have H2 := Lib.hid h2; clear h1 h2
    go_enter Tryz.func121, Tryz.ntmps121
    go_wp2_with (first
      | ((with_reducible refine (lbetween_any x.dist _ _ _).mono ?_); rintro e w2 ⟨he, hb⟩; rw [H1.out] at he; subst he; have c2 := (hb.cell (p := ⟨g, 2, none⟩) hl).trans C2.out; have hp2 := (hb.cell (p := ⟨p, 0, none⟩) hpl).trans P.out; have Hb := Lib.hid hb; clear hb)
      | ((with_reducible refine (lbetween_any x.pupil _ _ _).mono ?_); rintro e w3 ⟨he, hb⟩; rw [H2.out] at he; subst he; have Hb2 := Lib.hid hb; clear hb))
    go_ret
    unfold sizesB
    rw [H1.out, H2.out]
    first
      | exact ⟨rfl, below_chain Hb.out Hb2.out⟩
      | exact ⟨rfl, Hb.out⟩

/-- a valid lens -/
def validN (x : LensD) : Nat → Bool
  | 0 => nameB x.nm
  | 1 => sizesB x.dist x.pupil
  | 2 => fieldsB x.dist x.fs (x.fs.length / 2)
  | 3 => wavesB x.prim x.ws (x.ws.length / 2)
  | 4 => surfacesB x.stop x.l
  | _ => configsB x.l x.cf
def validB (x : LensD) : Bool := (List.range 6).all (validN x)

def fl6 (g p : Nat) : List Value := [.func (.func 119) #[] #[.pointer (some ⟨p, 0, none⟩)], .func (.func 121) #[] #[.pointer (some ⟨p, 0, none⟩)], .func (.func 123) #[.pointer (some ⟨g, 0, none⟩)] #[], .func (.func 124) #[.pointer (some ⟨g, 0, none⟩)] #[], .func (.func 125) #[.pointer (some ⟨g, 0, none⟩)] #[], .func (.func 126) #[.pointer (some ⟨g, 0, none⟩)] #[]]

theorem coat_n2 {S : Nat → Prop} {w : World} {a : Option Addr} {n c : Nat} {zs : List Int} (h : IRp S w 2 a n c zs) : n = zs.length / 2 := by rw [h.1]; omega

set_option maxRecDepth 100000 in
set_option maxHeartbeats 3200000 in
theorem all_any (x : LensD) (f v s k : Ptr) (g p q c : Nat) (T T2 : TypeId) (w : World) (hg : BenchB w g T x f v s k) (hx : LensAt (fun b => b < w.heap.size) w x f v s k) (hp : w.cell? ⟨p, 0, none⟩ = some (.pointer (some ⟨g, 0, none⟩))) (hpl : p < w.heap.size) (hP : Places w.heap.size w)
    (hq : w.heap[q]? = some (.cells (fl6 g p).toArray T2 (0, 0))) (_hc : 6 ≤ c) :
    Calls Tryz.prog 118 #[.slice (some ⟨q, 0, none⟩) 6 c] w (RetB w (.bool (validB x))) := by
  have Hg := Lib.hid hg; have Hx := Lib.hid hx; have Hp := Lib.hid hp; have HP := Lib.hid hP; have Hq := Lib.hid hq
  have hql := lt_of_block hq
  clear hg hx hp hP hq
  go_enter Tryz.func118, Tryz.ntmps118
  go_wp2_with fail
  go_step3
  go_wp2_with fail
  go_step3
  go_wp2_with fail
  go_loopw [3, 8] (fun ov iv wr => ∃ i : Nat, i ≤ 6 ∧ iv = .int .i64 (i : Int) ∧ ov = .bool true ∧ (List.range i).all (validN x) = true ∧ Below w.heap.size w wr) (fun _ iv _ => 6 - (intOf iv).toNat)
  case atStart => exact ⟨0, by omega, rfl, rfl, rfl, Below.refl _ _⟩
  case round =>
    obtain ⟨i, hi, rfl, rfl, ho, hb⟩ := hrel
    have Ho := Lib.hid ho; have Hb := Lib.hid hb
    clear ho hb
    have G2 := Lib.hid (Hg.out.go Hb.out); have X2 := Lib.hid (Hx.out.go Hb.out); have P2 := Lib.hid ((Hb.out.cell (p := ⟨p, 0, none⟩) hpl).trans Hp.out); have PL2 := Lib.hid (HP.out.go Hb.out)
    have hpl2 : p < wr.heap.size := Nat.lt_of_lt_of_le hpl Hb.out.size
    have hq2 := (Hb.out.block _ hql).trans Hq.out
    have hbad : ∀ j, j < 6 → validN x j = false → validB x = false := fun j hj h => range_all_bad hj h
    have Hbad := Lib.hid hbad; clear hbad
    have hn2 : fieldsB x.dist x.fs f.n = validN x 2 := by show _ = fieldsB x.dist x.fs (x.fs.length / 2); rw [← coat_n2 Hx.out.fs]
    have hn3 : wavesB x.prim x.ws v.n = validN x 3 := by show _ = wavesB x.prim x.ws (x.ws.length / 2); rw [← coat_n2 Hx.out.ws]
    have Hn2 := Lib.hid hn2; have Hn3 := Lib.hid hn3; clear hn2 hn3
    have hi6 : i = 0 ∨ i = 1 ∨ i = 2 ∨ i = 3 ∨ i = 4 ∨ i = 5 ∨ i = 6 := by omega
    rcases hi6 with rfl | rfl | rfl | rfl | rfl | rfl | rfl
    · have y0 : wr.cell? ⟨q, 0, none⟩ = some (.func (.func 119) #[] #[.pointer (some ⟨p, 0, none⟩)]) := (obj_cell hq2 0).trans rfl
      cases hv : validN x 0
      all_goals
        have Hv : Hid (nameB x.nm = _) := Lib.hid (hv)
        have Hv' := Lib.hid hv
        clear hv
        go_wp2_with ((with_reducible refine (valid1_any x f v s k g p T _ G2.out Hx.out.nm P2.out).mono ?_); rintro e w2 ⟨he, hb⟩; rw [Hv.out] at he; subst he; have Hb2 := Lib.hid (below_chain Hb.out hb); clear hb)
      · go_ret
        exact ⟨by rw [Hbad.out 0 (by omega) Hv'.out]; rfl, Hb2.out⟩
      · go_roundw
        case rel => exact ⟨1, by omega, rfl, rfl, range_all_next Ho.out Hv'.out, Hb2.out⟩
        case measure => simp [intOf]
    · have y0 : wr.cell? ⟨q, 1, none⟩ = some (.func (.func 121) #[] #[.pointer (some ⟨p, 0, none⟩)]) := (obj_cell hq2 1).trans rfl
      cases hv : validN x 1
      all_goals
        have Hv : Hid (sizesB x.dist x.pupil = _) := Lib.hid (hv)
        have Hv' := Lib.hid hv
        clear hv
        go_wp2_with ((with_reducible refine (valid2_any x f v s k g p T _ G2.out P2.out hpl2).mono ?_); rintro e w2 ⟨he, hb⟩; rw [Hv.out] at he; subst he; have Hb2 := Lib.hid (below_chain Hb.out hb); clear hb)
      · go_ret
        exact ⟨by rw [Hbad.out 1 (by omega) Hv'.out]; rfl, Hb2.out⟩
      · go_roundw
        case rel => exact ⟨2, by omega, rfl, rfl, range_all_next Ho.out Hv'.out, Hb2.out⟩
        case measure => simp [intOf]
    · have y0 : wr.cell? ⟨q, 2, none⟩ = some (.func (.func 123) #[.pointer (some ⟨g, 0, none⟩)] #[]) := (obj_cell hq2 2).trans rfl
      cases hv : validN x 2
      all_goals
        have Hv : Hid (fieldsB x.dist x.fs f.n = _) := Lib.hid (Hn2.out.trans hv)
        have Hv' := Lib.hid hv
        clear hv
        go_wp2_with ((with_reducible refine (lfields_any x f v s k g T _ G2.out (X2.out.fs.ir (fun _ h => h)) Hx.out.fn).mono ?_); rintro e w2 ⟨he, hb⟩; rw [Hv.out] at he; subst he; have Hb2 := Lib.hid (below_chain Hb.out hb); clear hb)
      · go_ret
        exact ⟨by rw [Hbad.out 2 (by omega) Hv'.out]; rfl, Hb2.out⟩
      · go_roundw
        case rel => exact ⟨3, by omega, rfl, rfl, range_all_next Ho.out Hv'.out, Hb2.out⟩
        case measure => simp [intOf]
    · have y0 : wr.cell? ⟨q, 3, none⟩ = some (.func (.func 124) #[.pointer (some ⟨g, 0, none⟩)] #[]) := (obj_cell hq2 3).trans rfl
      cases hv : validN x 3
      all_goals
        have Hv : Hid (wavesB x.prim x.ws v.n = _) := Lib.hid (Hn3.out.trans hv)
        have Hv' := Lib.hid hv
        clear hv
        go_wp2_with ((with_reducible refine (lwaves_any x f v s k g T _ G2.out (X2.out.ws.ir (fun _ h => h)) Hx.out.wn).mono ?_); rintro e w2 ⟨he, hb⟩; rw [Hv.out] at he; subst he; have Hb2 := Lib.hid (below_chain Hb.out hb); clear hb)
      · go_ret
        exact ⟨by rw [Hbad.out 3 (by omega) Hv'.out]; rfl, Hb2.out⟩
      · go_roundw
        case rel => exact ⟨4, by omega, rfl, rfl, range_all_next Ho.out Hv'.out, Hb2.out⟩
        case measure => simp [intOf]
    · have y0 : wr.cell? ⟨q, 4, none⟩ = some (.func (.func 125) #[.pointer (some ⟨g, 0, none⟩)] #[]) := (obj_cell hq2 4).trans rfl
      cases hv : validN x 4
      all_goals
        have Hv : Hid (surfacesB x.stop x.l = _) := Lib.hid (hv)
        have Hv' := Lib.hid hv
        clear hv
        go_wp2_with ((with_reducible refine (lsurfaces_any x f v s k g T _ G2.out X2.out.l Hx.out.sn).mono ?_); rintro e w2 ⟨he, hb⟩; rw [Hv.out] at he; subst he; have Hb2 := Lib.hid (below_chain Hb.out hb); clear hb)
      · go_ret
        exact ⟨by rw [Hbad.out 4 (by omega) Hv'.out]; rfl, Hb2.out⟩
      · go_roundw
        case rel => exact ⟨5, by omega, rfl, rfl, range_all_next Ho.out Hv'.out, Hb2.out⟩
        case measure => simp [intOf]
    · have y0 : wr.cell? ⟨q, 5, none⟩ = some (.func (.func 126) #[.pointer (some ⟨g, 0, none⟩)] #[]) := (obj_cell hq2 5).trans rfl
      cases hv : validN x 5
      all_goals
        have Hv : Hid (configsB x.l x.cf = _) := Lib.hid (hv)
        have Hv' := Lib.hid hv
        clear hv
        go_wp2_with ((with_reducible refine (lconfigs_any x f v s k g T _ G2.out X2.out.l Hx.out.sn X2.out.cf Hx.out.kn PL2.out).mono ?_); rintro e w2 ⟨he, hb⟩; rw [Hv.out] at he; subst he; have Hb2 := Lib.hid (below_chain Hb.out hb); clear hb)
      · go_ret
        exact ⟨by rw [Hbad.out 5 (by omega) Hv'.out]; rfl, Hb2.out⟩
      · go_roundw
        case rel => exact ⟨6, by omega, rfl, rfl, range_all_next Ho.out Hv'.out, Hb2.out⟩
        case measure => simp [intOf]
    · go_wp2
      go_ret
      exact ⟨by unfold validB; rw [Ho.out]; rfl, Hb.out⟩

end Go.Proofs.YtgohdcccfkjooaaGreatDoor
