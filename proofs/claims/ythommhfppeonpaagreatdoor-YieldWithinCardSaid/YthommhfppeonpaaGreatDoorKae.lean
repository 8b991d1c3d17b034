/-
  DERIVED. Several texts in one: LensW, LensX, LensY, LensZ, YldA, YldB, RegionK, YldC, RlN, RlG.
-/
import Derived.Test.YthommhfppeonpaaGreatDoorJLensV
import Derived.WalkKit
import Derived.OrdersHeld
import Derived.StillTail
import Derived.Test.YthommhfppeonpaaGreatDoorKab
import Derived.Test.YthommhfppeonpaaGreatDoorKaa
import Derived.Test.YthommhfppeonpaaGreatDoorKac
import Derived.Test.YthommhfppeonpaaGreatDoorJRsfG
import Derived.Test.YthommhfppeonpaaGreatDoorKad
namespace Go.Proofs.YthommhfppeonpaaGreatDoor
open Go.RowKit

set_option maxRecDepth 100000 in
set_option maxHeartbeats 3200000 in
theorem valid_any (x : LensD) (f v s k : Ptr) (g : Nat) (T : TypeId) (w : World) (hg : BenchB w g T x f v s k) (hx : LensAt (fun b => b < w.heap.size) w x f v s k) (hP : Places w.heap.size w) :
    Calls Tryz.prog 36 #[.pointer (some ⟨g, 0, none⟩)] w (RetB w (.bool (validB x))) := by
  have Hg := Lib.hid hg; have Hx := Lib.hid hx; have HP := Lib.hid hP
  clear hg hx hP
  obtain ⟨e1, e2⟩ := heap_two w (.cells #[.pointer (some ⟨g, 0, none⟩)] 93) (.cells (fl6 g w.heap.size).toArray 38)
  have hb := below_two (w := w) (.cells #[.pointer (some ⟨g, 0, none⟩)] 93) (.cells (fl6 g w.heap.size).toArray 38)
  have E1 := Lib.hid e1; have E2 := Lib.hid e2; have Hb := Lib.hid hb
  clear e1 e2 hb
  go_enter Tryz.func36, Tryz.ntmps36
  go_wp2_with fail
  refine (all_any x f v s k g w.heap.size (w.heap.size + 1) 6 T 38 _ (Hg.out.go Hb.out) (Hx.out.go Hb.out) ((obj_cell E1.out 0).trans rfl) (by simp <;> omega) (HP.out.go Hb.out) E2.out (by omega)).mono ?_
  rintro e w2 ⟨he, hb2⟩
  subst he
  go_wp2
  go_ret
  exact ⟨rfl, below_chain Hb.out hb2⟩

/-- a lens as an argument -/
def lensV (x : LensD) (f v s k : Ptr) : Value := .agg #[.string x.nm, .int .i64 x.dist, .int .i64 x.pupil, .int .i64 x.stop, .int .i64 x.prim, .slice f.a f.n f.c, .slice v.a v.n v.c, .slice s.a s.n s.c, .slice k.a k.n k.c]

set_option maxRecDepth 100000 in
set_option maxHeartbeats 3200000 in
theorem lcheck_any (x : LensD) (f v s k : Ptr) (w : World) (hx : LensAt (fun b => b < w.heap.size) w x f v s k) (hP : Places w.heap.size w) :
    Calls Tryz.prog 25 #[lensV x f v s k] w (RetB w (err (validB x) 120)) := by
  have Hx := Lib.hid hx; have HP := Lib.hid hP
  clear hx hP
  obtain ⟨e1, e2⟩ := heap_two w (.cells (cells9 x f v s k).toArray 48) (.cells (cells9 x f v s k).toArray 98)
  have hb := below_two (w := w) (.cells (cells9 x f v s k).toArray 48) (.cells (cells9 x f v s k).toArray 98)
  have E2 := Lib.hid e2; have Hb := Lib.hid hb
  clear e1 e2 hb
  unfold lensV
  go_enter Tryz.func25, Tryz.ntmps25
  cases hv : validB x
  all_goals
    have Hv := Lib.hid hv; clear hv
    go_wp2_with fail
    refine (valid_any x f v s k (w.heap.size + 1) 98 _ E2.out (Hx.out.go Hb.out) (HP.out.go Hb.out)).mono ?_
    rintro e w2 ⟨he, hb2⟩
    rw [Hv.out] at he
    subst he
    go_wp2
    go_ret
    exact ⟨rfl, below_chain Hb.out hb2⟩

end Go.Proofs.YthommhfppeonpaaGreatDoor

namespace Go.Proofs.YthommhfppeonpaaGreatDoor
open Go.RowKit

def lHasB (x : LensD) (i p : Int) : Bool := validB x && lhasB x.l i p

set_option maxRecDepth 100000 in
set_option maxHeartbeats 3200000 in
theorem lHas_any (x : LensD) (f v s k : Ptr) (i p : Int) (w : World) (hx : LensAt (fun b => b < w.heap.size) w x f v s k) (hP : Places w.heap.size w) :
    Calls Tryz.prog 26 #[lensV x f v s k, .int .i64 i, .int .i64 p] w (RetB w (.bool (lHasB x i p))) := by
  have Hx := Lib.hid hx; have HP := Lib.hid hP
  clear hx hP
  have hb := (Below.refl w.heap.size w).alloc (Nat.le_refl _) (.cells (cells9 x f v s k).toArray 48)
  have he := heap_alloc_new w (.cells (cells9 x f v s k).toArray 48)
  have Hb := Lib.hid hb; have He := Lib.hid he
  clear hb he
  unfold lensV
  go_enter Tryz.func26, Tryz.ntmps26
  cases hv : validB x with
  | false =>
    have Hv := Lib.hid hv; clear hv
    go_wp2_with fail
    refine (lcheck_any x f v s k _ (Hx.out.go Hb.out) (HP.out.go Hb.out)).mono ?_
    rintro e w2 ⟨he, hb2⟩
    rw [Hv.out] at he; unfold err at he; simp only [if_false, Bool.false_eq_true] at he
    subst he
    go_wp2
    go_ret
    exact ⟨by unfold lHasB; rw [Hv.out]; rfl, below_chain Hb.out hb2⟩
  | true =>
    have Hv := Lib.hid hv; clear hv
    go_wp2_with fail
    refine (lcheck_any x f v s k _ (Hx.out.go Hb.out) (HP.out.go Hb.out)).mono ?_
    rintro e w2 ⟨he, hb2⟩
    rw [Hv.out] at he; unfold err at he; simp only [if_true] at he
    subst he
    have hbb := below_chain Hb.out hb2
    have c7 : w2.cell? ⟨w.heap.size, 7, none⟩ = some (.slice s.a s.n s.c) := (obj_cell ((hb2.block w.heap.size (by simp)).trans He.out) 7).trans rfl
    have Hbb := Lib.hid hbb; clear hbb hb2
    go_wp2_with ((with_reducible refine (lhas_any x.l s.a s.n s.c i p _ (Hx.out.go Hbb.out).l Hx.out.sn (HP.out.go Hbb.out)).mono ?_); rintro e w3 ⟨he, hb3⟩; subst he; have Hb3 := Lib.hid hb3; clear hb3)
    go_ret
    exact ⟨by unfold lHasB; rw [Hv.out]; rfl, below_chain Hbb.out Hb3.out⟩

theorem OwnR.rebase {α : Type} {R : Rep α} {k : Nat} (ok : RepOk k R) {T : TypeId} {base base' : Nat} {w : World} {v : Value} {l : List α} (h : OwnR R k T base w v l) (hb : base' ≤ base) : OwnR R k T base' w v l := by
  obtain ⟨css, h1, h2, h3, h4⟩ := h
  exact ⟨css, h1, h2, ownsRow_base h3 hb, fun i x cs hx hc => ok.kept (h4 i x cs hx hc) (KeptOn.refl _ _) (fun b h => ⟨Nat.le_trans hb h.1, h.2⟩)⟩
theorem OwnR.rr2 {α : Type} {R : Rep α} {k : Nat} (ok : RepOk k R) {T : TypeId} {base : Nat} {w : World} {a : Option Addr} {n c : Nat} {l : List α} (h : OwnR R k T base w (.slice a n c) l) : RR R k (fun b => base ≤ b ∧ b < w.heap.size) w a n c l := by
  have hr := h.rr ok
  refine ⟨hr.1, hr.2.1, fun hn => ?_⟩
  obtain ⟨b, off, e, hb, hc⟩ := hr.2.2 hn
  obtain ⟨css, h1, h2, h3, h4⟩ := id h
  rcases h3.2 with ⟨e', h0⟩ | ⟨g, cap, cur, e', q1, q2, q3, q4, q5, q6⟩
  · cases e'; cases e
  · cases e'; cases e
    refine ⟨_, 0, rfl, ⟨q1, hb⟩, fun i x hx => ?_⟩
    have hi : i < l.length := (List.getElem?_eq_some_iff.1 hx).1
    have hci : css[i]? = some css[i] := List.getElem?_eq_getElem (by omega)
    refine ⟨css[i], ok.kept (h4 i x _ hx hci) (KeptOn.refl _ _) (fun b h => ⟨h.1, h.2.1⟩), fun j v hv => ?_⟩
    have hj : j < k := by
      have := (List.getElem?_eq_some_iff.1 hv).1
      rw [h2 css[i] (List.getElem_mem _)] at this; exact this
    have hc := h3.cells rfl (i * k + j) v (by rw [flatten_at css i _ j h2 hci hj]; exact hv)
    rw [Addr.add_mid, ← Nat.add_assoc] at hc
    exact hc

/-- what start gives back: nothing, or a bench of one's own -/
def RetStart (w : World) (x : LensD) (n : Nat) (e : Ending) (w' : World) : Prop :=
  (validB x = false ∧ e = .returned (.tuple #[.pointer none, .int .i64 120]) ∧ Below w.heap.size w w') ∨
  (validB x = true ∧ ∃ g gs sc f v k, e = .returned (.tuple #[.pointer (some ⟨g, 0, none⟩), .int .i64 0]) ∧ BenchB w' g 98 x f v ⟨some ⟨gs, 0, none⟩, n, sc⟩ k ∧
    OwnR SurfR 22 92 (w.heap.size + 2) w' (.slice (some ⟨gs, 0, none⟩) n sc) x.l ∧ g = w.heap.size + 1 ∧
    IRp (fun b => w.heap.size + 2 ≤ b ∧ b < w'.heap.size ∧ b ≠ gs) w' 2 f.a f.n f.c x.fs ∧ IRp (fun b => w.heap.size + 2 ≤ b ∧ b < w'.heap.size ∧ b ≠ gs) w' 2 v.a v.n v.c x.ws ∧ RR ConfR 2 (fun b => w.heap.size + 2 ≤ b ∧ b < w'.heap.size ∧ b ≠ gs) w' k.a k.n k.c x.cf ∧
    (f.n ≤ 1000000 ∧ v.n ≤ 1000000 ∧ n ≤ 1000000 ∧ k.n ≤ 1000000 ∧ (f.a = none → f.c = 0) ∧ (v.a = none → v.c = 0) ∧ x.nm.size ≤ 9223372036854775807) ∧ Below w.heap.size w w')

set_option maxRecDepth 100000 in
set_option maxHeartbeats 3200000 in
theorem lstart_any (x : LensD) (f v s k : Ptr) (w : World) (hx : LensAt (fun b => b < w.heap.size) w x f v s k) (hP : Places w.heap.size w) :
    Calls Tryz.prog 32 #[lensV x f v s k] w (RetStart w x s.n) := by
  have Hx := Lib.hid hx; have HP := Lib.hid hP
  clear hx hP
  obtain ⟨e1, e2⟩ := heap_two w (.cells (cells9 x f v s k).toArray 48) (.cells (cells9 x f v s k).toArray 98)
  have hb := below_two (w := w) (.cells (cells9 x f v s k).toArray 48) (.cells (cells9 x f v s k).toArray 98)
  have E1 := Lib.hid e1; have E2 := Lib.hid e2; have Hb := Lib.hid hb
  clear e1 e2 hb
  unfold lensV
  go_enter Tryz.func32, Tryz.ntmps32
  cases hv : validB x with
  | false =>
    have Hv := Lib.hid hv; clear hv
    go_wp2_with fail
    refine (valid_any x f v s k (w.heap.size + 1) 98 _ E2.out (Hx.out.go Hb.out) (HP.out.go Hb.out)).mono ?_
    rintro e w2 ⟨he, hb2⟩
    rw [Hv.out] at he
    subst he
    go_wp2
    go_ret2
    exact Or.inl ⟨Hv.out, rfl, below_chain Hb.out hb2⟩
  | true =>
    have Hv := Lib.hid hv; clear hv
    go_wp2_with fail
    refine (valid_any x f v s k (w.heap.size + 1) 98 _ E2.out (Hx.out.go Hb.out) (HP.out.go Hb.out)).mono ?_
    rintro e w2 ⟨he, hb2⟩
    rw [Hv.out] at he
    subst he
    go_upto_region 4 with fail
    refine step_world (fun wx => wx.heap[w.heap.size]? = some (.cells (cells9 x f v s k).toArray 48 (0, 0)) ∧ wx.heap[w.heap.size + 1]? = some (.cells (cells9 x f v s k).toArray 98 (0, 0)) ∧ Below w.heap.size w wx) ⟨(hb2.block _ (by simp; omega)).trans E1.out, (hb2.block _ (by simp)).trans E2.out, below_chain Hb.out hb2⟩ ?_
    clear E1 E2 Hb hb2 w2
    rintro w2 ⟨h1, h2, hb⟩
    have hl1 := lt_of_block h1; have hl2 := lt_of_block h2
    have d5 : w2.cell? ⟨w.heap.size, 5, none⟩ = some (.slice f.a f.n f.c) := (obj_cell h1 5).trans rfl
    have d6 : w2.cell? ⟨w.heap.size, 6, none⟩ = some (.slice v.a v.n v.c) := (obj_cell h1 6).trans rfl
    have H1 := Lib.hid h1; have H2 := Lib.hid h2; have Hb := Lib.hid hb
    clear h1 h2 hb
    refine wp_region_floats 11 [1, 5, 8] [] [(0, true), (1, true), (2, true), (3, true), (5, true), (6, true), (4, false), (7, false), (8, true), (9, true), (10, true)] (by kernel_rfl) (by kernel_rfl) ⟨by simp, by simp, fun _ h => by cases h⟩ (fun _ _ _ _ _ h => h) (fun _ _ o _ _ h => by cases o <;> exact h) ?_
    iterate 1
      refine wpG_yield (v := ?_) rfl rfl (by rfl) ?_ ?_
      rotate_left
      · intro y hy
        go_simp
        with_reducible rfl
      try simp only [Act.put, List.setIfInBounds_toArray, List.set_cons_zero, List.set_cons_succ]
    iterate 1
      refine wpG_pure (v := ?_) rfl (by rfl) ?_ ?_
      rotate_left
      · intro y
        go_simp
        with_reducible rfl
      try simp only [Act.put, List.setIfInBounds_toArray, List.set_cons_zero, List.set_cons_succ]
    iterate 2
      refine wpG_yield (v := ?_) rfl rfl (by rfl) ?_ ?_
      rotate_left
      · intro y hy
        have z5 := (hy.cell (p := ⟨w.heap.size, 5, none⟩) hl1).trans d5
        have z6 := (hy.cell (p := ⟨w.heap.size, 6, none⟩) hl1).trans d6
        go_simp
        with_reducible rfl
      try simp only [Act.put, List.setIfInBounds_toArray, List.set_cons_zero, List.set_cons_succ]
    iterate 1
      refine wpG_pure (v := ?_) rfl (by rfl) ?_ ?_
      rotate_left
      · intro y
        go_simp
        with_reducible rfl
      try simp only [Act.put, List.setIfInBounds_toArray, List.set_cons_zero, List.set_cons_succ]
    iterate 1
      refine wpG_yield (v := ?_) rfl rfl (by rfl) ?_ ?_
      rotate_left
      · intro y hy
        have z5 := (hy.cell (p := ⟨w.heap.size, 5, none⟩) hl1).trans d5
        have z6 := (hy.cell (p := ⟨w.heap.size, 6, none⟩) hl1).trans d6
        go_simp
        with_reducible rfl
      try simp only [Act.put, List.setIfInBounds_toArray, List.set_cons_zero, List.set_cons_succ]
    refine wpG_step rfl rfl (fun x1 hx1 K hK => ?_)
    go_simp
    have hx1' : Below w2.heap.size w2 x1 := below_undrew (k := 1) hx1
    have hw1 := below_chain Hb.out hx1'
    refine (clone_field x.fs f.a f.n f.c _ ((Hx.out.fs.ir (fun _ h => h)).go hw1) Hx.out.fn Hx.out.fc).mono ?_
    rintro e w3 ⟨fa, fc, rfl, hf, hfc, hb3⟩
    refine hK _ _ hb3 ?_
    clear hK K
    refine wpG_step rfl rfl (fun x2 hx2 K hK => ?_)
    go_simp
    have hw2 := below_chain hw1 (below_chain hb3 hx2)
    refine (clone_wave x.ws v.a v.n v.c _ ((Hx.out.ws.ir (fun _ h => h)).go hw2) Hx.out.wn Hx.out.wc).mono ?_
    rintro e w4 ⟨va, vc, rfl, hv4, hvc, hb4⟩
    refine hK _ _ hb4 ?_
    clear hK K
    iterate 3
      refine wpG_pure (v := ?_) rfl (by rfl) ?_ ?_
      rotate_left
      · intro y
        go_simp
        with_reducible rfl
      try simp only [Act.put, List.setIfInBounds_toArray, List.set_cons_zero, List.set_cons_succ]
    refine wpG_nil0 (l := [_, _, _, _, _]) rfl (fun w5 hb5 => ?_)
    have h25 : Below w2.heap.size w2 w5 := below_chain hx1' (below_chain hb3 (below_chain hx2 (below_chain hb4 hb5)))
    have hb35 : Below w3.heap.size w3 w5 := below_chain hx2 (below_chain hb4 hb5)
    have hf5 : IRp (fun b => w.heap.size + 2 ≤ b ∧ b < w5.heap.size) w5 2 fa f.n fc x.fs := hf.kept ((keptOn_below hb35).mono (fun b h => h.2)) (fun b h => ⟨by have := h.1; have := hx1'.size; omega, by have := h.2; have := hb35.size; omega⟩)
    have hv5 : IRp (fun b => w.heap.size + 2 ≤ b ∧ b < w5.heap.size) w5 2 va v.n vc x.ws := hv4.kept ((keptOn_below hb5).mono (fun b h => h.2)) (fun b h => ⟨by have := h.1; have := hx1'.size; have := hb3.size; have := hx2.size; omega, by have := h.2; have := hb5.size; omega⟩)
    have g1 := (h25.block _ hl1).trans H1.out
    have g2 := (h25.block _ hl2).trans H2.out
    have Hf5 := Lib.hid hf5; have Hv5 := Lib.hid hv5; have G1 := Lib.hid g1; have G2 := Lib.hid g2; have Hb5 := Lib.hid (below_chain Hb.out h25); have Hfc := Lib.hid hfc; have Hvc := Lib.hid hvc
    have hl5 : w.heap.size + 1 < w5.heap.size := lt_of_block g2
    have q5 : w5.cell? ⟨w.heap.size + 1, 5, none⟩ = some (.slice f.a f.n f.c) := (obj_cell g2 5).trans rfl
    have q6 : w5.cell? ⟨w.heap.size + 1, 6, none⟩ = some (.slice v.a v.n v.c) := (obj_cell g2 6).trans rfl
    have fz5 : w5.frozen? ⟨w.heap.size + 1, 5, none⟩ = false := by simp [World.frozen?, g2]
    have fz6 : w5.frozen? ⟨w.heap.size + 1, 6, none⟩ = false := by simp [World.frozen?, g2]
    clear hf hv4 hfc hvc hb3 hb4 hb5 hx1 hx1' hx2 hw1 hw2 h25 hb35 hf5 hv5 g1 g2 d5 d6 Hb H1 H2 hl1 hl2
    go_upto_region 5 with fail
    have h3 := obj_setCell (obj_setCell G2.out 5 (.slice fa f.n fc)) 6 (.slice va v.n vc)
    refine step_world (fun wx => wx.heap[w.heap.size]? = some (.cells (cells9 x f v s k).toArray 48 (0, 0)) ∧ BenchB wx (w.heap.size + 1) 98 x ⟨fa, f.n, fc⟩ ⟨va, v.n, vc⟩ s k ∧ Below w.heap.size w wx ∧ IRp (fun b => w.heap.size + 2 ≤ b ∧ b < wx.heap.size) wx 2 fa f.n fc x.fs ∧ IRp (fun b => w.heap.size + 2 ≤ b ∧ b < wx.heap.size) wx 2 va v.n vc x.ws)
      ⟨obj_other (obj_other G1.out _ (by simp) _) _ (by simp) _, h3, ((Hb5.out.setCell (p := ⟨w.heap.size + 1, 5, none⟩) (Nat.le_succ _) _).setCell (p := ⟨w.heap.size + 1, 6, none⟩) (Nat.le_succ _) _), ?_, ?_⟩ ?_
    · exact Hf5.out.kept ((keptOn_setCells (w.heap.size + 1) [.slice fa f.n fc, .slice va v.n vc] 5 w5).mono (fun b h => by have := h.1; omega)) (fun b h => ⟨h.1, by simpa using h.2⟩)
    · exact Hv5.out.kept ((keptOn_setCells (w.heap.size + 1) [.slice fa f.n fc, .slice va v.n vc] 5 w5).mono (fun b h => by have := h.1; omega)) (fun b h => ⟨h.1, by simpa using h.2⟩)
    clear Hf5 Hv5 G1 G2 Hb5 hl5 q5 q6 fz5 fz6 h3
    rintro w6 ⟨h1, h2, hb, hf6, hv6⟩
    have hl1 := lt_of_block h1; have hl2 := h2.lt
    have d7 : w6.cell? ⟨w.heap.size, 7, none⟩ = some (.slice s.a s.n s.c) := (obj_cell h1 7).trans rfl
    have d8 : w6.cell? ⟨w.heap.size, 8, none⟩ = some (.slice k.a k.n k.c) := (obj_cell h1 8).trans rfl
    have H1 := Lib.hid h1; have H2 := Lib.hid h2; have Hb := Lib.hid hb; have Hf6 := Lib.hid hf6; have Hv6 := Lib.hid hv6
    clear h1 h2 hb hf6 hv6
    refine wp_region_floats 11 [1, 5, 8] [] [(0, true), (1, true), (2, true), (3, true), (5, true), (6, true), (4, false), (7, false), (8, true), (9, true), (10, true)] (by kernel_rfl) (by kernel_rfl) ⟨by simp, by simp, fun _ h => by cases h⟩ (fun _ _ _ _ _ h => h) (fun _ _ o _ _ h => by cases o <;> exact h) ?_
    iterate 1
      refine wpG_yield (v := ?_) rfl rfl (by rfl) ?_ ?_
      rotate_left
      · intro y hy
        go_simp
        with_reducible rfl
      try simp only [Act.put, List.setIfInBounds_toArray, List.set_cons_zero, List.set_cons_succ]
    iterate 1
      refine wpG_pure (v := ?_) rfl (by rfl) ?_ ?_
      rotate_left
      · intro y
        go_simp
        with_reducible rfl
      try simp only [Act.put, List.setIfInBounds_toArray, List.set_cons_zero, List.set_cons_succ]
    iterate 2
      refine wpG_yield (v := ?_) rfl rfl (by rfl) ?_ ?_
      rotate_left
      · intro y hy
        have z7 := (hy.cell (p := ⟨w.heap.size, 7, none⟩) hl1).trans d7
        have z8 := (hy.cell (p := ⟨w.heap.size, 8, none⟩) hl1).trans d8
        go_simp
        with_reducible rfl
      try simp only [Act.put, List.setIfInBounds_toArray, List.set_cons_zero, List.set_cons_succ]
    iterate 1
      refine wpG_pure (v := ?_) rfl (by rfl) ?_ ?_
      rotate_left
      · intro y
        go_simp
        with_reducible rfl
      try simp only [Act.put, List.setIfInBounds_toArray, List.set_cons_zero, List.set_cons_succ]
    iterate 1
      refine wpG_yield (v := ?_) rfl rfl (by rfl) ?_ ?_
      rotate_left
      · intro y hy
        have z7 := (hy.cell (p := ⟨w.heap.size, 7, none⟩) hl1).trans d7
        have z8 := (hy.cell (p := ⟨w.heap.size, 8, none⟩) hl1).trans d8
        go_simp
        with_reducible rfl
      try simp only [Act.put, List.setIfInBounds_toArray, List.set_cons_zero, List.set_cons_succ]
    refine wpG_step rfl rfl (fun x1 hx1 K hK => ?_)
    go_simp
    have hx1' : Below w6.heap.size w6 x1 := below_undrew (k := 1) hx1
    have hw1 := below_chain Hb.out hx1'
    refine (own_surf x.l s.a s.n s.c _ (Hx.out.go hw1).l Hx.out.sn).mono ?_
    rintro e w3 ⟨gs, sc, rfl, hos, hb3⟩
    refine hK _ _ hb3 ?_
    clear hK K
    refine wpG_step rfl rfl (fun x2 hx2 K hK => ?_)
    go_simp
    have hw2 := below_chain hw1 (below_chain hb3 hx2)
    refine (own_conf x.cf k.a k.n k.c _ (Hx.out.go hw2).cf Hx.out.kn).mono ?_
    rintro e w4 ⟨gk, kc, rfl, hok, hb4⟩
    refine hK _ _ hb4 ?_
    clear hK K
    iterate 3
      refine wpG_pure (v := ?_) rfl (by rfl) ?_ ?_
      rotate_left
      · intro y
        go_simp
        with_reducible rfl
      try simp only [Act.put, List.setIfInBounds_toArray, List.set_cons_zero, List.set_cons_succ]
    refine wpG_nil0 (l := [_, _, _, _, _]) rfl (fun w5 hb5 => ?_)
    have hln : x.l.length = s.n := Hx.out.l.1
    have hkn : x.cf.length = k.n := Hx.out.cf.1
    rw [hln] at hos
    rw [hkn] at hok
    have h65 : Below w6.heap.size w6 w5 := below_chain hx1' (below_chain hb3 (below_chain hx2 (below_chain hb4 hb5)))
    have hos5 := (hos.go surfOk (below_chain hx2 (below_chain hb4 hb5))).rebase surfOk (base' := w.heap.size + 2) (by have := hx1'.size; omega)
    have hok5 := (hok.go confOk hb5).rr2 confOk
    have hgs : w6.heap.size ≤ gs ∧ gs < x2.heap.size := by
      rcases hos.form with ⟨e, _⟩ | ⟨g', _, e, q, q2, _⟩
      · cases e
      · have e1 : gs = g' := by injection e with e1; injection e1 with e1; injection e1
        subst e1; have := hx1'.size; have := hx2.size; omega
    have hx2s : w6.heap.size ≤ x2.heap.size := by have := hx1'.size; have := hb3.size; have := hx2.size; omega
    have g1 := (h65.block _ hl2).trans H2.out
    have G2 := Lib.hid g1; have Hos5 := Lib.hid hos5; have Hok5 := Lib.hid hok5; have Hb5 := Lib.hid (below_chain Hb.out h65); have Hs65 := Lib.hid h65; have Hgs := Lib.hid hgs; have Hx2s := Lib.hid (Nat.le_trans (show w.heap.size + 2 ≤ w6.heap.size by omega) hx2s)
    have hl5 : w.heap.size + 1 < w5.heap.size := lt_of_block g1
    have q7 : w5.cell? ⟨w.heap.size + 1, 7, none⟩ = some (.slice s.a s.n s.c) := (obj_cell g1 7).trans rfl
    have q8 : w5.cell? ⟨w.heap.size + 1, 8, none⟩ = some (.slice k.a k.n k.c) := (obj_cell g1 8).trans rfl
    have fz7 : w5.frozen? ⟨w.heap.size + 1, 7, none⟩ = false := by have := BenchB.free (show BenchB w5 (w.heap.size + 1) _ x _ _ s k from g1) 7; exact this
    have fz8 : w5.frozen? ⟨w.heap.size + 1, 8, none⟩ = false := by have := BenchB.free (show BenchB w5 (w.heap.size + 1) _ x _ _ s k from g1) 8; exact this
    clear hb3 hb4 hb5 hx1 hx1' hx2 hw1 hw2 h65 hos hok hos5 hok5 g1 d7 d8 hl1 hl2
    rw [hkn]
    rw [hln]
    go_wp2_with fail
    go_ret2
    have h3 := obj_setCell (obj_setCell G2.out 7 (.slice (some ⟨gs, 0, none⟩) s.n sc)) 8 (.slice (some ⟨gk, 0, none⟩) k.n kc)
    have hkeep := keptOn_setCells (w.heap.size + 1) [.slice (some ⟨gs, 0, none⟩) s.n sc, .slice (some ⟨gk, 0, none⟩) k.n kc] 7 w5
    have hsz := size_setCells (w.heap.size + 1) [.slice (some ⟨gs, 0, none⟩) s.n sc, .slice (some ⟨gk, 0, none⟩) k.n kc] 7 w5
    refine Or.inr ⟨Hv.out, w.heap.size + 1, gs, sc, ⟨fa, f.n, fc⟩, ⟨va, v.n, vc⟩, ⟨some ⟨gk, 0, none⟩, k.n, kc⟩, rfl, h3, ?_, rfl, ?_, ?_, ?_, ⟨Hx.out.fn, Hx.out.wn, Hx.out.sn, Hx.out.kn, ?_, ?_, Hx.out.nm⟩, ((Hb5.out.setCell (p := ⟨w.heap.size + 1, 7, none⟩) (Nat.le_succ _) _).setCell (p := ⟨w.heap.size + 1, 8, none⟩) (Nat.le_succ _) _)⟩
    · exact Hos5.out.keep surfOk (hkeep.mono (fun b h => by have := h.1; omega)) (Nat.le_of_eq hsz.symm)
    · exact Hf6.out.kept (((keptOn_below Hs65.out).mono (fun b h => h.2)).trans (hkeep.mono (fun b h => by have := h.1; omega))) (fun b h => ⟨h.1, by rw [show (World.setCell _ _ _).heap.size = _ from hsz]; have := h.2; have := Hs65.out.size; omega, by have := h.2; have := Hgs.out.1; omega⟩)
    · exact Hv6.out.kept (((keptOn_below Hs65.out).mono (fun b h => h.2)).trans (hkeep.mono (fun b h => by have := h.1; omega))) (fun b h => ⟨h.1, by rw [show (World.setCell _ _ _).heap.size = _ from hsz]; have := h.2; have := Hs65.out.size; omega, by have := h.2; have := Hgs.out.1; omega⟩)
    · exact Hok5.out.kept confOk (hkeep.mono (fun b h => by have := h.1; have := Hx2s.out; omega)) (fun b h => ⟨by have := h.1; have := Hx2s.out; omega, by rw [show (World.setCell _ _ _).heap.size = _ from hsz]; exact h.2, by have := h.1; have := Hgs.out.2; omega⟩)
    · exact Hfc.out
    · exact Hvc.out

end Go.Proofs.YthommhfppeonpaaGreatDoor

namespace Go.Proofs.YthommhfppeonpaaGreatDoor
open Go.RowKit

def getAt (l : List SurfC) (i p : Int) : Int := match l[i.toNat]? with
  | some y => y.s.get p
  | none => 0
def lgetE (x : LensD) (i p : Int) : Int := if validB x = true then (if lhasB x.l i p = true then 0 else 2) else 120
def lgetV (x : LensD) (i p : Int) : Value := .tuple #[.int .i64 (if lgetE x i p = 0 then getAt x.l i p else 0), .int .i64 (lgetE x i p)]

/-- what lhasB says -/
theorem lhasB_at {l : List SurfC} {i p : Int} (h : lhasB l i p = true) : ∃ (k : Nat) (y : SurfC), i = (k : Int) ∧ k < l.length ∧ l[k]? = some y ∧ okC y = true ∧ hasB y.s p = true := by
  unfold lhasB at h
  simp only [Bool.and_eq_true] at h
  obtain ⟨⟨h1, h2⟩, _⟩ := h
  have h1 : 0 ≤ i ∧ i ≤ (l.length : Int) - 1 := by simpa [bt] using h1
  obtain ⟨k, rfl⟩ : ∃ k : Nat, i = (k : Int) := ⟨i.toNat, by omega⟩
  have hk : k < l.length := by omega
  unfold hasX at h2
  rw [Int.toNat_natCast, List.getElem?_eq_getElem hk] at h2
  simp only [hasC, Bool.and_eq_true] at h2
  exact ⟨k, l[k], rfl, hk, List.getElem?_eq_getElem hk, h2.1, h2.2⟩

set_option maxRecDepth 100000 in
set_option maxHeartbeats 3200000 in
theorem lGet_any (x : LensD) (f v s k : Ptr) (i p : Int) (w : World) (hx : LensAt (fun b => b < w.heap.size) w x f v s k) (hP : Places w.heap.size w) :
    Calls Tryz.prog 16 #[lensV x f v s k, .int .i64 i, .int .i64 p] w (RetB w (lgetV x i p)) := by
  have Hx := Lib.hid hx; have HP := Lib.hid hP
  clear hx hP
  have hb := (Below.refl w.heap.size w).alloc (Nat.le_refl _) (.cells (cells9 x f v s k).toArray 48)
  have he := heap_alloc_new w (.cells (cells9 x f v s k).toArray 48)
  have Hb := Lib.hid hb
  clear hb he
  unfold lensV
  go_enter Tryz.func16, Tryz.ntmps16
  go_wp2_with fail
  refine (lstart_any x f v s k _ (Hx.out.go Hb.out) (HP.out.go Hb.out)).mono ?_
  rintro e w2 (⟨h1, rfl, hb2⟩ | ⟨h1, g, gs, sc, f', v', k', rfl, hg, hos, hge, hu1, hu2, hu3, hbd, hb2⟩)
  · have hE : lgetE x i p = 120 := by unfold lgetE; rw [if_neg (by rw [h1]; simp)]
    go_wp2
    go_ret2
    exact ⟨by unfold lgetV; rw [hE]; rfl, below_chain Hb.out hb2⟩
  · clear hge hu1 hu2 hu3
    have hbb := below_chain Hb.out hb2
    have hp2 := HP.out.go hbb
    have hrr := hos.rr surfOk
    obtain ⟨_, _, _, _, _, _, _, c7, _⟩ := hg.cells
    have hgl := hg.lt
    have Hbb := Lib.hid hbb; have Hp2 := Lib.hid hp2; have Hrr := Lib.hid hrr; have Hg := Lib.hid hg; have Hbd := Lib.hid hbd
    clear hbb hp2 hrr hg hos hbd hb2
    cases hh : lhasB x.l i p with
    | false =>
      have hE : lgetE x i p = 2 := by unfold lgetE; rw [if_pos h1, hh]; rfl
      have Hh := Lib.hid hh; have HE := Lib.hid hE; clear hh hE
      go_wp2_with ((with_reducible refine (lhas_any x.l _ s.n sc i p _ Hrr.out Hbd.out.2.2.1 Hp2.out).mono ?_); rintro e w3 ⟨he, hb3⟩; rw [Hh.out] at he; subst he; have Hb3 := Lib.hid hb3; clear hb3)
      go_ret2
      exact ⟨by unfold lgetV; rw [HE.out]; rfl, below_chain Hbb.out Hb3.out⟩
    | true =>
      have hE : lgetE x i p = 0 := by unfold lgetE; rw [if_pos h1, hh]; rfl
      have Hh := Lib.hid hh; have HE := Lib.hid hE
      obtain ⟨j, y, rfl, hj, hy, ho, hhb⟩ := lhasB_at hh
      clear hh hE
      have hjn : j < s.n := by have := Hrr.out.1; omega
      have hyd : getAt x.l j p = y.s.get p := by unfold getAt; rw [Int.toNat_natCast, hy]
      have Hyd := Lib.hid hyd; have Hy := Lib.hid hy; have Ho := Lib.hid ho; have Hhb := Lib.hid hhb; clear hyd hy ho hhb
      go_wp2_with (first
        | ((with_reducible refine (lhas_any x.l _ s.n sc j p _ Hrr.out Hbd.out.2.2.1 Hp2.out).mono ?_); rintro e w3 ⟨he, hb3⟩; rw [Hh.out] at he; subst he; clear c7; obtain ⟨_, _, _, _, _, _, _, c7, _⟩ := (Hg.out.go hb3).cells; obtain ⟨b1, off, z, cs, e1, hlt, hz1, ⟨a2, n2, c2, rfl, hz, hn2, hc2, hg2⟩, hr⟩ := (Hrr.out.go surfOk hb3).at hjn; cases e1; rw [Nat.zero_add] at hr; rw [Hy.out] at hz1; cases hz1; have Hr := Lib.hid hr; have Hz := Lib.hid hz; have Hg2 := Lib.hid hg2; have Hb3 := Lib.hid hb3; clear hb3 hr hz hg2 hc2 hlt)
        | (refine wpL_load_at Hr.out rfl (.tmp 33) rfl rfl ?_)
        | ((with_reducible refine (sGet_any y.s y.zs p a2 n2 c2 _ (Hz.out.ir (fun _ h => h)) hn2 Hg2.out (Hp2.out.go Hb3.out)).mono ?_); rintro e w4 ⟨he, hb4⟩; have hm : missI y.s y.zs n2 p = 0 := (by unfold missI; rw [if_pos (show okS y.s y.zs n2 = true from by (have := Ho.out; unfold okC at this; rwa [← coat_n Hz.out] at this)), if_pos Hhb.out]); unfold getV at he; rw [if_pos hm] at he; subst he; have Hb4 := Lib.hid hb4; clear hb4 hm))
      go_ret2
      exact ⟨by unfold lgetV; rw [HE.out, Hyd.out]; rfl, below_chain Hbb.out (below_chain Hb3.out Hb4.out)⟩

end Go.Proofs.YthommhfppeonpaaGreatDoor

namespace Go.Proofs.YthommhfppeonpaaGreatDoor
open Go.RowKit

theorem Tryz.infoLens : (Tryz.prog.info? 48).map (·.size) = some 9 := by kernel_rfl

/-- a lens is stored -/
theorem wpL_store_lens {ops : Array Oper} {rest : List Oper} {op : Oper} {ac : Act} {w : World} {Q : Exit → Act → World → Prop} {g : Nat} {cs : Array Value} (x : LensD) (f v s k : Ptr) (h : w.heap[g]? = some (.cells cs 48 (0, 0))) (hsz : cs.size = 9) (hgd : op.guard = none) (y z : Operand) (ho : op.op = .store 48 y z)
    (hx : ac.eval y = .pointer (some ⟨g, 0, none⟩)) (hy : ac.eval z = .agg #[.string x.nm, .int .i64 x.dist, .int .i64 x.pupil, .int .i64 x.stop, .int .i64 x.prim, .slice f.a f.n f.c, .slice v.a v.n v.c, .slice s.a s.n s.c, .slice k.a k.n k.c])
    (hk : ∀ w', BenchB w' g 48 x f v s k → w' = w.setCells g 0 (cells9 x f v s k) → wpList Tryz.prog ops Q rest (ac.put op.dst undef) w') : wpList Tryz.prog ops Q (op :: rest) ac w :=
  wpList_store_mid hgd 48 y z ho g 0 _ hx hy (there_block h hsz) Tryz.infoLens (by simp [Value.oneCell']) (hk _ (heap_setAll h hsz) rfl)

/-- a lens is loaded -/
theorem BenchB.range {w : World} {g : Nat} {T : TypeId} {x : LensD} {f v s k : Ptr} (h : BenchB w g T x f v s k) : w.rangeAt g 0 (cells9 x f v s k) := range_block h
theorem wpL_load_lens {ops : Array Oper} {rest : List Oper} {op : Oper} {ac : Act} {w : World} {Q : Exit → Act → World → Prop} {g : Nat} {T : TypeId} {x : LensD} {f v s k : Ptr} (h : BenchB w g T x f v s k) (hgd : op.guard = none) (y : Operand) (ho : op.op = .load 48 y)
    (hx : ac.eval y = .pointer (some ⟨g, 0, none⟩)) (hk : wpList Tryz.prog ops Q rest (ac.put op.dst (.agg #[.string x.nm, .int .i64 x.dist, .int .i64 x.pupil, .int .i64 x.stop, .int .i64 x.prim, .slice f.a f.n f.c, .slice v.a v.n v.c, .slice s.a s.n s.c, .slice k.a k.n k.c])) w) : wpList Tryz.prog ops Q (op :: rest) ac w :=
  wpList_load_mid hgd 48 y ho g 0 hx (cells9 x f v s k) _ h.range Tryz.underlying48 rfl Tryz.infoLens hk

theorem ret_lens_tmp {fn : Func} {p u : Tmp} {tmps : Array Value} {w : World} {g : Nat} {x : LensD} {f v s k : Ptr} {e : Value} (h : fn.results = #[.cell p 48, .tmp u]) (hp : tmps.getD p undef = .pointer (some ⟨g, 0, none⟩)) (hu : tmps.getD u undef = e) (hs : BenchB w g 48 x f v s k) :
    (results fn tmps).run Tryz.prog w = .ok (.tuple #[lensV x f v s k, e]) w := by
  rw [results_cell_tmp h, hp, hu]
  simp only [asAddr, Sem.run_pure, Result.andThen_ok]
  rw [run_loadVar_row w g 48 48 _ (0, 0) _ hs Tryz.underlying48 rfl Tryz.infoLens]
  rfl

def lens0 : LensD := ⟨emptyS, 0, 0, 0, 0, [], [], [], []⟩
def ptr0 : Ptr := ⟨none, 0, 0⟩
def lsetX (x : LensD) (i p v : Int) : LensD := { x with l := putL x.l i p v }
def lsetE (x : LensD) (i p v : Int) : Int := if validB x = true then (if putB x.l i p v = true ∧ validB (lsetX x i p v) = true then 0 else 2) else 120

/-- Set: an error, or the lens with the parameter set -/
def RetLSet (w : World) (x : LensD) (i p v : Int) (e : Ending) (w' : World) : Prop :=
  (lsetE x i p v ≠ 0 ∧ e = .returned (.tuple #[lensV lens0 ptr0 ptr0 ptr0 ptr0, .int .i64 (lsetE x i p v)]) ∧ Below w.heap.size w w') ∨
  (lsetE x i p v = 0 ∧ ∃ f v' s k, e = .returned (.tuple #[lensV (lsetX x i p v) f v' s k, .int .i64 0]) ∧ LensAt (fun b => w.heap.size ≤ b ∧ b < w'.heap.size) w' (lsetX x i p v) f v' s k ∧ Below w.heap.size w w')

theorem lset_at {B : Nat} {w2 w3 : World} {x : LensD} {i p va : Int} {f v k : Ptr} {gs n sc : Nat} (ho : OwnR SurfR 22 92 B w3 (.slice (some ⟨gs, 0, none⟩) n sc) (putL x.l i p va)) (hg : w2.grownBy w3 (some gs))
    (hf : IRp (fun b => B ≤ b ∧ b < w2.heap.size ∧ b ≠ gs) w2 2 f.a f.n f.c x.fs) (hv : IRp (fun b => B ≤ b ∧ b < w2.heap.size ∧ b ≠ gs) w2 2 v.a v.n v.c x.ws) (hk : RR ConfR 2 (fun b => B ≤ b ∧ b < w2.heap.size ∧ b ≠ gs) w2 k.a k.n k.c x.cf)
    (hb : f.n ≤ 1000000 ∧ v.n ≤ 1000000 ∧ n ≤ 1000000 ∧ k.n ≤ 1000000 ∧ (f.a = none → f.c = 0) ∧ (v.a = none → v.c = 0) ∧ x.nm.size ≤ 9223372036854775807) : LensAt (fun b => B ≤ b ∧ b < w3.heap.size) w3 (lsetX x i p va) f v ⟨some ⟨gs, 0, none⟩, n, sc⟩ k := by
  have hkeep : KeptOn (fun b => B ≤ b ∧ b < w2.heap.size ∧ b ≠ gs) w2 w3 := (keptOn_grown hg).mono (fun b h => ⟨h.2.1, fun e => h.2.2 (by injection e with e; exact e.symm)⟩)
  have hs : ∀ b, (B ≤ b ∧ b < w2.heap.size ∧ b ≠ gs) → (B ≤ b ∧ b < w3.heap.size) := fun b h => ⟨h.1, Nat.lt_of_lt_of_le h.2.1 hg.size⟩
  exact ⟨hf.kept hkeep hs, hv.kept hkeep hs, ho.rr2 surfOk, hk.kept confOk hkeep hs, hb.1, hb.2.1, hb.2.2.1, hb.2.2.2.1, hb.2.2.2.2.1, hb.2.2.2.2.2.1, hb.2.2.2.2.2.2⟩

set_option maxRecDepth 100000 in
set_option maxHeartbeats 3200000 in
theorem lSet_any (x : LensD) (f v s k : Ptr) (i p va : Int) (w : World) (hx : LensAt (fun b => b < w.heap.size) w x f v s k) (hP : Places w.heap.size w) :
    Calls Tryz.prog 17 #[lensV x f v s k, .int .i64 i, .int .i64 p, .int .i64 va] w (RetLSet w x i p va) := by
  have Hx := Lib.hid hx; have HP := Lib.hid hP
  clear hx hP
  obtain ⟨e1, e2⟩ := heap_two w (.cells (cells9 x f v s k).toArray 48) (.cells #[.string emptyS, .int .i64 0, .int .i64 0, .int .i64 0, .int .i64 0, .slice none 0 0, .slice none 0 0, .slice none 0 0, .slice none 0 0] 48)
  have hb := below_two (w := w) (.cells (cells9 x f v s k).toArray 48) (.cells #[.string emptyS, .int .i64 0, .int .i64 0, .int .i64 0, .int .i64 0, .slice none 0 0, .slice none 0 0, .slice none 0 0, .slice none 0 0] 48)
  have E1 := Lib.hid e1; have E2 := Lib.hid e2; have Hb := Lib.hid hb
  clear e1 e2 hb
  unfold lensV
  go_enter Tryz.func17, Tryz.ntmps17
  go_upto_region 1 with fail
  refine step_world (fun wx => wx.heap.size = w.heap.size + 2 ∧ wx.heap[w.heap.size]? = some (.cells (cells9 x f v s k).toArray 48 (0, 0)) ∧ wx.heap[w.heap.size + 1]? = some (.cells #[.string emptyS, .int .i64 0, .int .i64 0, .int .i64 0, .int .i64 0, .slice none 0 0, .slice none 0 0, .slice none 0 0, .slice none 0 0] 48 (0, 0)) ∧ Below w.heap.size w wx) ⟨by simp, E1.out, E2.out, Hb.out⟩ ?_
  clear E1 E2 Hb
  rintro w1 ⟨hs1, h1, h2, hb⟩
  have hl2 := lt_of_block h2
  have H1 := Lib.hid h1; have H2 := Lib.hid h2; have Hb := Lib.hid hb; have Hs1 := Lib.hid hs1
  clear h1 h2 hb hs1
  go_wp2_with (first
    | (refine wpL_load_lens (g := w.heap.size) (x := x) (f := f) (v := v) (s := s) (k := k) H1.out rfl (.tmp 4) rfl rfl ?_)
    | fail)
  refine (lstart_any x f v s k _ (Hx.out.go Hb.out) (HP.out.go Hb.out)).mono ?_
  rintro e w2 (⟨h1, rfl, hb2⟩ | ⟨h1, g, gs, sc, f', v', k', rfl, hg, hos, hge, hu1, hu2, hu3, hbd, hb2⟩)
  · have hE : lsetE x i p va = 120 := by unfold lsetE; rw [if_neg (by rw [h1]; simp)]
    have HE := Lib.hid hE; have Hb2 := Lib.hid hb2; have H22 := Lib.hid ((hb2.block _ hl2).trans H2.out)
    clear hE h1 hb2
    go_wp2_with (refine wpL_store_lens lens0 ptr0 ptr0 ptr0 ptr0 H22.out rfl rfl (.tmp 8) (.tmp 19) rfl rfl rfl ?_; intro w3 h3 e3; have H3 := Lib.hid h3; have He3 := Lib.hid e3; clear h3 e3 H22)
    refine bodyPost_ret (ret_lens_tmp rfl rfl rfl H3.out) rfl ?_
    refine Or.inl ⟨by rw [HE.out]; decide, by rw [HE.out]; rfl, ?_⟩
    rw [He3.out]
    exact below_setCells (Nat.le_succ _) _ _ (below_chain Hb.out Hb2.out)
  · have hgs : w1.heap.size + 2 ≤ gs := by
      rcases hos.form with ⟨e, _⟩ | ⟨g', _, e, q, _⟩
      · cases e
      · have e1 : gs = g' := by injection e with e1; injection e1 with e1; injection e1
        omega
    have hs1 := Hs1.out
    have hggs : g ≠ gs := by omega
    have hNg : w.heap.size + 1 ≠ gs := by omega
    have hwg : w.heap.size ≤ gs := by omega
    have HZ2 := Lib.hid ((hb2.block _ hl2).trans H2.out)
    have HP2 := Lib.hid (HP.out.go (below_chain Hb.out hb2))
    obtain ⟨_, _, _, _, _, _, _, c7, _⟩ := hg.cells
    have hgl := hg.lt
    have Hg := Lib.hid hg; have Hos := Lib.hid hos; have Hf2 := Lib.hid hu1; have Hv2 := Lib.hid hu2; have Hk2 := Lib.hid hu3; have Hbd := Lib.hid hbd; have Hb2 := Lib.hid hb2; have Hgs := Lib.hid hgs; have Hge := Lib.hid hge; have H1v := Lib.hid h1
    clear hg hos hge hu1 hu2 hu3 hbd hb2 hgs h1 hs1
    cases hp : putB x.l i p va with
    | false =>
      have hE : lsetE x i p va = 2 := by unfold lsetE; rw [if_pos H1v.out, if_neg (by rw [hp]; simp)]
      have HE := Lib.hid hE; have Hp := Lib.hid hp; clear hE hp
      go_wp2_with (first
        | ((with_reducible refine (put_any x.l gs s.n sc (w1.heap.size + 2) i p va _ Hos.out Hbd.out.2.2.1 HP2.out).mono ?_); rintro e w3 ⟨he, ho3, hg3⟩; rw [Hp.out] at he; subst he; have Hz3 := Lib.hid ((hg3.block _ (Nat.lt_of_lt_of_le hl2 Hb2.out.size) (fun e => (by injection e with e; omega))).trans HZ2.out); have Hg3 := Lib.hid ((hg3.block _ Hg.out.lt (fun e => (by injection e with e; omega))).trans Hg.out); have HB3 := Lib.hid ((below_chain Hb.out Hb2.out).grown hg3 (below_chain Hb.out Hb2.out).size (fun q hq => (by injection hq with hq; omega))); have Ho3 := Lib.hid ho3; have Hgr := Lib.hid hg3; clear ho3 hg3)
        | (refine wpL_store_lens lens0 ptr0 ptr0 ptr0 ptr0 Hz3.out rfl rfl (.tmp 8) (.tmp 37) rfl rfl rfl ?_; intro w5 h5 e5; have H5 := Lib.hid h5; have He5 := Lib.hid e5; clear h5 e5 Hz3))
      refine bodyPost_ret (ret_lens_tmp rfl rfl rfl H5.out) rfl ?_
      refine Or.inl ⟨by rw [HE.out]; decide, by rw [HE.out]; rfl, ?_⟩
      rw [He5.out]
      exact below_setCells (Nat.le_succ _) _ _ HB3.out
    | true =>
      have Hp := Lib.hid hp; clear hp
      cases hv : validB (lsetX x i p va) with
      | false =>
        have hE : lsetE x i p va = 2 := by unfold lsetE; rw [if_pos H1v.out, if_neg (by rw [hv]; simp)]
        have HE := Lib.hid hE; have Hv := Lib.hid hv; clear hE hv
        go_wp2_with (first
          | ((with_reducible refine (put_any x.l gs s.n sc (w1.heap.size + 2) i p va _ Hos.out Hbd.out.2.2.1 HP2.out).mono ?_); rintro e w3 ⟨he, ho3, hg3⟩; rw [Hp.out] at he; subst he; have Hz3 := Lib.hid ((hg3.block _ (Nat.lt_of_lt_of_le hl2 Hb2.out.size) (fun e => (by injection e with e; omega))).trans HZ2.out); have Hg3 := Lib.hid ((hg3.block _ Hg.out.lt (fun e => (by injection e with e; omega))).trans Hg.out); have HB3 := Lib.hid ((below_chain Hb.out Hb2.out).grown hg3 (below_chain Hb.out Hb2.out).size (fun q hq => (by injection hq with hq; omega))); have Ho3 := Lib.hid ho3; have Hgr := Lib.hid hg3; have hl3 : LensAt (fun b => w1.heap.size + 2 ≤ b ∧ b < w3.heap.size) w3 (lsetX x i p va) f' v' ⟨some ⟨gs, 0, none⟩, s.n, sc⟩ k' := lset_at ho3 hg3 Hf2.out Hv2.out Hk2.out Hbd.out; have Hl3 := Lib.hid hl3; have Hgx := Lib.hid (show BenchB w3 g 98 (lsetX x i p va) f' v' ⟨some ⟨gs, 0, none⟩, s.n, sc⟩ k' from Hg3.out); clear ho3 hg3 hl3)
          | ((with_reducible refine (valid_any (lsetX x i p va) f' v' ⟨some ⟨gs, 0, none⟩, s.n, sc⟩ k' g 98 _ Hgx.out (Hl3.out.kept (KeptOn.refl _ _) (fun b h => h.2)) (HP.out.go HB3.out)).mono ?_); rintro e w4 ⟨he, hb4⟩; rw [Hv.out] at he; subst he; have Hz4 := Lib.hid ((hb4.block _ (lt_of_block Hz3.out)).trans Hz3.out); have HB4 := Lib.hid (below_chain HB3.out hb4); have Hg4 := Lib.hid (Hgx.out.go hb4); have Hl4 := Lib.hid (Hl3.out.kept ((keptOn_below hb4).mono (fun b h => h.2)) (fun b h => (⟨h.1, Nat.lt_of_lt_of_le h.2 hb4.size⟩ : w1.heap.size + 2 ≤ b ∧ b < w4.heap.size))); clear hb4)
          | (refine wpL_store_lens lens0 ptr0 ptr0 ptr0 ptr0 Hz4.out rfl rfl (.tmp 8) (.tmp 37) rfl rfl rfl ?_; intro w5 h5 e5; have H5 := Lib.hid h5; have He5 := Lib.hid e5; clear h5 e5 Hz4))
        refine bodyPost_ret (ret_lens_tmp rfl rfl rfl H5.out) rfl ?_
        refine Or.inl ⟨by rw [HE.out]; decide, by rw [HE.out]; rfl, ?_⟩
        rw [He5.out]
        exact below_setCells (Nat.le_succ _) _ _ HB4.out
      | true =>
        have hE : lsetE x i p va = 0 := by unfold lsetE; rw [if_pos H1v.out, if_pos ⟨Hp.out, hv⟩]
        have HE := Lib.hid hE; have Hv := Lib.hid hv; clear hE hv
        go_wp2_with (first
          | ((with_reducible refine (put_any x.l gs s.n sc (w1.heap.size + 2) i p va _ Hos.out Hbd.out.2.2.1 HP2.out).mono ?_); rintro e w3 ⟨he, ho3, hg3⟩; rw [Hp.out] at he; subst he; have Hz3 := Lib.hid ((hg3.block _ (Nat.lt_of_lt_of_le hl2 Hb2.out.size) (fun e => (by injection e with e; omega))).trans HZ2.out); have Hg3 := Lib.hid ((hg3.block _ Hg.out.lt (fun e => (by injection e with e; omega))).trans Hg.out); have HB3 := Lib.hid ((below_chain Hb.out Hb2.out).grown hg3 (below_chain Hb.out Hb2.out).size (fun q hq => (by injection hq with hq; omega))); have Ho3 := Lib.hid ho3; have Hgr := Lib.hid hg3; have hl3 : LensAt (fun b => w1.heap.size + 2 ≤ b ∧ b < w3.heap.size) w3 (lsetX x i p va) f' v' ⟨some ⟨gs, 0, none⟩, s.n, sc⟩ k' := lset_at ho3 hg3 Hf2.out Hv2.out Hk2.out Hbd.out; have Hl3 := Lib.hid hl3; have Hgx := Lib.hid (show BenchB w3 g 98 (lsetX x i p va) f' v' ⟨some ⟨gs, 0, none⟩, s.n, sc⟩ k' from Hg3.out); clear ho3 hg3 hl3)
          | ((with_reducible refine (valid_any (lsetX x i p va) f' v' ⟨some ⟨gs, 0, none⟩, s.n, sc⟩ k' g 98 _ Hgx.out (Hl3.out.kept (KeptOn.refl _ _) (fun b h => h.2)) (HP.out.go HB3.out)).mono ?_); rintro e w4 ⟨he, hb4⟩; rw [Hv.out] at he; subst he; have Hz4 := Lib.hid ((hb4.block _ (lt_of_block Hz3.out)).trans Hz3.out); have HB4 := Lib.hid (below_chain HB3.out hb4); have Hg4 := Lib.hid (Hgx.out.go hb4); have Hl4 := Lib.hid (Hl3.out.kept ((keptOn_below hb4).mono (fun b h => h.2)) (fun b h => (⟨h.1, Nat.lt_of_lt_of_le h.2 hb4.size⟩ : w1.heap.size + 2 ≤ b ∧ b < w4.heap.size))); clear hb4)
          | (refine wpL_load_lens Hg4.out rfl _ rfl rfl ?_)
          | (refine wpL_store_lens (lsetX x i p va) f' v' ⟨some ⟨gs, 0, none⟩, s.n, sc⟩ k' Hz4.out rfl rfl (.tmp 8) (.tmp 41) rfl rfl rfl ?_; intro w5 h5 e5; have H5 := Lib.hid h5; have He5 := Lib.hid e5; clear h5 e5 Hz4))
        refine bodyPost_ret (ret_lens_tmp rfl rfl rfl H5.out) rfl ?_
        refine Or.inr ⟨HE.out, _, _, _, _, rfl, ?_, ?_⟩
        · rw [He5.out]
          exact Hl4.out.kept ((keptOn_setCells (w.heap.size + 1) _ 0 w4).mono (fun b h => by have := h.1; have := Hs1.out; omega)) (fun b h => ⟨by have := h.1; have := Hs1.out; omega, by rw [size_setCells]; exact h.2⟩)
        · rw [He5.out]
          exact below_setCells (Nat.le_succ _) _ _ HB4.out

end Go.Proofs.YthommhfppeonpaaGreatDoor

namespace Go.Proofs.YthommhfppeonpaaGreatDoor
open Go.RowKit

def spKey (s p : Int) : Value := .agg #[.int .i64 s, .int .i64 p, .int .i64 0, .int .i64 0]

theorem checkKey_sp (b : Bool) (s p : Int) (w : World) : (Instr.checkKey b 10000 61 (spKey s p)).run Tryz.prog w = .ok () w := by cases b <;> kernel_rfl

theorem eq_sp (s p s' p' : Int) (w : World) : (Op.equal 61 (spKey s p) (spKey s' p')).run Tryz.prog w = .ok ((s == s') && (p == p')) w := by
  cases h1 : (s == s') <;> cases h2 : (p == p')
  all_goals
    unfold Op.equal spKey
    rw [show Op.maxDepth = 9999 + 1 from rfl, run_equalIn_agg w 9999 61 _ _ (by kernel_rfl) (by kernel_rfl)]
    simp [go_sem, h1, h2]

/-- block b is a map of these spreads to true -/
def MapSp (w : World) (b : Nat) (ks : List (Int × Int)) : Prop :=
  ∃ es clock, w.heap[b]? = some (.map es clock) ∧ es.toList.map (fun e => (e.key, e.val)) = ks.map (fun k => (spKey k.1 k.2, Value.bool true))
def memSp (s p : Int) (ks : List (Int × Int)) : Bool := ks.any fun k => (s == k.1) && (p == k.2)

theorem MapSp.block {w w' : World} {b : Nat} {ks : List (Int × Int)} (h : MapSp w b ks) (hb : w'.heap[b]? = w.heap[b]?) : MapSp w' b ks := by
  obtain ⟨es, clock, h1, h2⟩ := h
  exact ⟨es, clock, hb.trans h1, h2⟩

theorem findAsking_sp (s p : Int) (w : World) : ∀ (l : List MapEntry) (ks : List (Int × Int)) (i : Nat), l.map (fun e => (e.key, e.val)) = ks.map (fun k => (spKey k.1 k.2, Value.bool true)) →
    (memSp s p ks = true ∧ ∃ j, (Instr.findAsking 61 (spKey s p) l i).run Tryz.prog w = .ok (some (j, .bool true)) w) ∨ (memSp s p ks = false ∧ (Instr.findAsking 61 (spKey s p) l i).run Tryz.prog w = .ok none w)
  | [], [], i, _ => Or.inr ⟨by simp [memSp], rfl⟩
  | [], k :: ks, i, h => by cases h
  | e :: l, [], i, h => by cases h
  | e :: l, k :: ks, i, h => by
    simp only [List.map_cons, List.cons.injEq, Prod.mk.injEq] at h
    obtain ⟨⟨h1, h2⟩, h3⟩ := h
    have he := eq_sp s p k.1 k.2 w
    cases q : ((s == k.1) && (p == k.2))
    · rw [q] at he
      have hr : (Instr.findAsking 61 (spKey s p) (e :: l) i).run Tryz.prog w = (Instr.findAsking 61 (spKey s p) l (i + 1)).run Tryz.prog w := by
        conv => lhs; unfold Instr.findAsking
        rw [h1, Sem.run_bind, he]; rfl
      rw [hr]
      rcases findAsking_sp s p w l ks (i + 1) h3 with ⟨q1, q2⟩ | ⟨q1, q2⟩
      · exact Or.inl ⟨by unfold memSp at *; rw [List.any_cons, q, q1]; rfl, q2⟩
      · exact Or.inr ⟨by unfold memSp at *; rw [List.any_cons, q, q1]; rfl, q2⟩
    · rw [q] at he
      refine Or.inl ⟨by unfold memSp; rw [List.any_cons, q]; rfl, i, ?_⟩
      unfold Instr.findAsking; rw [h1, h2, Sem.run_bind, he]; rfl

set_option maxRecDepth 100000 in
theorem findKey_sp (s p : Int) (w : World) (l : List MapEntry) (ks : List (Int × Int)) (h : l.map (fun e => (e.key, e.val)) = ks.map (fun k => (spKey k.1 k.2, Value.bool true))) :
    (memSp s p ks = true ∧ ∃ j, (Instr.findKey 61 (spKey s p) l).run Tryz.prog w = .ok (some (j, .bool true)) w) ∨ (memSp s p ks = false ∧ (Instr.findKey 61 (spKey s p) l).run Tryz.prog w = .ok none w) := by
  cases l with
  | nil =>
    cases ks with
    | nil => exact Or.inr ⟨by simp [memSp], by unfold Instr.findKey; rw [Sem.run_bind, run_underlying Tryz.underlying61]; rfl⟩
    | cons k ks => cases h
  | cons e l =>
    have hr : (Instr.findKey 61 (spKey s p) (e :: l)).run Tryz.prog w = (Instr.findAsking 61 (spKey s p) (e :: l) 0).run Tryz.prog w := by
      unfold Instr.findKey
      rw [Sem.run_bind, run_underlying Tryz.underlying61, Result.andThen_ok]
      have hk : ∀ fs, Instr.findNow (.struct fs) (spKey s p) (e :: l) 0 = none := fun fs => by unfold Instr.findNow; rfl
      rw [hk]
    rw [hr]
    exact findAsking_sp s p w (e :: l) ks 0 h

theorem run_lookup_sp {w : World} {b : Nat} {ks : List (Int × Int)} (h : MapSp w b ks) (s p : Int) :
    (Instr.lookup 79 (.map (some b)) (.agg #[.int .i64 s, .int .i64 p, .int .i64 0, .int .i64 0]) false).run Tryz.prog w = .ok (.bool (memSp s p ks)) w := by
  obtain ⟨es, clock, hb, hes⟩ := h
  show (Instr.lookup 79 (.map (some b)) (spKey s p) false).run Tryz.prog w = _
  unfold Instr.lookup
  rw [Sem.run_bind, run_underlying Tryz.underlying79]
  simp only [Result.andThen_ok, Sem.run_bind, MapKept.run_getObj_map hb, Sem.run_pure, checkKey_sp]
  rcases findKey_sp s p w es.toList ks hes with ⟨q1, j, q2⟩ | ⟨q1, q2⟩
  · rw [q2, q1]; rfl
  · rw [q2, q1]
    simp only [Result.andThen_ok, Sem.run_bind, Tryz.zeroBool, Sem.run_pure]
    rfl

theorem run_update_sp {w : World} {b : Nat} {ks : List (Int × Int)} (h : MapSp w b ks) (s p : Int) (hs : memSp s p ks = false) :
    ∃ w', (Instr.mapUpdate 79 (.map (some b)) (spKey s p) (.bool true)).run Tryz.prog w = .ok () w' ∧ MapSp w' b (ks ++ [(s, p)]) ∧ w.grownBy w' (some b) := by
  obtain ⟨es, clock, hb, hes⟩ := h
  rcases findKey_sp s p w es.toList ks hes with ⟨q1, _⟩ | ⟨q1, q2⟩
  · rw [hs] at q1; cases q1
  · refine ⟨{ w with heap := w.heap.setIfInBounds b (.map (es.push { key := spKey s p, val := .bool true, born := clock }) (clock + 1)) }, ?_, ?_, ?_⟩
    · unfold Instr.mapUpdate
      rw [Sem.run_bind, run_underlying Tryz.underlying79]
      simp only [Result.andThen_ok, Sem.run_bind, MapKept.run_getObj_map hb, checkKey_sp, q2, MapKept.run_setObj_map _ hb]
    · have hlt := lt_of_block hb
      exact ⟨es.push { key := spKey s p, val := .bool true, born := clock }, clock + 1, by simp [hlt], by simp [hes]⟩
    · refine ⟨rfl, rfl, rfl, by simp, fun k hk hne => ?_⟩
      show (w.heap.setIfInBounds b _)[k]? = _
      rw [Array.getElem?_setIfInBounds_ne (fun e => hne (by rw [e]))]

theorem wpList_update_sp {ops : Array Oper} {rest : List Oper} {o : Oper} {a : Act} {Q : Exit → Act → World → Prop} {w : World} (hgd : o.guard = none) (m x v : Operand) (ho : o.op = .mapUpdate 79 m x v)
    {b : Nat} {ks : List (Int × Int)} (h : MapSp w b ks) (s p : Int) (hs : memSp s p ks = false) (hm : a.eval m = .map (some b)) (hx : a.eval x = .agg #[.int .i64 s, .int .i64 p, .int .i64 0, .int .i64 0]) (hv : a.eval v = .bool true)
    (hK : ∀ w', MapSp w' b (ks ++ [(s, p)]) → w.grownBy w' (some b) → wpList Tryz.prog ops Q rest (a.put o.dst undef) w') : wpList Tryz.prog ops Q (o :: rest) a w := by
  obtain ⟨w', hr, h1, h2⟩ := run_update_sp h s p hs
  refine wpList_plain hgd fun K hK' => ?_
  unfold Oper.wp
  have hx : a.eval x = spKey s p := hx
  simp [execOp, ho, hm, hx, hv, hr, Result.andThen]
  exact hK' _ _ (hK w' h1 h2)

end Go.Proofs.YthommhfppeonpaaGreatDoor

namespace Go.Proofs.YthommhfppeonpaaGreatDoor
open Go.RowKit

def keysOf (ss : List Int) (i : Nat) : List (Int × Int) := (List.range i).map fun j => (ss.getD (j * 4) 0, ss.getD (j * 4 + 1) 0)
def sprOk (x : LensD) (s p lo hi : Int) : Bool := lHasB x s p && decide (-1000000 ≤ lo) && decide (hi ≤ 1000000) && decide (lo ≤ hi)
def sprGood (x : LensD) (ss : List Int) (i : Nat) : Bool := !memSp (ss.getD (i * 4) 0) (ss.getD (i * 4 + 1) 0) (keysOf ss i) && sprOk x (ss.getD (i * 4) 0) (ss.getD (i * 4 + 1) 0) (ss.getD (i * 4 + 2) 0) (ss.getD (i * 4 + 3) 0)
def ycheckE (x : LensD) (ss : List Int) (n : Nat) : Int := if validB x = true then (if 0 < x.cf.length then 5 else if 12 < n then 390 else if (List.range n).all (sprGood x ss) = true then 0 else 390) else 120

theorem IR.at4 {N : Nat} {w : World} {a : Option Addr} {n c : Nat} {zs : List Int} (h : IR N w 4 a n c zs) {k : Nat} (hk : k < n) :
    ∃ b off, a = some ⟨b, off, none⟩ ∧ b < N ∧ w.cell? ⟨b, off + k * 4, none⟩ = some (.int .i64 (zs.getD (k * 4) 0)) ∧ w.cell? ⟨b, off + k * 4 + 1, none⟩ = some (.int .i64 (zs.getD (k * 4 + 1) 0)) ∧ w.cell? ⟨b, off + k * 4 + 2, none⟩ = some (.int .i64 (zs.getD (k * 4 + 2) 0)) ∧ w.cell? ⟨b, off + k * 4 + 3, none⟩ = some (.int .i64 (zs.getD (k * 4 + 3) 0)) := by
  obtain ⟨b, off, e, hb, hc⟩ := h.2.2 (by omega)
  exact ⟨b, off, e, hb, hc (k * 4) (by omega), hc (k * 4 + 1) (by omega), hc (k * 4 + 2) (by omega), hc (k * 4 + 3) (by omega)⟩

theorem keysOf_next (ss : List Int) (i : Nat) : keysOf ss (i + 1) = keysOf ss i ++ [(ss.getD (i * 4) 0, ss.getD (i * 4 + 1) 0)] := by
  unfold keysOf; rw [List.range_succ, List.map_append]; rfl

theorem cells_of_four {w : World} {g : Nat} {x y z u : Value} {T : TypeId} (h : w.heap[g]? = some (.cells #[x, y, z, u] T (0, 0))) : w.cell? ⟨g, 0, none⟩ = some x ∧ w.cell? ⟨g, 1, none⟩ = some y ∧ w.cell? ⟨g, 2, none⟩ = some z ∧ w.cell? ⟨g, 3, none⟩ = some u := by
  refine ⟨?_, ?_, ?_, ?_⟩ <;> simp [World.cell?, h]

set_option maxRecDepth 100000 in
set_option maxHeartbeats 3200000 in
theorem ycheck_any (x : LensD) (f v s k : Ptr) (ss : List Int) (sa : Option Addr) (n sc : Nat) (w : World) (hx : LensAt (fun b => b < w.heap.size) w x f v s k) (hP : Places w.heap.size w) (hs : IR w.heap.size w 4 sa n sc ss) (hn : n ≤ 1000000) :
    Calls Tryz.prog 11 #[lensV x f v s k, .slice sa n sc] w (RetB w (.int .i64 (ycheckE x ss n))) := by
  have Hx := Lib.hid hx; have HP := Lib.hid hP; have Hs := Lib.hid hs
  clear hx hP hs
  have hb := (Below.refl w.heap.size w).alloc (Nat.le_refl _) (.cells (cells9 x f v s k).toArray 48)
  have he := heap_alloc_new w (.cells (cells9 x f v s k).toArray 48)
  have Hb := Lib.hid hb; have He := Lib.hid he
  clear hb he
  have hcl : x.cf.length = k.n := Hx.out.cf.1
  have Hcl := Lib.hid hcl; clear hcl
  have hmm := @run_makeMap Tryz.prog
  unfold lensV
  go_enter Tryz.func11, Tryz.ntmps11
  go_wp2_with fail
  refine (lcheck_any x f v s k _ (Hx.out.go Hb.out) (HP.out.go Hb.out)).mono ?_
  rintro e w1 ⟨he, hb1⟩
  have hb2 := below_chain Hb.out hb1
  have h1 := (hb1.block w.heap.size (by simp)).trans He.out
  have H1 := Lib.hid h1; have Hb1 := Lib.hid hb2
  have hl1 := lt_of_block h1
  have c8 : w1.cell? ⟨w.heap.size, 8, none⟩ = some (.slice k.a k.n k.c) := (obj_cell h1 8).trans rfl
  clear hb1 hb2 h1 He Hb
  cases hv : validB x with
  | false =>
    rw [hv] at he; unfold err at he; simp only [if_false, Bool.false_eq_true] at he
    subst he
    have hE : ycheckE x ss n = 120 := by unfold ycheckE; rw [if_neg (by rw [hv]; simp)]
    have HE := Lib.hid hE; clear hE hv
    go_wp2
    go_ret
    exact ⟨by rw [HE.out]; rfl, Hb1.out⟩
  | true =>
    rw [hv] at he; unfold err at he; simp only [if_true] at he
    subst he
    by_cases hc : 0 < k.n
    · have hE : ycheckE x ss n = 5 := by unfold ycheckE; rw [if_pos hv, if_pos (by rw [Hcl.out]; exact hc)]
      have HE := Lib.hid hE; clear hE hv
      go_wp2
      go_ret
      exact ⟨by rw [HE.out]; rfl, Hb1.out⟩
    · by_cases h12 : 12 < n
      · have hE : ycheckE x ss n = 390 := by unfold ycheckE; rw [if_pos hv, if_neg (by rw [Hcl.out]; exact hc), if_pos h12]
        have HE := Lib.hid hE; clear hE hv
        go_wp2
        go_ret
        exact ⟨by rw [HE.out]; rfl, Hb1.out⟩
      · have hE : ycheckE x ss n = if (List.range n).all (sprGood x ss) = true then 0 else 390 := by unfold ycheckE; rw [if_pos hv, if_neg (by rw [Hcl.out]; exact hc), if_neg h12]
        have HE := Lib.hid hE; clear hE hv
        go_wp2_with fail
        go_loopw [25] (fun iv wr => ∃ i : Nat, i ≤ n ∧ iv = .int .i64 (i : Int) ∧ MapSp wr w1.heap.size (keysOf ss i) ∧ (List.range i).all (sprGood x ss) = true ∧ Below w1.heap.size w1 wr) (fun iv _ => n - (intOf iv).toNat)
        case atStart => exact ⟨0, by omega, rfl, ⟨#[], 0, heap_alloc_new w1 _, rfl⟩, rfl, below_al (Below.refl _ _)⟩
        case round =>
          clear c8
          obtain ⟨i, hi, rfl, hm, ho, hb⟩ := hrel
          have Hm := Lib.hid hm; have Ho := Lib.hid ho; have Hbr := Lib.hid hb
          obtain ⟨es, clock, hm1, _⟩ := hm
          have hml := lt_of_block hm1
          have hwr : Below w.heap.size w wr := below_chain Hb1.out hb
          have Hwr := Lib.hid hwr
          clear ho hb hm1 hwr
          by_cases hin : i < n
          · obtain ⟨b1, off, rfl, hlt, x0, x1, x2, x3⟩ := (Hs.out.go Hwr.out).at4 hin
            have hgood : ∀ b, sprGood x ss i = b → (b = true → (List.range (i + 1)).all (sprGood x ss) = true) ∧ (b = false → ycheckE x ss n = 390) := by
              intro b hb
              refine ⟨fun e => range_all_next Ho.out (hb.trans e), fun e => ?_⟩
              rw [HE.out, range_all_bad hin (hb.trans e)]; rfl
            have hdef : sprGood x ss i = (!memSp (ss.getD (i * 4) 0) (ss.getD (i * 4 + 1) 0) (keysOf ss i) && sprOk x (ss.getD (i * 4) 0) (ss.getD (i * 4 + 1) 0) (ss.getD (i * 4 + 2) 0) (ss.getD (i * 4 + 3) 0)) := rfl
            have hkn := keysOf_next ss i
            generalize hq0 : ss.getD (i * 4) 0 = q0 at *
            generalize hq1 : ss.getD (i * 4 + 1) 0 = q1 at *
            generalize hq2 : ss.getD (i * 4 + 2) 0 = q2 at *
            generalize hq3 : ss.getD (i * 4 + 3) 0 = q3 at *
            have Hgood := Lib.hid hgood; have Hdef := Lib.hid hdef; have Hkn := Lib.hid hkn
            clear hgood hdef hkn hq0 hq1 hq2 hq3
            obtain ⟨e1, e2⟩ := heap_two wr (.cells #[.int .i64 q0, .int .i64 q1, .int .i64 q2, .int .i64 q3] 61) (.cells #[.int .i64 q0, .int .i64 q1, .int .i64 0, .int .i64 0] 61)
            have hbt := below_two (w := wr) (.cells #[.int .i64 q0, .int .i64 q1, .int .i64 q2, .int .i64 q3] 61) (.cells #[.int .i64 q0, .int .i64 q1, .int .i64 0, .int .i64 0] 61)
            have Hbt := Lib.hid hbt; have E1 := Lib.hid e1; have E2 := Lib.hid e2; clear hbt e1 e2
            go_upto_region 13 with fail
            refine step_world (fun wx => wx.heap[wr.heap.size]? = some (.cells #[.int .i64 q0, .int .i64 q1, .int .i64 q2, .int .i64 q3] 61 (0, 0)) ∧ wx.heap[wr.heap.size + 1]? = some (.cells #[.int .i64 q0, .int .i64 q1, .int .i64 0, .int .i64 0] 61 (0, 0)) ∧ Below wr.heap.size wr wx) ⟨E1.out, E2.out, Hbt.out⟩ ?_
            clear E1 E2 Hbt x0 x1 x2 x3
            rintro w2 ⟨g1, g2, hb2⟩
            have Hm2 := Lib.hid (Hm.out.block (hb2.block _ hml))
            have hl := run_lookup_sp Hm2.out q0 q1
            have hw2 := below_chain Hwr.out hb2
            have Hw2 := Lib.hid hw2
            have Hb2 := Lib.hid hb2
            have lb := ((below_chain Hbr.out hb2).block w.heap.size hl1).trans H1.out
            have Lb := Lib.hid lb; have G1 := Lib.hid g1; have G2 := Lib.hid g2
            have hl1r := lt_of_block g1; have hl2r := lt_of_block g2; have hlb := lt_of_block lb
            obtain ⟨y0, y1, y2, y3⟩ := cells_of_four g1
            obtain ⟨z0, z1, z2, z3⟩ := cells_of_four g2
            obtain ⟨b0, b1', b2', b3', b4', b5', b6', b7', b8'⟩ := BenchB.cells (show BenchB w2 w.heap.size 48 x f v s k from lb)
            clear hb2 hw2 lb g1 g2
            cases hme : memSp q0 q1 (keysOf ss i) with
            | true =>
              rw [hme] at hl
              have Hme := Lib.hid hme; clear hme
              go_wp2
              go_ret
              refine ⟨?_, Hw2.out⟩
              rw [(Hgood.out false (by rw [Hdef.out, Hme.out]; rfl)).2 rfl]; rfl
            | false =>
              rw [hme] at hl
              have Hme := Lib.hid hme; clear hme
              cases hha : lHasB x q0 q1 with
              | false =>
                have Hha := Lib.hid hha; clear hha
                go_wp2_with (go_at_call 26; refine (lHas_any x f v s k q0 q1 _ (Hx.out.go Hw2.out) (HP.out.go Hw2.out)).mono ?_; rintro e w3 ⟨he, hb3⟩; rw [Hha.out] at he; subst he; have Hb3 := Lib.hid hb3; clear hb3)
                go_ret
                refine ⟨?_, below_chain Hw2.out Hb3.out⟩
                rw [(Hgood.out false (by rw [Hdef.out, Hme.out]; unfold sprOk; rw [Hha.out]; rfl)).2 rfl]; rfl
              | true =>
                have Hha := Lib.hid hha; clear hha
                go_wp2_with fail
                refine (lHas_any x f v s k q0 q1 _ (Hx.out.go Hw2.out) (HP.out.go Hw2.out)).mono ?_
                rintro e w3 ⟨he, hb3⟩
                rw [Hha.out] at he; subst he
                clear y0 y1 y2 y3 z0 z1 z2 z3 b0 b1' b2' b3' b4' b5' b6' b7' b8' hl
                obtain ⟨_, _, y2, y3⟩ := cells_of_four ((hb3.block _ hl1r).trans G1.out)
                obtain ⟨z0, z1, z2, z3⟩ := cells_of_four ((hb3.block _ hl2r).trans G2.out)
                have Hm3 := Lib.hid (Hm2.out.block (hb3.block _ (Nat.lt_of_lt_of_le hml Hb2.out.size)))
                have Hb3 := Lib.hid hb3; clear hb3
                go_wp2_with (refine wpList_update_sp rfl (.tmp 63) (.tmp 64) _ rfl Hm3.out q0 q1 Hme.out rfl rfl rfl ?_; intro w4 hm4 hg4; have Hm4 := Lib.hid hm4; have hb14 := below_chain Hbr.out (below_chain Hb2.out Hb3.out); have Hb4 := Lib.hid (hb14.grown hg4 hb14.size (fun q hq => (by cases hq; exact Nat.le_refl _))); clear hm4 hg4 hb14)
                all_goals first
                  | (go_ret
                     refine ⟨?_, below_chain Hw2.out Hb3.out⟩
                     rw [(Hgood.out false (by rw [Hdef.out, Hme.out]; unfold sprOk; rw [Hha.out]; simp; omega)).2 rfl]; rfl)
                  | (go_roundw
                     case rel => exact ⟨i + 1, by omega, by go_num, by rw [Hkn.out]; exact Hm4.out, (Hgood.out true (by rw [Hdef.out, Hme.out]; unfold sprOk; rw [Hha.out]; simp; omega)).1 rfl, Hb4.out⟩
                     case measure => simp [intOf]; omega)
          · obtain rfl : i = n := by omega
            go_wp2
            go_ret
            exact ⟨by rw [HE.out, if_pos Ho.out]; rfl, Hwr.out⟩

end Go.Proofs.YthommhfppeonpaaGreatDoor

namespace Go.Proofs.YthommhfppeonpaaGreatDoor
open Go.RowKit

section
variable {S : Nat → Prop} {P : Program} {ops : Array Oper} {Q : Exit → Act → World → Prop} {md : Region.Mode}

/-- Whatever order is picked from here on; behind each operation before number n what was there is as it was. -/
def wpRK (S : Nat → Prop) (P : Program) (md : Region.Mode) (ops : Array Oper) (Q : Exit → Act → World → Prop) (n : Nat) : Nat → Array Bool → Act → World → Prop
  | 0, listed, a, w => Region.ready md ops listed = [] ∧ Q .normal a w
  | fuel + 1, listed, a, w =>
    (Region.ready md ops listed = [] → Q .normal a w) ∧
    ∀ i ∈ Region.ready md ops listed, wpOp P ops Q i (fun a' w' => (i < n → KeptOn S w w') ∧ wpRK S P md ops Q n fuel (listed.setIfInBounds i true) a' w') a w

theorem wpAny_of_RK {n : Nat} : ∀ (fuel : Nat) (listed : Array Bool) (a : Act) (w : World), wpRK S P md ops Q n fuel listed a w → wpAny P md ops Q fuel listed a w
  | 0, _, _, _, h => h
  | fuel + 1, _, _, _, h => ⟨h.1, fun i hi => wpOp_mono (fun a' w' h' => wpAny_of_RK fuel _ a' w' h'.2) (h.2 i hi)⟩

theorem YieldsIf.stayK {o : Oper} {v : Value} {a : Act} {w w' : World} (h : YieldsIf P ops (fun x => KeptOn S w x) o v a) (hb : KeptOn S w w') :
    YieldsIf P ops (fun x => KeptOn S w' x) o v a :=
  h.imp (fun ⟨h1, h2⟩ => ⟨h1, fun x hx => h2 x (hb.trans hx)⟩) id

theorem wpR_firstK2 {n i : Nat} {oi : Oper} {v : Value} (hi : ops[i]? = some oi) (hsel : ∀ (j : Nat) (o : Oper) cs b, ops[j]? = some o → o.op ≠ .select cs b)
    (hs : Region.sinkB md ops n = true) (hc : Region.chainB md ops n = true) (hn : n < ops.size) (hin : i < n)
    (hQ : ∀ c a w, Q (.panic c) (a.put oi.dst v) w → Q (.panic c) a w) :
    ∀ (fuel : Nat) (listed : Array Bool) (a : Act) (w : World), HeadInv md ops n listed →
      (∀ j oj, ops[j]? = some oj → j ≠ i → listed.getD j true = false → (∀ e ∈ oj.after, Region.binds md e = true → e.on ≠ i) → oi.apart ops oj = true) →
      i ∈ Region.ready md ops listed → YieldsIf P ops (fun x => KeptOn S w x) oi v a →
      wpRK S P md ops Q n fuel (listed.setIfInBounds i true) (a.put oi.dst v) w → wpRK S P md ops Q n (fuel + 1) listed a w := by
  intro fuel
  induction fuel with
  | zero =>
    intro listed a w _ _ hr hy H
    refine ⟨fun h => (by rw [h] at hr; cases hr), fun j hj => ?_⟩
    by_cases hji : j = i
    · subst hji; exact hy.wpOp hi (KeptOn.refl _ _) ⟨fun _ => KeptOn.refl _ _, H⟩
    · have := ready_mono hj hji
      rw [H.1] at this
      cases this
  | succ fuel ih =>
    intro listed a w inv hfree hr hy H
    have hun := (mem_ready.1 hr).1
    refine ⟨fun h => (by rw [h] at hr; cases hr), fun j hj => ?_⟩
    have hjn : j < n := by
      rcases Nat.lt_or_ge j n with h | h
      · exact h
      · exact absurd hj (tail_waits hs hc hn inv _ i rfl hin hun j h)
    by_cases hji : j = i
    · subst hji; exact hy.wpOp hi (KeptOn.refl _ _) ⟨fun _ => KeptOn.refl _ _, H⟩
    · have h1 := H.2 j (ready_mono hj hji)
      obtain ⟨hjun, oj, hoj, hall⟩ := mem_ready.1 hj
      have hnot : ∀ e ∈ oj.after, Region.binds md e = true → e.on ≠ i := fun e he hb heq => by
        have h1 := hall e he hb
        rw [heq, getD_both hun] at h1
        cases h1
      have h2 := wpOp_putIf hoj (hfree j oj hoj hji hjun hnot) (fun cs b => hsel i oi cs b hi) (fun cs b => hsel j oj cs b hoj) hQ hy h1
      have hfree' : ∀ k ok, ops[k]? = some ok → k ≠ i → (listed.setIfInBounds j true).getD k true = false →
          (∀ e ∈ ok.after, Region.binds md e = true → e.on ≠ i) → oi.apart ops ok = true := fun k ok hk hki hun hno => by
        refine hfree k ok hk hki ?_ hno
        by_cases hjk : j = k
        · subst hjk; exact hjun
        · rw [getD_set_ne true hjk] at hun; exact hun
      refine wpOp_mono (fun a' w' h3 => ⟨h3.2.1, ih (listed.setIfInBounds j true) a' w' (inv.set hj hjn) hfree' (ready_mono hr (Ne.symm hji)) (YieldsIf.stayK h3.1 (h3.2.1 hjn)) ?_⟩) h2
      rw [Array.setIfInBounds_comm _ _ hji]
      exact h3.2.2

/-- the walk in the chosen order -/
def wpOrdK (S : Nat → Prop) (P : Program) (ops : Array Oper) (Q : Exit → Act → World → Prop) (n : Nat) : List (Nat × Bool) → Act → World → Prop
  | [], a, w => wpList P ops Q (ops.toList.drop n) a w
  | (i, true) :: rest, a, w => ∃ o v, ops[i]? = some o ∧ YieldsIf P ops (fun x => KeptOn S w x) o v a ∧ (∀ c a w, Q (.panic c) (a.put o.dst v) w → Q (.panic c) a w) ∧ wpOrdK S P ops Q n rest (a.put o.dst v) w
  | (i, false) :: rest, a, w => wpOp P ops Q i (fun a' w' => KeptOn S w w' ∧ wpOrdK S P ops Q n rest a' w') a w

theorem wpR_of_seqK {n : Nat} {Q' : Exit → Act → World → Prop} : ∀ (l : List Oper) (k : Nat) (listed : Array Bool) (a : Act) (w : World), n ≤ k → (∀ j, l[j]? = ops[k + j]?) →
    Region.seqB md ops l.length k listed = true → wpList P ops Q' l a w → wpRK S P md ops Q' n l.length listed a w
  | [], _, _, _, _, _, _, hB, h => ⟨by simpa [Region.seqB] using hB, h⟩
  | o :: l, k, listed, a, w, hk, hl, hB, h => by
    have h0 : ops[k]? = some o := by simpa using (hl 0).symm
    simp only [List.length_cons, Region.seqB, Bool.and_eq_true, decide_eq_true_eq] at hB
    refine ⟨fun h1 => (by rw [hB.1] at h1; cases h1), fun i hi => ?_⟩
    rw [hB.1] at hi
    have hik : i = k := by simpa using hi
    subst hik
    have hw : wpOp P ops Q' i (wpList P ops Q' l) a w := by unfold wpOp; simp only [h0]; exact h
    exact wpOp_mono (fun a' w' h' => ⟨fun hlt => absurd hlt (by omega), wpR_of_seqK l (i + 1) _ a' w' (by omega) (fun j => by have := hl (j + 1); simpa [Nat.add_assoc, Nat.add_comm 1 j] using this) hB.2 h'⟩) hw

theorem wpR_of_ordK {n : Nat} (hsel : Region.noSelect ops = true) (hs : Region.sinkB md ops n = true) (hc : Region.chainB md ops n = true) (hn : n < ops.size) :
    ∀ (ord : List (Nat × Bool)) (listed : Array Bool) (a : Act) (w : World), HeadInv md ops n listed → ordB md ops n ord listed = true → wpOrdK S P ops Q n ord a w →
      wpRK S P md ops Q n (ord.length + (ops.size - n)) listed a w
  | [], listed, a, w, _, hB, h => by
    have := wpR_of_seqK (S := S) (md := md) (n := n) (Q' := Q) (ops.toList.drop n) n listed a w (Nat.le_refl _) (fun j => by simp [List.getElem?_drop]) (by simpa [ordB] using hB) h
    simpa using this
  | (i, true) :: rest, listed, a, w, inv, hB, h => by
    obtain ⟨o, v, ho, hy, hQ, h⟩ := h
    simp only [ordB, if_true, Bool.and_eq_true, decide_eq_true_eq] at hB
    obtain ⟨⟨⟨h1, h2⟩, h3⟩, h4⟩ := hB
    have hr : i ∈ Region.ready md ops listed := by simpa using h1
    have := wpR_firstK2 ho (Region.noSelect_spec hsel) hs hc hn h3 hQ _ listed a w inv (Region.free_spec ho h2) hr hy (wpR_of_ordK hsel hs hc hn rest _ _ w (inv.set hr h3) h4 h)
    rw [List.length_cons, show rest.length + 1 + (ops.size - n) = rest.length + (ops.size - n) + 1 by omega]
    exact this
  | (i, false) :: rest, listed, a, w, inv, hB, h => by
    simp only [ordB, Bool.false_eq_true, if_false, Bool.and_eq_true, decide_eq_true_eq] at hB
    obtain ⟨⟨h1, h3⟩, h4⟩ := hB
    have hr : i ∈ Region.ready md ops listed := by rw [h1]; simp
    rw [List.length_cons, show rest.length + 1 + (ops.size - n) = rest.length + (ops.size - n) + 1 by omega]
    refine ⟨fun h0 => (by rw [h0] at h1; cases h1), fun j hj => ?_⟩
    rw [h1] at hj
    obtain rfl : j = i := by simpa using hj
    exact wpOp_mono (fun a' w' h' => ⟨fun _ => h'.1, wpR_of_ordK hsel hs hc hn rest _ a' w' (inv.set hr h3) h4 h'.2⟩) h

/-- THE BEGINNING -/
theorem wp_region_eagerK {id : Nat} {a : Act} {w : World} (n : Nat) (ord : List (Nat × Bool)) (hm : P.follows .mixedOrders = true) (hB : eagerB .any ops n ord = true)
    (h : wpOrdK S P ops Q n ord a w.drew) : (Code.region id ops true).wp P Q a w := by
  simp only [eagerB, Bool.and_eq_true, decide_eq_true_eq] at hB
  obtain ⟨⟨⟨⟨⟨hsel, hn⟩, hl⟩, hs⟩, hc⟩, ho⟩ := hB
  have inv0 : HeadInv .any ops n (Array.replicate ops.size false) :=
    ⟨by simp, fun j oj _ hl => (by rw [getD_replicate_false] at hl; cases hl), fun t _ ht => getD_in (by simpa using ht) (getD_replicate_false _ _)⟩
  have := wpR_of_ordK (P := P) (Q := Q) hsel hs hc hn ord _ a w.drew inv0 ho h
  rw [hl, show n + (ops.size - n) = ops.size by omega] at this
  exact wp_region_any hm (wpAny_of_RK _ _ _ _ this)

/-- an operation that merely yields -/
theorem wpOrd_yieldK {n i : Nat} {rest : List (Nat × Bool)} {o : Oper} {v : Value} {a : Act} {w : World} (hi : ops.toList[i]? = some o) (hQ : ∀ c a w, Q (.panic c) (a.put o.dst v) w → Q (.panic c) a w)
    (hw : Region.wanted o (yielded ops a.tmps) = true) (hy : ∀ x, KeptOn S w x → (execOp a.eval o).run P x = .ok (.value v) x)
    (h : wpOrdK S P ops Q n rest (a.put o.dst v) w) : wpOrdK S P ops Q n ((i, true) :: rest) a w :=
  ⟨o, v, by rw [← Array.getElem?_toList]; exact hi, Or.inl ⟨hw, hy⟩, hQ, h⟩

/-- an operation whose guard is false -/
theorem wpOrd_skipK {n i : Nat} {rest : List (Nat × Bool)} {o : Oper} {a : Act} {w : World} (hi : ops.toList[i]? = some o) (hQ : ∀ c a w, Q (.panic c) (a.put o.dst undef) w → Q (.panic c) a w)
    (hw : Region.wanted o (yielded ops a.tmps) = false)
    (h : wpOrdK S P ops Q n rest (a.put o.dst undef) w) : wpOrdK S P ops Q n ((i, true) :: rest) a w :=
  ⟨o, undef, by rw [← Array.getElem?_toList]; exact hi, Or.inr ⟨hw, rfl⟩, hQ, h⟩

/-- an operation that comes up alone: a call, a new variable -/
theorem wpOrd_stepK {n i : Nat} {rest : List (Nat × Bool)} {o : Oper} {a : Act} {w : World} (hi : ops.toList[i]? = some o) (hg : o.guard = none)
    (h : ∀ K : Act → World → Prop, (∀ a' w', KeptOn S w w' → wpOrdK S P ops Q n rest a' w' → K a' w') → o.wp P a w K Q) : wpOrdK S P ops Q n ((i, false) :: rest) a w := by
  have hw : Region.wanted o (yielded ops a.tmps) = true := by simp [Region.wanted, hg]
  rw [Array.getElem?_toList] at hi
  show wpOp P ops Q i _ a w
  unfold wpOp
  simp only [hi, hw, if_true]
  exact .inl (h _ fun a' w' h1 h2 => ⟨h1, h2⟩)

theorem wpOrd_nilK {n : Nat} {a : Act} {w : World} {l : List Oper} (hl : ops.toList.drop n = l) (h : wpList P ops Q l a w) : wpOrdK S P ops Q n [] a w := by
  subst hl; exact h

end
end Go.Proofs.YthommhfppeonpaaGreatDoor

namespace Go.Proofs.YthommhfppeonpaaGreatDoor
open Go.RowKit

theorem nextS_range (s : Int) : 0 ≤ nextS s ∧ nextS s < 18446744073709551616 := by
  unfold nextS
  generalize IntKind.u64.wrap (6364136223846793005 * s) + 1442695040888963407 = z
  have : IntKind.u64.wrap z = z % 18446744073709551616 := by simp [IntKind.wrap, IntKind.bits, IntKind.signed]
  rw [this]
  omega
theorem pickS_range (s n : Int) (hn : 1 ≤ n) : 0 ≤ pickS (nextS s) n ∧ pickS (nextS s) n < n := by
  obtain ⟨h1, h2⟩ := nextS_range s
  unfold pickS
  have hq : 0 ≤ nextS s / 8589934592 ∧ nextS s / 8589934592 < 2147483648 := by omega
  generalize nextS s / 8589934592 = q at *
  have hw : wrap64 q = q := by unfold wrap64; omega
  rw [hw, Int.tmod_eq_emod_of_nonneg hq.1]
  exact ⟨Int.emod_nonneg _ (by omega), Int.emod_lt_of_pos _ (by omega)⟩

def stN (st : Int) : Nat → Int
  | 0 => st
  | k + 1 => nextS (stN st k)
def offAt (ss : List Int) (st : Int) (i : Nat) : Int := ss.getD (i * 4 + 2) 0 + pickS (stN st (i + 1)) (ss.getD (i * 4 + 3) 0 - ss.getD (i * 4 + 2) 0 + 1)
def offs (ss : List Int) (st : Int) (i : Nat) : List Int := (List.range 12).map fun j => if j < i then offAt ss st j else 0

theorem offs_next (ss : List Int) (st : Int) {i : Nat} (_hi : i < 12) : (offs ss st i).set i (offAt ss st i) = offs ss st (i + 1) := by
  apply List.ext_getElem
  · simp [offs]
  · intro j h1 h2
    simp only [offs, List.getElem_set, List.getElem_map, List.getElem_range]
    by_cases e : i = j
    · subst e; rw [if_pos rfl, if_pos (by omega)]
    · rw [if_neg e]
      by_cases e2 : j < i
      · rw [if_pos e2, if_pos (by omega)]
      · rw [if_neg e2, if_neg (by omega)]
theorem offs_get (ss : List Int) (st : Int) {i n : Nat} (hn : n ≤ 12) (hi : i < n) : (offs ss st n).getD i 0 = offAt ss st i := by
  simp only [List.getD_eq_getElem?_getD, offs, List.getElem?_map, List.getElem?_range (show i < 12 by omega), Option.map_some, Option.getD_some, if_pos hi]
theorem length_offs (ss : List Int) (st : Int) (i : Nat) : (offs ss st i).length = 12 := by simp [offs]

/-- spreads as they may be -/
def SprIn (ss : List Int) (n : Nat) : Prop := ∀ i, i < n → -1000000 ≤ ss.getD (i * 4 + 2) 0 ∧ ss.getD (i * 4 + 3) 0 ≤ 1000000 ∧ ss.getD (i * 4 + 2) 0 ≤ ss.getD (i * 4 + 3) 0

/-- the lens behind the first k spreads, or an error -/
def smpN (x : LensD) (ss : List Int) (st : Int) : Nat → Except Int LensD
  | 0 => .ok x
  | k + 1 => match smpN x ss st k with
    | .ok y => if lsetE y (ss.getD (k * 4) 0) (ss.getD (k * 4 + 1) 0) (IntKind.i64.wrap (getAt x.l (ss.getD (k * 4) 0) (ss.getD (k * 4 + 1) 0) + offAt ss st k)) = 0 then .ok (lsetX y (ss.getD (k * 4) 0) (ss.getD (k * 4 + 1) 0) (IntKind.i64.wrap (getAt x.l (ss.getD (k * 4) 0) (ss.getD (k * 4 + 1) 0) + offAt ss st k)))
      else .error (lsetE y (ss.getD (k * 4) 0) (ss.getD (k * 4 + 1) 0) (IntKind.i64.wrap (getAt x.l (ss.getD (k * 4) 0) (ss.getD (k * 4 + 1) 0) + offAt ss st k)))
    | .error e => .error e

/-- what sample gives back; the generator's state lies in block pd -/
def RetSmp (D : Nat → Prop) (w : World) (pd : Nat) (x : LensD) (ss : List Int) (st : Int) (n : Nat) (e : Ending) (w' : World) : Prop :=
  Below pd w w' ∧ w'.heap[pd]? = some (.cells #[.int .u64 (stN st n)] 71 (0, 0)) ∧
  ((∃ y f v s k, smpN x ss st n = .ok y ∧ e = .returned (.tuple #[lensV y f v s k, .int .i64 0]) ∧ LensAt (fun b => (D b ∨ w.heap.size + 3 ≤ b) ∧ b < w'.heap.size) w' y f v s k) ∨
   (∃ er, smpN x ss st n = .error er ∧ er ≠ 0 ∧ e = .returned (.tuple #[lensV lens0 ptr0 ptr0 ptr0 ptr0, .int .i64 er])))

theorem smpN_err {x : LensD} {ss : List Int} {st : Int} {k n : Nat} {er : Int} (h : smpN x ss st k = .error er) (hk : k ≤ n) : smpN x ss st n = .error er := by
  induction n with
  | zero => obtain rfl : k = 0 := by omega
            exact h
  | succ n ih =>
    by_cases e : k = n + 1
    · subst e; exact h
    · rw [smpN, ih (by omega)]

theorem lens9_load {P : Program} {op : Oper} {ac : Act} {y : World} {b : Nat} {T : TypeId} {x : LensD} {f v s k : Ptr} {d : TypeDesc} (h : BenchB y b T x f v s k) (hu : P.underlying 48 = some d) (hd : d.isRow = true) (hi : (P.info? 48).map (·.size) = some 9) (z : Operand) (ho : op.op = .load 48 z)
    (hx : ac.eval z = .pointer (some ⟨b, 0, none⟩)) : (execOp ac.eval op).run P y = .ok (.value (.agg #[.string x.nm, .int .i64 x.dist, .int .i64 x.pupil, .int .i64 x.stop, .int .i64 x.prim, .slice f.a f.n f.c, .slice v.a v.n v.c, .slice s.a s.n s.c, .slice k.a k.n k.c])) y := by
  unfold execOp
  simp only [ho, hx, Instr.loadAt, Instr.sureAddr, Sem.run_bind, Sem.run_pure, Result.andThen_ok, run_loadVar_mid y b 0 48 (cells9 x f v s k) d h.range hu hd hi]
  rfl
theorem wpG_load_lens {ops : Array Oper} {Q : Exit → Act → World → Prop} {N i : Nat} {pu : List Nat} {fs : List (Nat × Tmp × Obj)} {C : Nat → Prop} {rest : List (Nat × Bool)} {op : Oper} {ac : Act} {w : World} (hi : ops.toList[i]? = some op) (hpu : pu.contains i = false)
    (hw : Region.wanted op (yielded ops ac.tmps) = true) {b : Nat} {T : TypeId} {x : LensD} {f v s k : Ptr} (h : ∀ y, Below w.heap.size w y → BenchB y b T x f v s k) (z : Operand) (ho : op.op = .load 48 z)
    (hx : ac.eval z = .pointer (some ⟨b, 0, none⟩)) (hk : wpG Tryz.prog ops Q N pu fs C rest (ac.put op.dst (.agg #[.string x.nm, .int .i64 x.dist, .int .i64 x.pupil, .int .i64 x.stop, .int .i64 x.prim, .slice f.a f.n f.c, .slice v.a v.n v.c, .slice s.a s.n s.c, .slice k.a k.n k.c])) w) : wpG Tryz.prog ops Q N pu fs C ((i, true) :: rest) ac w :=
  wpG_yield hi hpu hw (fun y hy => lens9_load (h y hy) Tryz.underlying48 rfl Tryz.infoLens z ho hx) hk

theorem below_dr' {B : Nat} {w A : World} (h : Below B w A) : Below B w A.drew := ⟨h.os, h.tape, h.output, h.size, h.block⟩
theorem heap_drew (w : World) : w.drew.heap = w.heap := rfl

set_option maxRecDepth 100000 in
set_option maxHeartbeats 3200000 in
theorem ysample_any (D : Nat → Prop) (x : LensD) (f v s k : Ptr) (ss : List Int) (sa : Option Addr) (n sc pd : Nat) (st : Int) (w : World) (hpd : w.heap.size = pd + 1) (hD : ∀ b, D b → b < pd) (hx : LensAt D w x f v s k) (hP : Places pd w) (hs : IR pd w 4 sa n sc ss) (hn : n ≤ 12)
    (hin : SprIn ss n) (hhas : ∀ i, i < n → lHasB x (ss.getD (i * 4) 0) (ss.getD (i * 4 + 1) 0) = true) (hd : w.heap[pd]? = some (.cells #[.int .u64 st] 71 (0, 0))) :
    Calls Tryz.prog 28 #[lensV x f v s k, .slice sa n sc, .pointer (some ⟨pd, 0, none⟩)] w (RetSmp D w pd x ss st n) := by
  have Hx := Lib.hid hx; have HP := Lib.hid hP; have Hs := Lib.hid hs; have Hin := Lib.hid hin; have Hhas := Lib.hid hhas; have Hd := Lib.hid hd; have Hpd := Lib.hid hpd
  have hDn : ∀ b, (D b ∨ w.heap.size + 3 ≤ b) → b ≠ w.heap.size + 1 ∧ b ≠ pd := fun b h => by
    rcases h with h | h
    · have := hD b h; omega
    · omega
  have HDn := Lib.hid hDn; have HD := Lib.hid hD; clear hDn hD
  clear hx hP hs hin hhas hd
  obtain ⟨e1, e2, e3⟩ := heap3 w (.cells (cells9 x f v s k).toArray 48) (.cells #[.string emptyS, .int .i64 0, .int .i64 0, .int .i64 0, .int .i64 0, .slice none 0 0, .slice none 0 0, .slice none 0 0, .slice none 0 0] 48) (.cells #[.int .i64 0, .int .i64 0, .int .i64 0, .int .i64 0, .int .i64 0, .int .i64 0, .int .i64 0, .int .i64 0, .int .i64 0, .int .i64 0, .int .i64 0, .int .i64 0] 133)
  have hb := belowT w (.cells (cells9 x f v s k).toArray 48) (.cells #[.string emptyS, .int .i64 0, .int .i64 0, .int .i64 0, .int .i64 0, .slice none 0 0, .slice none 0 0, .slice none 0 0, .slice none 0 0] 48) (.cells #[.int .i64 0, .int .i64 0, .int .i64 0, .int .i64 0, .int .i64 0, .int .i64 0, .int .i64 0, .int .i64 0, .int .i64 0, .int .i64 0, .int .i64 0, .int .i64 0] 133)
  have E1 := Lib.hid e1; have E2 := Lib.hid e2; have E3 := Lib.hid e3; have Hb := Lib.hid hb
  clear e1 e2 e3 hb hpd
  unfold lensV
  go_enter Tryz.func28, Tryz.ntmps28
  go_upto_region 3 with fail
  refine step_world (fun wx => wx.heap[w.heap.size]? = some (.cells (cells9 x f v s k).toArray 48 (0, 0)) ∧ wx.heap[w.heap.size + 1]? = some (.cells #[.string emptyS, .int .i64 0, .int .i64 0, .int .i64 0, .int .i64 0, .slice none 0 0, .slice none 0 0, .slice none 0 0, .slice none 0 0] 48 (0, 0)) ∧ wx.heap[w.heap.size + 2]? = some (.cells ((offs ss st 0).map (Value.int .i64)).toArray 133 (0, 0)) ∧ wx.heap[pd]? = some (.cells #[.int .u64 st] 71 (0, 0)) ∧ Below pd w wx) ⟨E1.out, E2.out, E3.out, (Hb.out.block pd (by rw [Hpd.out]; omega)).trans Hd.out, Hb.out.mono (by rw [Hpd.out]; omega)⟩ ?_
  clear E1 E2 E3 Hb
  rintro w1 ⟨h1, h2, h3, h4, hb⟩
  have H1 := Lib.hid h1; have H2 := Lib.hid h2; have H3 := Lib.hid h3; have H4 := Lib.hid h4; have Hb := Lib.hid hb
  have hl3 := lt_of_block h3
  clear h1 h2 h3 h4 hb
  go_wp2_with fail
  go_loopw [20] (fun iv wr => ∃ i : Nat, i ≤ n ∧ iv = .int .i64 (i : Int) ∧ wr.heap[w.heap.size]? = some (.cells (cells9 x f v s k).toArray 48 (0, 0)) ∧ wr.heap[w.heap.size + 1]? = some (.cells #[.string emptyS, .int .i64 0, .int .i64 0, .int .i64 0, .int .i64 0, .slice none 0 0, .slice none 0 0, .slice none 0 0, .slice none 0 0] 48 (0, 0)) ∧ wr.heap[w.heap.size + 2]? = some (.cells ((offs ss st i).map (Value.int .i64)).toArray 133 (0, 0)) ∧ wr.heap[pd]? = some (.cells #[.int .u64 (stN st i)] 71 (0, 0)) ∧ Below pd w wr) (fun iv _ => n - (intOf iv).toNat)
  case atStart => exact ⟨0, by omega, rfl, H1.out, H2.out, H3.out, H4.out, Hb.out⟩
  case round =>
    clear H1 H2 H3 H4 Hb
    obtain ⟨i, hi, rfl, h1, h2, h3, h4, hb⟩ := hrel
    have H1 := Lib.hid h1; have H2 := Lib.hid h2; have H3 := Lib.hid h3; have H4 := Lib.hid h4; have Hb := Lib.hid hb
    have hlr := lt_of_block h3
    clear h1 h2 h3 h4 hb
    by_cases hin' : i < n
    · have hpd2 : pd < wr.heap.size := lt_of_block H4.out
      have hpw : pd < w.heap.size := by rw [Hpd.out]; omega
      obtain ⟨b1, off, rfl, hlt, x0, x1, x2, x3⟩ := ((Hs.out.below Hb.out (Nat.le_refl _)).mono (Nat.le_of_lt hpd2)).at4 hin'
      have hoff : offAt ss st i = ss.getD (i * 4 + 2) 0 + pickS (nextS (stN st i)) (ss.getD (i * 4 + 3) 0 - ss.getD (i * 4 + 2) 0 + 1) := rfl
      have hb3 := Hin.out i hin'
      generalize hq0 : ss.getD (i * 4) 0 = q0 at *
      generalize hq1 : ss.getD (i * 4 + 1) 0 = q1 at *
      generalize hq2 : ss.getD (i * 4 + 2) 0 = q2 at *
      generalize hq3 : ss.getD (i * 4 + 3) 0 = q3 at *
      clear hq0 hq1 hq2 hq3
      have hpr := pickS_range (stN st i) (q3 - q2 + 1) (by omega)
      have hw1 : IntKind.i64.wrap (q3 - q2) = q3 - q2 := IntWalk.i64_in _ (by omega)
      have hw2 : IntKind.i64.wrap (q3 - q2 + 1) = q3 - q2 + 1 := IntWalk.i64_in _ (by omega)
      have hw3 : IntKind.i64.wrap (q2 + pickS (nextS (stN st i)) (q3 - q2 + 1)) = q2 + pickS (nextS (stN st i)) (q3 - q2 + 1) := IntWalk.i64_in _ (by omega)
      have hr1 : 1 ≤ q3 - q2 + 1 := by omega
      have hr2 : q3 - q2 + 1 ≤ 2147483648 := by omega
      have hi12 : i < 12 := by omega
      have Hoff := Lib.hid hoff
      clear hpr hb3 hoff
      have hnb := heap_alloc_new wr (.cells #[.int .i64 q0, .int .i64 q1, .int .i64 q2, .int .i64 q3] 61)
      have Hnb := Lib.hid hnb; clear hnb
      go_upto_region 6 with fail
      refine step_world (fun wx => wx.heap[wr.heap.size]? = some (.cells #[.int .i64 q0, .int .i64 q1, .int .i64 q2, .int .i64 q3] 61 (0, 0)) ∧ Below wr.heap.size wr wx) ⟨Hnb.out, below_al (Below.refl _ _)⟩ ?_
      clear Hnb x0 x1 x2 x3
      rintro w2 ⟨hnb, hb2⟩
      obtain ⟨_, _, y2, y3⟩ := cells_of_four hnb
      have g4 := (hb2.block _ hpd2).trans H4.out
      have g3 := (hb2.block _ hlr).trans H3.out
      have Hb2 := Lib.hid hb2; have G3 := Lib.hid g3; have G4 := Lib.hid g4; have Hnb := Lib.hid hnb
      clear hb2 g3 g4 hnb
      refine wp_region_eagerK (S := fun b => b = wr.heap.size) 12 [(0, true), (1, true), (2, true), (3, true), (4, true), (5, true), (6, true), (7, true), (8, true), (9, true), (10, false), (11, true)] (by kernel_rfl) (by kernel_rfl) ?_
      iterate 10
        refine wpOrd_yieldK (v := ?_) rfl (fun _ _ _ h => h) (by rfl) ?_ ?_
        rotate_left
        · intro z hz
          have z2 := (hz.cell (p := ⟨wr.heap.size, 2, none⟩) rfl).trans y2
          have z3 := (hz.cell (p := ⟨wr.heap.size, 3, none⟩) rfl).trans y3
          go_simp
          with_reducible rfl
        try simp only [Act.put, List.setIfInBounds_toArray, List.set_cons_zero, List.set_cons_succ]
      refine wpOrd_stepK rfl rfl (fun K hK => ?_)
      go_simp
      refine (roll_any pd (stN st i) (q3 - q2 + 1) w2.drew G4.out hr1 hr2).mono ?_
      rintro e w3 ⟨rfl, e3⟩
      refine hK _ _ (by rw [← e3]; exact (keptOn_setCells pd [_] 0 w2.drew).mono (fun b hb => by subst hb; omega)) ?_
      clear hK K
      refine wpOrd_yieldK (v := ?_) rfl (fun _ _ _ h => h) (by rfl) ?_ ?_
      rotate_left
      · intro z hz
        go_simp
        with_reducible rfl
      try simp only [Act.put, List.setIfInBounds_toArray, List.set_cons_zero, List.set_cons_succ]
      refine wpOrd_nilK (l := [_, _]) rfl ?_
      have hne : w.heap.size + 2 ≠ pd := by omega
      have g3 : w3.heap[w.heap.size + 2]? = some (.cells ((offs ss st i).map (Value.int .i64)).toArray 133 (0, 0)) := by rw [← e3]; exact obj_other G3.out ⟨pd, 0, none⟩ (fun h => hne h.symm) _
      have g4 : w3.heap[pd]? = some (.cells #[.int .u64 (stN st (i + 1))] 71 (0, 0)) := by rw [← e3]; exact obj_setCell G4.out 0 _
      have hb3 : Below pd w w3 := by rw [← e3]; exact (below_dr' (Hb.out.trans (Hb2.out.mono (by omega)))).setCell (p := ⟨pd, 0, none⟩) (Nat.le_refl _) _
      have hk3 : ∀ b, b < wr.heap.size → b ≠ pd → w3.heap[b]? = wr.heap[b]? := fun b hb hne => by
        rw [← e3]
        exact (Below.heap_setCell _ _ _ _ (fun e => hne e)).trans (Hb2.out.block b hb)
      have c3 : w3.cell? ⟨w.heap.size + 2, i, none⟩ = some (.int .i64 ((offs ss st i).getD i 0)) := by
        have hl := length_offs ss st i
        rw [obj_cell g3 i]
        simp [List.getD_eq_getElem?_getD, hl, hi12]
      have f3 : w3.frozen? ⟨w.heap.size + 2, i, none⟩ = false := by simp [World.frozen?, g3]
      have h8 : w.heap.size < wr.heap.size := by omega
      have G3' := Lib.hid g3; have G4' := Lib.hid g4; have Hb3 := Lib.hid hb3
      have K1 := Lib.hid ((hk3 w.heap.size (by omega) (by omega)).trans H1.out); have K2 := Lib.hid ((hk3 (w.heap.size + 1) (by omega) (by omega)).trans H2.out)
      clear g3 g4 hb3 hk3 e3 G3 G4
      go_wp2_with fail
      go_roundw
      case rel =>
        refine ⟨i + 1, by omega, by go_num, obj_other K1.out _ (by simp <;> omega) _, obj_other K2.out _ (by simp <;> omega) _, ?_, obj_other G4'.out _ (by simp; omega) _, Hb3.out.setCell (p := ⟨w.heap.size + 2, i, none⟩) (by show pd ≤ w.heap.size + 2; omega) _⟩
        have := obj_setCell G3'.out i (.int .i64 (offAt ss st i))
        rw [List.setIfInBounds_toArray, ← List.map_set, offs_next ss st hi12] at this
        rw [Hoff.out] at this
        exact this
      case measure => simp [intOf]; omega
    · obtain rfl : i = n := by omega
      have hlz := lt_of_block H2.out
      have hlt1 : pd < wr.heap.size := lt_of_block H4.out
      have hpw : pd < w.heap.size := by rw [Hpd.out]; omega
      go_upto_region 9 with (first
        | (refine wpL_load_lens (g := w.heap.size) (x := x) (f := f) (v := v) (s := s) (k := k) H1.out rfl _ rfl rfl ?_)
        | (refine wpL_store_lens x f v s k H2.out rfl rfl _ _ rfl rfl rfl ?_; intro w2 h2' e2; have He2 := Lib.hid e2; have H2' := Lib.hid h2'; clear h2' e2 H2))
      have hk2 : KeptOn (fun b => b ≠ w.heap.size + 1) wr w2 := by rw [He2.out]; exact keptOn_setCells _ _ _ _
      have hs2 : w2.heap.size = wr.heap.size := by rw [He2.out, size_setCells]
      have hb2 : Below pd w w2 := by rw [He2.out]; exact below_setCells (by omega) _ _ Hb.out
      refine step_world (fun wx => wx.heap[w.heap.size]? = some (.cells (cells9 x f v s k).toArray 48 (0, 0)) ∧ BenchB wx (w.heap.size + 1) 48 x f v s k ∧ wx.heap[w.heap.size + 2]? = some (.cells ((offs ss st i).map (Value.int .i64)).toArray 133 (0, 0)) ∧ wx.heap[pd]? = some (.cells #[.int .u64 (stN st i)] 71 (0, 0)) ∧ Below pd w wx ∧ LensAt (fun b => (D b ∨ w.heap.size + 3 ≤ b) ∧ b < wx.heap.size) wx x f v s k)
        ⟨(hk2 _ (by omega)).trans H1.out, H2'.out, (hk2 _ (by omega)).trans H3.out, (hk2 _ (by omega)).trans H4.out, hb2, Hx.out.kept ((keptOn_below hb2).mono HD.out) (fun b h => ⟨Or.inl h, by rw [hs2]; have := HD.out b h; omega⟩)⟩ ?_
      clear H1 H2' H3 H4 Hb He2 hk2 hs2 hb2 hlz hlt1 hlr
      rintro w2 ⟨h1, h2, h3, h4, hb, hx2⟩
      have H1 := Lib.hid h1; have H2 := Lib.hid h2; have H3 := Lib.hid h3; have H4 := Lib.hid h4; have Hb := Lib.hid hb; have Hx2 := Lib.hid hx2
      clear h1 h2 h3 h4 hb hx2
      go_wp2_with fail
      go_loopw [42] (fun iv wr => ∃ (j : Nat) (y : LensD) (f' v' s' k' : Ptr), j ≤ i ∧ iv = .int .i64 (j : Int) ∧ smpN x ss st j = .ok y ∧ wr.heap[w.heap.size]? = some (.cells (cells9 x f v s k).toArray 48 (0, 0)) ∧ BenchB wr (w.heap.size + 1) 48 y f' v' s' k' ∧ wr.heap[w.heap.size + 2]? = some (.cells ((offs ss st i).map (Value.int .i64)).toArray 133 (0, 0)) ∧ wr.heap[pd]? = some (.cells #[.int .u64 (stN st i)] 71 (0, 0)) ∧ Below pd w wr ∧ LensAt (fun b => (D b ∨ w.heap.size + 3 ≤ b) ∧ b < wr.heap.size) wr y f' v' s' k') (fun iv _ => i - (intOf iv).toNat)
      case atStart => exact ⟨0, x, f, v, s, k, by omega, rfl, rfl, H1.out, H2.out, H3.out, H4.out, Hb.out, Hx2.out⟩
      case round =>
        clear H1 H2 H3 H4 Hb Hx2
        obtain ⟨j, y, f', v', s', k', hj, rfl, hy, h1, h2, h3, h4, hb, hx2⟩ := hrel
        have H1 := Lib.hid h1; have H2 := Lib.hid h2; have H3 := Lib.hid h3; have H4 := Lib.hid h4; have Hb := Lib.hid hb; have Hx2 := Lib.hid hx2; have Hy := Lib.hid hy
        clear h1 h2 h3 h4 hb hx2 hy
        by_cases hji : j < i
        · have hpd2 : pd < wr.heap.size := lt_of_block H4.out
          have h3l := lt_of_block H3.out
          obtain ⟨b1, off, rfl, hlt, x0, x1, x2, x3⟩ := ((Hs.out.below Hb.out (Nat.le_refl _)).mono (Nat.le_of_lt hpd2)).at4 hji
          have hnx : ∀ va, va = IntKind.i64.wrap (getAt x.l (ss.getD (j * 4) 0) (ss.getD (j * 4 + 1) 0) + offAt ss st j) → smpN x ss st (j + 1) = (if lsetE y (ss.getD (j * 4) 0) (ss.getD (j * 4 + 1) 0) va = 0 then .ok (lsetX y (ss.getD (j * 4) 0) (ss.getD (j * 4 + 1) 0) va) else .error (lsetE y (ss.getD (j * 4) 0) (ss.getD (j * 4 + 1) 0) va)) := fun va e => by
            subst e; rw [smpN, Hy.out]
          have hh := Hhas.out j hji
          have hj12 : j < 12 := by omega
          have hoc : wr.cell? ⟨w.heap.size + 2, j, none⟩ = some (.int .i64 (offAt ss st j)) := by
            rw [obj_cell H3.out j]
            have := offs_get ss st hn hji
            have hl := length_offs ss st i
            simp [List.getD_eq_getElem?_getD, hl, hj12] at this ⊢
            exact this
          generalize hq0 : ss.getD (j * 4) 0 = q0 at *
          generalize hq1 : ss.getD (j * 4 + 1) 0 = q1 at *
          generalize hq2 : ss.getD (j * 4 + 2) 0 = q2 at *
          generalize hq3 : ss.getD (j * 4 + 3) 0 = q3 at *
          generalize offAt ss st j = oj at *
          clear hq0 hq1 hq2 hq3
          have hE : lgetE x q0 q1 = 0 := by
            unfold lHasB at hh
            simp only [Bool.and_eq_true] at hh
            unfold lgetE; rw [if_pos hh.1, if_pos hh.2]
          have HE := Lib.hid hE; have Hnx := Lib.hid hnx; have Hoc := Lib.hid hoc
          clear hE hnx hoc hh
          have hnb := heap_alloc_new wr (.cells #[.int .i64 q0, .int .i64 q1, .int .i64 q2, .int .i64 q3] 61)
          have Hnb := Lib.hid hnb; clear hnb
          go_upto_region 12 with fail
          refine step_world (fun wx => wx.heap[wr.heap.size]? = some (.cells #[.int .i64 q0, .int .i64 q1, .int .i64 q2, .int .i64 q3] 61 (0, 0)) ∧ Below wr.heap.size wr wx) ⟨Hnb.out, below_al (Below.refl _ _)⟩ ?_
          clear Hnb x0 x1 x2 x3
          rintro w2 ⟨hnb, hb2⟩
          obtain ⟨y0, y1, _, _⟩ := cells_of_four hnb
          have hlb := lt_of_block hnb
          have H1' := Lib.hid ((hb2.block _ (lt_of_block H1.out)).trans H1.out)
          have hbw : Below pd w w2 := Hb.out.trans (hb2.mono (by omega))
          have Hbw := Lib.hid hbw; have Hb2 := Lib.hid hb2; have Hnb := Lib.hid hnb
          have hxw : LensAt (fun b => b < w2.heap.size) w2 x f v s k := Hx.out.kept ((keptOn_below hbw).mono HD.out) (fun b h => by have := HD.out b h; have := hb2.size; omega)
          have hpw2 : Places w2.heap.size w2 := (HP.out.below hbw).mono (by have := hb2.size; omega)
          have Hxw := Lib.hid hxw; have Hpw2 := Lib.hid hpw2
          clear hbw hb2 hnb hxw hpw2
          go_upto_region 15 with (first
            | (refine wpL_load_lens (g := w.heap.size) (x := x) (f := f) (v := v) (s := s) (k := k) H1'.out rfl _ rfl rfl ?_)
            | (go_at_call 16; refine (lGet_any x f v s k q0 q1 _ Hxw.out Hpw2.out).mono ?_; rintro e w3 ⟨he, hb3⟩; unfold lgetV at he; rw [HE.out, if_pos rfl] at he; subst he; have Hb3 := Lib.hid hb3; clear hb3))
          have h23 := below_chain Hb2.out Hb3.out
          have hbp : Below pd w w3 := Hb.out.trans (h23.mono (by omega))
          have hp3 : pd < w3.heap.size := Nat.lt_of_lt_of_le hpd2 h23.size
          have hlb3 : wr.heap.size < w3.heap.size := Nat.lt_of_lt_of_le hlb Hb3.out.size
          have g1 := (Hb3.out.block _ hlb).trans Hnb.out
          obtain ⟨y0, y1, _, _⟩ := cells_of_four g1
          have co := (h23.cell (p := ⟨w.heap.size + 2, j, none⟩) h3l).trans Hoc.out
          have h3l3 : w.heap.size + 2 < w3.heap.size := Nat.lt_of_lt_of_le h3l h23.size
          have L1 := Lib.hid ((h23.block _ (by omega)).trans H1.out)
          have L2 := Lib.hid (H2.out.go h23)
          have L3 := Lib.hid ((h23.block _ h3l).trans H3.out)
          have L4 := Lib.hid ((h23.block _ hpd2).trans H4.out)
          have L5 := Lib.hid (Hx2.out.kept ((keptOn_below h23).mono (fun b h => h.2)) (fun b h => (⟨h.1, Nat.lt_of_lt_of_le h.2 h23.size⟩ : (D b ∨ w.heap.size + 3 ≤ b) ∧ b < w3.heap.size)))
          have Hbp := Lib.hid hbp
          clear H1 H2 H3 H4 Hb Hx2 H1' Hbw Hb2 Hnb Hxw Hpw2 Hb3 h23 hbp g1 Hoc hlb h3l hpd2 hlt
          have hj12' : (j : Int) < 12 := by omega
          refine wp_region_floats 14 [13] [] [(0, true), (1, true), (2, true), (3, true), (4, true), (5, true), (6, true), (7, true), (8, true), (9, true), (10, false), (11, true), (12, true), (13, true)] (by kernel_rfl) (by kernel_rfl) ⟨by simp, by simp, fun _ h => by cases h⟩ (fun _ _ _ _ _ h => h) (fun _ _ o _ _ h => by cases o <;> exact h) ?_
          refine wpG_load_lens rfl rfl (by rfl) (fun y hy => BenchB.go L2.out (below_undrew (k := 1) hy)) _ rfl rfl ?_
          try simp only [Act.put, List.setIfInBounds_toArray, List.set_cons_zero, List.set_cons_succ]
          iterate 9
            refine wpG_yield (v := ?_) rfl rfl (by rfl) ?_ ?_
            rotate_left
            · intro y hy
              have z0 := (hy.cell (p := ⟨wr.heap.size, 0, none⟩) hlb3).trans y0
              have z1 := (hy.cell (p := ⟨wr.heap.size, 1, none⟩) hlb3).trans y1
              have z2 := (hy.cell (p := ⟨w.heap.size + 2, j, none⟩) h3l3).trans co
              go_simp
              with_reducible rfl
            try simp only [Act.put, List.setIfInBounds_toArray, List.set_cons_zero, List.set_cons_succ]
          refine wpG_step rfl rfl (fun x1 hx1 K hK => ?_)
          go_simp
          have hx1' : Below w3.heap.size w3 x1 := below_undrew (k := 1) hx1
          have hbx : Below pd w x1 := Hbp.out.trans (hx1'.mono (by omega))
          refine (lSet_any y f' v' s' k' q0 q1 (IntKind.i64.wrap (getAt x.l q0 q1 + oj)) x1 (L5.out.kept ((keptOn_below hx1').mono (fun b h => h.2)) (fun b h => by have := h.2; have := hx1'.size; omega)) ((HP.out.below hbx).mono (by have := hx1'.size; omega))).mono ?_
          rintro e w4 (⟨h1, rfl, hb4⟩ | ⟨h1, f2, v2, s2, k2, rfl, hl4, hb4⟩)
          · refine hK _ _ hb4 ?_
            clear hK K
            iterate 3
              refine wpG_pure (v := ?_) rfl (by rfl) ?_ ?_
              rotate_left
              · intro y
                go_simp
                with_reducible rfl
              try simp only [Act.put, List.setIfInBounds_toArray, List.set_cons_zero, List.set_cons_succ]
            refine wpG_nil0 (l := [_, _]) rfl (fun w5 hb5 => ?_)
            try simp only [Act.put, List.setIfInBounds_toArray, List.set_cons_zero, List.set_cons_succ]
            have h35 := below_chain hx1' (below_chain hb4 hb5)
            have M2 := Lib.hid (L2.out.go h35)
            have M4 := Lib.hid ((h35.block _ hp3).trans L4.out)
            have Mb := Lib.hid (Hbp.out.trans (h35.mono (by omega)))
            have hne : (lsetE y q0 q1 (IntKind.i64.wrap (getAt x.l q0 q1 + oj)) != 0) = true := by simpa using h1
            have Her := Lib.hid h1
            have hsm := Lib.hid (smpN_err (n := i) ((Hnx.out (IntKind.i64.wrap (getAt x.l q0 q1 + oj)) rfl).trans (if_neg h1)) (by omega))
            clear h1 hb4 hb5 hx1 hx1' hbx h35 y0 y1 co L1 L2 L3 L4 L5 Hbp Hnx
            generalize lsetE y q0 q1 (IntKind.i64.wrap (getAt x.l q0 q1 + oj)) = er at *
            go_wp2_with (first
              | (refine wpL_store_lens lens0 ptr0 ptr0 ptr0 ptr0 M2.out rfl rfl (.tmp 6) (.tmp 72) rfl rfl rfl ?_; intro w6 h6 e6; have H6 := Lib.hid h6; have He6 := Lib.hid e6; clear h6 e6 M2)
              | (refine wpL_store_lens lens0 ptr0 ptr0 ptr0 ptr0 H6.out rfl rfl (.tmp 6) (.tmp 76) rfl rfl rfl ?_; intro w7 h7 e7; have H7 := Lib.hid h7; have He7 := Lib.hid e7; clear h7 e7 H6))
            refine bodyPost_ret (ret_lens_tmp rfl rfl rfl H7.out) rfl ?_
            have hk6 : KeptOn (fun b => b ≠ w.heap.size + 1) w5 w7 := by rw [He7.out, He6.out]; exact (keptOn_setCells _ _ _ _).trans (keptOn_setCells _ _ _ _)
            refine ⟨by rw [He7.out, He6.out]; exact below_setCells (by omega) _ _ (below_setCells (by omega) _ _ Mb.out), (hk6 _ (by omega)).trans M4.out, Or.inr ⟨er, hsm.out, Her.out, rfl⟩⟩
          · refine hK _ _ hb4 ?_
            clear hK K
            iterate 3
              refine wpG_pure (v := ?_) rfl (by rfl) ?_ ?_
              rotate_left
              · intro y
                go_simp
                with_reducible rfl
              try simp only [Act.put, List.setIfInBounds_toArray, List.set_cons_zero, List.set_cons_succ]
            refine wpG_nil0 (l := [_, _]) rfl (fun w5 hb5 => ?_)
            try simp only [Act.put, List.setIfInBounds_toArray, List.set_cons_zero, List.set_cons_succ]
            have h35 := below_chain hx1' (below_chain hb4 hb5)
            have M1 := Lib.hid ((h35.block _ (by omega)).trans L1.out)
            have M2 := Lib.hid (L2.out.go h35)
            have M3 := Lib.hid ((h35.block _ h3l3).trans L3.out)
            have M4 := Lib.hid ((h35.block _ hp3).trans L4.out)
            have Mb := Lib.hid (Hbp.out.trans (h35.mono (by omega)))
            have M5 := Lib.hid (hl4.kept ((keptOn_below hb5).mono (fun b h => h.2)) (fun b h => (⟨Or.inr (by have := h.1; have := hx1'.size; omega), Nat.lt_of_lt_of_le h.2 hb5.size⟩ : (D b ∨ w.heap.size + 3 ≤ b) ∧ b < w5.heap.size)))
            have hsm := Lib.hid ((Hnx.out (IntKind.i64.wrap (getAt x.l q0 q1 + oj)) rfl).trans (if_pos h1))
            clear h1 hb4 hb5 hx1 hx1' hbx h35 y0 y1 co L1 L2 L3 L4 L5 Hbp Hnx hl4
            go_wp2_with (refine wpL_store_lens (lsetX y q0 q1 (IntKind.i64.wrap (getAt x.l q0 q1 + oj))) f2 v2 s2 k2 M2.out rfl rfl (.tmp 6) (.tmp 72) rfl rfl rfl ?_; intro w6 h6 e6; have H6 := Lib.hid h6; have He6 := Lib.hid e6; clear h6 e6 M2)
            have hk6 : KeptOn (fun b => b ≠ w.heap.size + 1) w5 w6 := by rw [He6.out]; exact keptOn_setCells _ _ _ _
            have hs6 : w6.heap.size = w5.heap.size := by rw [He6.out, size_setCells]
            have Hk6 := Lib.hid hk6; have Hs6 := Lib.hid hs6
            clear hk6 hs6
            go_roundw
            case rel => exact ⟨j + 1, lsetX y q0 q1 (IntKind.i64.wrap (getAt x.l q0 q1 + oj)), f2, v2, s2, k2, by omega, by go_num, hsm.out, (Hk6.out _ (by omega)).trans M1.out, H6.out, (Hk6.out _ (by omega)).trans M3.out, (Hk6.out _ (by omega)).trans M4.out, by rw [He6.out]; exact below_setCells (by omega) _ _ Mb.out, M5.out.kept (Hk6.out.mono (fun b h => (HDn.out b h.1).1)) (fun b h => ⟨h.1, by rw [Hs6.out]; exact h.2⟩)⟩
            case measure => simp [intOf]; omega
        · obtain rfl : j = i := by omega
          have h2b : w.heap.size + 1 < wr.heap.size := H2.out.lt
          go_wp2_with (first
            | (refine wpL_load_lens H2.out rfl _ rfl rfl ?_)
            | (refine wpL_store_lens y f' v' s' k' H2.out rfl rfl _ _ rfl rfl rfl ?_; intro w3 h3' e3; have He3 := Lib.hid e3; have H3' := Lib.hid h3'; clear h3' e3 H2))
          refine bodyPost_ret (ret_lens_tmp rfl rfl rfl H3'.out) rfl ?_
          have hk3 : KeptOn (fun b => b ≠ w.heap.size + 1) wr w3 := by rw [He3.out]; exact keptOn_setCells _ _ _ _
          have hs3 : w3.heap.size = wr.heap.size := by rw [He3.out, size_setCells]
          refine ⟨by rw [He3.out]; exact below_setCells (by omega) _ _ Hb.out, (hk3 _ (by omega)).trans H4.out, Or.inl ⟨y, f', v', s', k', Hy.out, rfl, Hx2.out.kept (hk3.mono (fun b h => (HDn.out b h.1).1)) (fun b h => ⟨h.1, by rw [hs3]; exact h.2⟩)⟩⟩

end Go.Proofs.YthommhfppeonpaaGreatDoor

namespace Go.Proofs.YthommhfppeonpaaGreatDoor
open Go.RowKit

set_option maxRecDepth 100000 in
set_option maxHeartbeats 6400000 in
theorem rlSame_eq (x : LensD) (f v s k f' v' s' k' : Ptr) (w : World) (hx : LensAt (fun b => b < w.heap.size) w x f v s k) (hy : LensAt (fun b => b < w.heap.size) w x f' v' s' k') :
    Calls Tryz.prog 15 #[lensV x f v s k, lensV x f' v' s' k'] w (RetB w (.bool true)) := by
  obtain ⟨fa, fn, fc⟩ := f; obtain ⟨va, vn, vc⟩ := v; obtain ⟨sa, sn, sc⟩ := s; obtain ⟨ka, kn, kc⟩ := k
  obtain ⟨fa', fn', fc'⟩ := f'; obtain ⟨va', vn', vc'⟩ := v'; obtain ⟨sa', sn', sc'⟩ := s'; obtain ⟨ka', kn', kc'⟩ := k'
  have ef : fn = fn' := by have h1 := hx.fs.1; have h2 := hy.fs.1; simp only at h1 h2; omega
  have ev : vn = vn' := by have h1 := hx.ws.1; have h2 := hy.ws.1; simp only at h1 h2; omega
  have es : sn = sn' := by have h1 := hx.l.1; have h2 := hy.l.1; simp only at h1 h2; omega
  have ek : kn = kn' := by have h1 := hx.cf.1; have h2 := hy.cf.1; simp only at h1 h2; omega
  subst ef ev es ek
  have hfn : fn ≤ 1000000 := hx.fn; have hvn : vn ≤ 1000000 := hx.wn; have hsn : sn ≤ 1000000 := hx.sn; have hkn : kn ≤ 1000000 := hx.kn
  obtain ⟨e1, e2⟩ := heap_two w (.cells (cells9 x ⟨fa, fn, fc⟩ ⟨va, vn, vc⟩ ⟨sa, sn, sc⟩ ⟨ka, kn, kc⟩).toArray 48) (.cells (cells9 x ⟨fa', fn, fc'⟩ ⟨va', vn, vc'⟩ ⟨sa', sn, sc'⟩ ⟨ka', kn, kc'⟩).toArray 48)
  have hb := below_two (w := w) (.cells (cells9 x ⟨fa, fn, fc⟩ ⟨va, vn, vc⟩ ⟨sa, sn, sc⟩ ⟨ka, kn, kc⟩).toArray 48) (.cells (cells9 x ⟨fa', fn, fc'⟩ ⟨va', vn, vc'⟩ ⟨sa', sn, sc'⟩ ⟨ka', kn, kc'⟩).toArray 48)
  have Hx := Lib.hid hx; have Hy := Lib.hid hy; have E1 := Lib.hid e1; have E2 := Lib.hid e2; have Hb := Lib.hid hb
  clear hx hy e1 e2 hb
  unfold lensV
  go_enter Tryz.func15, Tryz.ntmps15
  go_upto_region 1 with fail
  refine step_world (fun wx => BenchB wx w.heap.size 48 x ⟨fa, fn, fc⟩ ⟨va, vn, vc⟩ ⟨sa, sn, sc⟩ ⟨ka, kn, kc⟩ ∧ BenchB wx (w.heap.size + 1) 48 x ⟨fa', fn, fc'⟩ ⟨va', vn, vc'⟩ ⟨sa', sn, sc'⟩ ⟨ka', kn, kc'⟩ ∧ Below w.heap.size w wx) ⟨E1.out, E2.out, Hb.out⟩ ?_
  clear E1 E2 Hb
  rintro w1 ⟨h1, h2, hb⟩
  have hl1 := h1.lt
  have hl2 := h2.lt
  obtain ⟨c0, c1, c2, c3, c4, c5, c6, c7, c8⟩ := h1.cells
  obtain ⟨d0, d1, d2, d3, d4, d5, d6, d7, d8⟩ := h2.cells
  have H1 := Lib.hid h1; have H2 := Lib.hid h2; have Hb := Lib.hid hb
  clear h1 h2 hb
  go_upto_region 3 with ((with_reducible refine (rsameConf_eq x.cf ka ka' kn kc kc' _ ((Hx.out.go Hb.out).cf) ((Hy.out.go Hb.out).cf) hkn).mono ?_); rintro e w2 ⟨rfl, hb2⟩; have Hb2 := Lib.hid hb2; clear hb2)
  refine step_world (fun wx => BenchB wx w.heap.size 48 x ⟨fa, fn, fc⟩ ⟨va, vn, vc⟩ ⟨sa, sn, sc⟩ ⟨ka, kn, kc⟩ ∧ BenchB wx (w.heap.size + 1) 48 x ⟨fa', fn, fc'⟩ ⟨va', vn, vc'⟩ ⟨sa', sn, sc'⟩ ⟨ka', kn, kc'⟩ ∧ Below w.heap.size w wx) ⟨H1.out.go Hb2.out, H2.out.go Hb2.out, below_chain Hb.out Hb2.out⟩ ?_
  clear H1 H2 Hb Hb2 hl1 hl2 c0 c1 c2 c3 c4 c5 c6 c7 c8 d0 d1 d2 d3 d4 d5 d6 d7 d8
  rintro w3 ⟨h1, h2, hb⟩
  have hl1 := h1.lt
  have hl2 := h2.lt
  obtain ⟨-, -, -, -, -, c5, c6, c7, -⟩ := h1.cells
  obtain ⟨-, -, -, -, -, d5, d6, d7, -⟩ := h2.cells
  have H1 := Lib.hid h1; have H2 := Lib.hid h2; have Hb := Lib.hid hb
  clear h1 h2 hb
  go_wp2_with fail
  go_loopw [5] (fun iv wr => ∃ i : Nat, i ≤ fn ∧ iv = .int .i64 (i : Int) ∧ BenchB wr w.heap.size 48 x ⟨fa, fn, fc⟩ ⟨va, vn, vc⟩ ⟨sa, sn, sc⟩ ⟨ka, kn, kc⟩ ∧ BenchB wr (w.heap.size + 1) 48 x ⟨fa', fn, fc'⟩ ⟨va', vn, vc'⟩ ⟨sa', sn, sc'⟩ ⟨ka', kn, kc'⟩ ∧ Below w.heap.size w wr) (fun iv _ => fn - (intOf iv).toNat)
  case atStart => exact ⟨0, Nat.zero_le _, rfl, H1.out, H2.out, Hb.out⟩
  case round =>
    clear H1 H2 Hb hl1 hl2 c5 c6 c7 d5 d6 d7
    obtain ⟨i, hi, rfl, h1, h2, hb⟩ := hrel
    have hl1 := h1.lt
    have hl2 := h2.lt
    obtain ⟨-, -, -, -, -, c5, c6, c7, -⟩ := h1.cells
    obtain ⟨-, -, -, -, -, d5, d6, d7, -⟩ := h2.cells
    have H1 := Lib.hid h1; have H2 := Lib.hid h2; have Hb := Lib.hid hb
    clear h1 h2 hb
    by_cases hin : i < fn
    · obtain ⟨b1, o1, e1, l1, x0, x1⟩ := ((Hx.out.go Hb.out).fs.ir (fun _ h => h)).at2 hin
      obtain ⟨b2, o2, e2, l2, y0, y1⟩ := ((Hy.out.go Hb.out).fs.ir (fun _ h => h)).at2 hin
      simp only at e1 e2
      subst e1 e2
      generalize x.fs.getD (i * 2) 0 = p0 at *
      generalize x.fs.getD (i * 2 + 1) 0 = p1 at *
      go_wp2_with fail
      go_quiet (fail)
      go_wp2_with fail
      go_roundw
      case rel => exact ⟨i + 1, by omega, by go_num, H1.out.go (below_drewN (Below.refl _ _) _), H2.out.go (below_drewN (Below.refl _ _) _), below_drewN Hb.out _⟩
      case measure => simp [intOf]; omega
    · obtain rfl : fn = i := by omega
      go_wp2_with fail
      go_loopw [6] (fun iv wr => ∃ i : Nat, i ≤ vn ∧ iv = .int .i64 (i : Int) ∧ BenchB wr w.heap.size 48 x ⟨fa, fn, fc⟩ ⟨va, vn, vc⟩ ⟨sa, sn, sc⟩ ⟨ka, kn, kc⟩ ∧ BenchB wr (w.heap.size + 1) 48 x ⟨fa', fn, fc'⟩ ⟨va', vn, vc'⟩ ⟨sa', sn, sc'⟩ ⟨ka', kn, kc'⟩ ∧ Below w.heap.size w wr) (fun iv _ => vn - (intOf iv).toNat)
      case atStart => exact ⟨0, Nat.zero_le _, rfl, H1.out, H2.out, Hb.out⟩
      case round =>
        clear H1 H2 Hb hl1 hl2 c5 c6 c7 d5 d6 d7
        obtain ⟨j, hj, rfl, h1, h2, hb⟩ := hrel
        have hl1 := h1.lt
        have hl2 := h2.lt
        obtain ⟨-, -, -, -, -, -, c6, c7, -⟩ := h1.cells
        obtain ⟨-, -, -, -, -, -, d6, d7, -⟩ := h2.cells
        have H1 := Lib.hid h1; have H2 := Lib.hid h2; have Hb := Lib.hid hb
        clear h1 h2 hb
        by_cases hjn : j < vn
        · obtain ⟨b1, o1, e1, l1, x0, x1⟩ := ((Hx.out.go Hb.out).ws.ir (fun _ h => h)).at2 hjn
          obtain ⟨b2, o2, e2, l2, y0, y1⟩ := ((Hy.out.go Hb.out).ws.ir (fun _ h => h)).at2 hjn
          simp only at e1 e2
          subst e1 e2
          generalize x.ws.getD (j * 2) 0 = p0 at *
          generalize x.ws.getD (j * 2 + 1) 0 = p1 at *
          go_wp2_with fail
          go_quiet (fail)
          go_wp2_with fail
          go_roundw
          case rel => exact ⟨j + 1, by omega, by go_num, H1.out.go (below_drewN (Below.refl _ _) _), H2.out.go (below_drewN (Below.refl _ _) _), below_drewN Hb.out _⟩
          case measure => simp [intOf]; omega
        · obtain rfl : vn = j := by omega
          go_wp2_with fail
          go_loopw [7] (fun iv wr => ∃ i : Nat, i ≤ sn ∧ iv = .int .i64 (i : Int) ∧ BenchB wr w.heap.size 48 x ⟨fa, fn, fc⟩ ⟨va, vn, vc⟩ ⟨sa, sn, sc⟩ ⟨ka, kn, kc⟩ ∧ BenchB wr (w.heap.size + 1) 48 x ⟨fa', fn, fc'⟩ ⟨va', vn, vc'⟩ ⟨sa', sn, sc'⟩ ⟨ka', kn, kc'⟩ ∧ Below w.heap.size w wr) (fun iv _ => sn - (intOf iv).toNat)
          case atStart => exact ⟨0, Nat.zero_le _, rfl, H1.out, H2.out, Hb.out⟩
          case round =>
            clear H1 H2 Hb hl1 hl2 c6 c7 d6 d7
            obtain ⟨m, hm, rfl, h1, h2, hb⟩ := hrel
            have hl1 := h1.lt
            have hl2 := h2.lt
            obtain ⟨-, -, -, -, -, -, -, c7, -⟩ := h1.cells
            obtain ⟨-, -, -, -, -, -, -, d7, -⟩ := h2.cells
            have H1 := Lib.hid h1; have H2 := Lib.hid h2; have Hb := Lib.hid hb
            clear h1 h2 hb
            by_cases hmn : m < sn
            · obtain ⟨b1, o1, y, cs, e1, l1, hy1, ⟨a2, n2, c2, rfl, hz2, hn2, -, -⟩, hr1⟩ := (Hx.out.go Hb.out).l.at hmn
              obtain ⟨b2, o2, y', cs', e2, l2, hy2, ⟨a3, n3, c3, rfl, hz3, hn3, -, -⟩, hr2⟩ := (Hy.out.go Hb.out).l.at hmn
              simp only at e1 e2
              subst e1 e2
              rw [hy1] at hy2
              cases hy2
              obtain rfl : n2 = n3 := by rw [coat_n hz2, coat_n hz3]
              have Hr1 := Lib.hid hr1; have Hr2 := Lib.hid hr2; have Hz2 := Lib.hid (hz2.ir (fun _ h => h)); have Hz3 := Lib.hid (hz3.ir (fun _ h => h))
              clear hr1 hr2 hz2 hz3 hy1
              go_upto_region 18 with fail
              refine wp_region_floats 12 [11] [] [(0, true), (1, true), (2, true), (3, true), (4, true), (5, true), (6, true), (7, true), (8, true), (9, true), (10, false), (11, true)] (by kernel_rfl) (by kernel_rfl) ⟨by simp, by simp, fun _ h => by cases h⟩ (fun _ _ _ _ _ h => h) (fun _ _ o _ _ h => by cases o <;> exact h) ?_
              iterate 4
                refine wpG_yield (v := ?_) rfl rfl (by rfl) ?_ ?_
                rotate_left
                · intro y hy
                  have z0 := (hy.cell (p := ⟨w.heap.size, 7, none⟩) hl1).trans c7
                  go_simp
                  with_reducible rfl
                try simp only [Act.put, List.setIfInBounds_toArray, List.set_cons_zero, List.set_cons_succ]
              refine wpG_load_at rfl rfl (by rfl) (fun y hy => rangeAt_kept Hr1.out (keptOn_below (below_undrew (k := 1) hy)) l1) _ rfl rfl ?_
              try simp only [Act.put, List.setIfInBounds_toArray, List.set_cons_zero, List.set_cons_succ]
              iterate 4
                refine wpG_yield (v := ?_) rfl rfl (by rfl) ?_ ?_
                rotate_left
                · intro y hy
                  have z0 := (hy.cell (p := ⟨w.heap.size + 1, 7, none⟩) hl2).trans d7
                  go_simp
                  with_reducible rfl
                try simp only [Act.put, List.setIfInBounds_toArray, List.set_cons_zero, List.set_cons_succ]
              refine wpG_load_at rfl rfl (by rfl) (fun y hy => rangeAt_kept Hr2.out (keptOn_below (below_undrew (k := 1) hy)) l2) _ rfl rfl ?_
              try simp only [Act.put, List.setIfInBounds_toArray, List.set_cons_zero, List.set_cons_succ]
              refine wpG_step rfl rfl (fun xa hxa K hK => ?_)
              go_simp
              have hxa' : Below wr.heap.size wr xa := below_undrew (k := 1) hxa
              refine (refSame_eq y.s y.zs a2 a3 n2 c2 c3 xa (Hz2.out.go hxa') (Hz3.out.go hxa') hn2).mono ?_
              rintro e wb ⟨rfl, hbb⟩
              refine hK _ _ hbb ?_
              clear hK K
              iterate 1
                refine wpG_pure (v := ?_) rfl (by rfl) ?_ ?_
                rotate_left
                · intro y
                  go_simp
                  with_reducible rfl
                try simp only [Act.put, List.setIfInBounds_toArray, List.set_cons_zero, List.set_cons_succ]
              refine wpG_nil0 (l := []) rfl (fun w4 hbc => ?_)
              try simp only [Act.put, List.setIfInBounds_toArray, List.set_cons_zero, List.set_cons_succ]
              have h4 : Below wr.heap.size wr w4 := below_chain hxa' (below_chain hbb hbc)
              have L1 := Lib.hid (H1.out.go h4); have L2 := Lib.hid (H2.out.go h4); have Lb := Lib.hid (below_chain Hb.out h4)
              clear hxa hxa' hbb hbc h4 H1 H2 Hb Hr1 Hr2 c7 d7
              go_wp2_with fail
              go_roundw
              case rel => exact ⟨m + 1, by omega, by go_num, L1.out, L2.out, Lb.out⟩
              case measure => simp [intOf]; omega
            · obtain rfl : sn = m := by omega
              go_wp2
              go_ret
              exact ⟨rfl, Hb.out⟩

end Go.Proofs.YthommhfppeonpaaGreatDoor

namespace Go.Proofs.YthommhfppeonpaaGreatDoor
open Go.RowKit

/-- what with gives back -/
def RetWith (w : World) (l : List SurfC) (i p v : Int) (e : Ending) (w' : World) : Prop :=
  (putB l i p v = false ∧ e = .returned (.tuple #[.slice none 0 0, .bool false]) ∧ Below w.heap.size w w') ∨
  (putB l i p v = true ∧ ∃ g c, e = .returned (.tuple #[.slice (some ⟨g, 0, none⟩) l.length c, .bool true]) ∧ OwnR SurfR 22 92 w.heap.size w' (.slice (some ⟨g, 0, none⟩) l.length c) (putL l i p v) ∧ Below w.heap.size w w')

theorem refSet_no (s : Surf) (zs : List Int) (p v : Int) (a : Option Addr) (n c : Nat) (w : World) (hz : IR w.heap.size w 3 a n c zs) (hn : n ≤ 1000000) (hc : a = none → c = 0) (hg : s.glass.size ≤ 9223372036854775807) (h1 : (setI s zs n p v == 0) = false) :
    Calls Tryz.prog 114 #[.agg #[.int .i64 s.kind, .int .i64 s.curv, .int .i64 s.conic, .int .i64 s.curvX, .int .i64 s.conicX, .int .i64 s.a0, .int .i64 s.a1, .int .i64 s.a2, .int .i64 s.a3, .int .i64 s.p0, .int .i64 s.p1, .int .i64 s.order, .int .i64 s.thick, .string s.glass, .int .i64 s.semi, .int .i64 s.hole, .int .i64 s.dx, .int .i64 s.dy, .int .i64 s.ax, .int .i64 s.ay, .int .i64 s.az, .slice a n c], .int .i64 p, .int .i64 v] w (fun e w' => e = .returned (.tuple #[.agg #[.int .i64 0, .int .i64 0, .int .i64 0, .int .i64 0, .int .i64 0, .int .i64 0, .int .i64 0, .int .i64 0, .int .i64 0, .int .i64 0, .int .i64 0, .int .i64 0, .int .i64 0, .string emptyS, .int .i64 0, .int .i64 0, .int .i64 0, .int .i64 0, .int .i64 0, .int .i64 0, .int .i64 0, .slice none 0 0], .int .i64 (setI s zs n p v)]) ∧ Below w.heap.size w w') :=
  (refSet_any s zs p v a n c w hz hn hc hg).mono (by
    rintro e w' (⟨_, h, hb⟩ | ⟨h0, _⟩)
    · exact ⟨h, hb⟩
    · rw [h0] at h1; simp at h1)
theorem refSet_yes (s : Surf) (zs : List Int) (p v : Int) (a : Option Addr) (n c : Nat) (w : World) (hz : IR w.heap.size w 3 a n c zs) (hn : n ≤ 1000000) (hc : a = none → c = 0) (hg : s.glass.size ≤ 9223372036854775807) (h1 : setI s zs n p v = 0) :
    Calls Tryz.prog 114 #[.agg #[.int .i64 s.kind, .int .i64 s.curv, .int .i64 s.conic, .int .i64 s.curvX, .int .i64 s.conicX, .int .i64 s.a0, .int .i64 s.a1, .int .i64 s.a2, .int .i64 s.a3, .int .i64 s.p0, .int .i64 s.p1, .int .i64 s.order, .int .i64 s.thick, .string s.glass, .int .i64 s.semi, .int .i64 s.hole, .int .i64 s.dx, .int .i64 s.dy, .int .i64 s.ax, .int .i64 s.ay, .int .i64 s.az, .slice a n c], .int .i64 p, .int .i64 v] w (fun e w' => ∃ a c, e = .returned (.tuple #[.agg #[.int .i64 (s.put p v).kind, .int .i64 (s.put p v).curv, .int .i64 (s.put p v).conic, .int .i64 (s.put p v).curvX, .int .i64 (s.put p v).conicX, .int .i64 (s.put p v).a0, .int .i64 (s.put p v).a1, .int .i64 (s.put p v).a2, .int .i64 (s.put p v).a3, .int .i64 (s.put p v).p0, .int .i64 (s.put p v).p1, .int .i64 (s.put p v).order, .int .i64 (s.put p v).thick, .string (s.put p v).glass, .int .i64 (s.put p v).semi, .int .i64 (s.put p v).hole, .int .i64 (s.put p v).dx, .int .i64 (s.put p v).dy, .int .i64 (s.put p v).ax, .int .i64 (s.put p v).ay, .int .i64 (s.put p v).az, .slice a n c], .int .i64 0]) ∧ IRp (fun b => w.heap.size ≤ b ∧ b < w'.heap.size) w' 3 a n c zs ∧ (a = none → c = 0) ∧ Below w.heap.size w w') :=
  (refSet_any s zs p v a n c w hz hn hc hg).mono (by
    rintro e w' (⟨h, _⟩ | ⟨_, h⟩)
    · exact absurd h1 h
    · exact h)
theorem rcopy_yes (l : List SurfC) (a : Option Addr) (n c : Nat) (w : World) (h : RR SurfR 22 (fun b => b < w.heap.size) w a n c l) (hn : n ≤ 1000000) (h0 : 0 < l.length) :
    Calls Tryz.prog 111 #[.slice a n c] w (RetOwnR SurfR 22 92 w l) :=
  (rcopy_any l a n c w h hn).mono (by
    rintro e w' ⟨v, rfl, ho, hb⟩
    rcases ho.form with ⟨rfl, hl⟩ | ⟨g, cap, rfl, _⟩
    · rw [hl] at h0; simp at h0
    · exact ⟨g, cap, rfl, ho, hb⟩)
theorem glass_put {s : Surf} {zs : List Int} {n : Nat} {p v : Int} (h0 : setI s zs n p v = 0) (hg : s.glass.size ≤ 9223372036854775807) : (s.put p v).glass.size ≤ 9223372036854775807 := by
  obtain ⟨_, q2'⟩ := missI_zero (show missI s zs n p = 0 from by
    apply Decidable.byContradiction; intro hc
    unfold setI at h0; rw [if_neg hc] at h0; exact hc h0)
  obtain ⟨r1, r2⟩ := hasB_range q2'
  rcases ways17 r1 r2 with rfl | rfl | rfl | rfl | rfl | rfl | rfl | rfl | rfl | rfl | rfl | rfl | rfl | rfl | rfl | rfl | rfl <;> exact hg

set_option maxRecDepth 100000 in
set_option maxHeartbeats 3200000 in
theorem rwith_any (l : List SurfC) (a : Option Addr) (n c : Nat) (i p v : Int) (w : World) (h : RR SurfR 22 (fun b => b < w.heap.size) w a n c l) (hn : n ≤ 1000000) :
    Calls Tryz.prog 92 #[.slice a n c, .int .i64 i, .int .i64 p, .int .i64 v] w (RetWith w l i p v) := by
  have hlen := h.1
  have H := Lib.hid h; clear h
  go_enter Tryz.func92, Tryz.ntmps92
  cases hh : lhasB l i p with
  | false =>
    have hput : putB l i p v = false := by unfold putB; rw [hh]; rfl
    have Hh := Lib.hid hh; have Hput := Lib.hid hput; clear hh hput
    go_wp2_with ((with_reducible refine (rhas_any l _ n c i p _ H.out hn).mono ?_); rintro e w2 ⟨he, hb⟩; rw [Hh.out] at he; subst he; have Hb2 := Lib.hid hb; clear hb)
    go_ret2
    exact Or.inl ⟨Hput.out, rfl, Hb2.out⟩
  | true =>
    have hin : 0 ≤ i ∧ i ≤ (n : Int) - 1 := by
      unfold lhasB at hh
      simp only [Bool.and_eq_true] at hh
      have := hh.1.1
      rw [hlen] at this
      simpa [bt] using this
    obtain ⟨k, rfl⟩ : ∃ k : Nat, i = (k : Int) := ⟨i.toNat, by omega⟩
    have hkn : k < n := by omega
    have hkl : k < l.length := by omega
    have Hh := Lib.hid hh; clear hh hin
    obtain ⟨b, off, x, cs, rfl, hlt, hx, ⟨a2, n2, c2, rfl, hz, hn2, hc2, hg2⟩, hrow⟩ := H.out.at hkn
    have hnx := coat_n hz
    have Hz := Lib.hid (hz.ir (fun _ h => h)); have Hg2 := Lib.hid hg2; have Hc2 := Lib.hid hc2; have Hrow := Lib.hid hrow; have Hx := Lib.hid hx; have Hnx := Lib.hid hnx; have HL := Lib.hid hlen
    clear hz hg2 hc2 hrow hx hnx
    go_upto_region 3 with ((with_reducible refine (rhas_any l _ n c k p _ H.out hn).mono ?_); rintro e w2 ⟨he, hb⟩; rw [Hh.out] at he; subst he; have Hb := Lib.hid hb; clear hb)
    have hset : setI x.s x.zs n2 p v = 0 ∨ (setI x.s x.zs n2 p v == 0) = false := by
      by_cases h : setI x.s x.zs n2 p v = 0
      · exact Or.inl h
      · exact Or.inr (by simpa using h)
    rcases hset with h0 | h1
    · have hput : putB l k p v = true := by unfold putB; rw [Hh.out, Int.toNat_natCast, Hx.out]; simp only; rw [← Hnx.out]; simp [h0]
      have hputl : putL l k p v = l.set k ⟨x.s.put p v, x.zs⟩ := by unfold putL; rw [Int.toNat_natCast, Hx.out]; simp [hput]
      have H0 := Lib.hid h0; have Hput := Lib.hid hput; have Hputl := Lib.hid hputl; clear h0 hput hputl hlen
      have Hg3 := Lib.hid (glass_put H0.out Hg2.out)
      go_upto_region 4 with (first
        | (refine wpL_load_at (rangeAt_kept Hrow.out (keptOn_below Hb.out) hlt) rfl (.tmp 21) rfl rfl ?_)
        | ((with_reducible refine (refSet_yes x.s x.zs p v a2 n2 c2 _ (Hz.out.go Hb.out) hn2 Hc2.out Hg2.out H0.out).mono ?_); rintro e w3 ⟨a', c', rfl, hi, hc', hb3⟩; have Hi := Lib.hid hi; have Hc' := Lib.hid hc'; have Hb3 := Lib.hid hb3; clear hi hc' hb3)
        | (refine wpL_store_new (x.s.put p v) a' n2 c' _ rfl rfl (.tmp 10) (.tmp 26) rfl rfl rfl ?_))
      have hbn := below_al (o := .cells #[.int .i64 (x.s.put p v).kind, .int .i64 (x.s.put p v).curv, .int .i64 (x.s.put p v).conic, .int .i64 (x.s.put p v).curvX, .int .i64 (x.s.put p v).conicX, .int .i64 (x.s.put p v).a0, .int .i64 (x.s.put p v).a1, .int .i64 (x.s.put p v).a2, .int .i64 (x.s.put p v).a3, .int .i64 (x.s.put p v).p0, .int .i64 (x.s.put p v).p1, .int .i64 (x.s.put p v).order, .int .i64 (x.s.put p v).thick, .string (x.s.put p v).glass, .int .i64 (x.s.put p v).semi, .int .i64 (x.s.put p v).hole, .int .i64 (x.s.put p v).dx, .int .i64 (x.s.put p v).dy, .int .i64 (x.s.put p v).ax, .int .i64 (x.s.put p v).ay, .int .i64 (x.s.put p v).az, .slice a' n2 c'] 92) (Below.refl w3.heap.size w3)
      refine step_world (fun wx => SurfB wx w3.heap.size (x.s.put p v) a' n2 c' ∧ Below w.heap.size w wx ∧ IRp (fun b => w.heap.size ≤ b ∧ b < wx.heap.size) wx 3 a' n2 c' x.zs) ⟨SurfB.new w3 (x.s.put p v) a' n2 c', below_chain Hb.out (below_chain Hb3.out hbn), Hi.out.kept ((keptOn_below hbn).mono (fun b hb => hb.2)) (fun b hb => ⟨Nat.le_trans Hb.out.size hb.1, Nat.lt_of_lt_of_le hb.2 hbn.size⟩)⟩ ?_
      clear hbn Hb3 Hi
      rintro w4 ⟨hs, hb4, hi⟩
      have hl4 := hs.lt
      have Hs := Lib.hid hs; have Hb4 := Lib.hid hb4; have Hi := Lib.hid hi
      clear hs hb4 hi
      go_upto_region 7 with ((with_reducible refine (rcopy_yes l _ n c _ (H.out.go surfOk Hb4.out) hn (Nat.lt_of_le_of_lt (Nat.zero_le k) hkl)).mono ?_); rintro e w5 ⟨g5, c5, rfl, ho, hb5⟩; have Ho := Lib.hid ho; have Hb5 := Lib.hid hb5; clear ho hb5)
      have hwo : w4.heap.size ≤ g5 := by
        rcases Ho.out.form with ⟨e, _⟩ | ⟨g', _, e, q, _⟩
        · cases e
        · cases e; exact q
      have hob := OwnR.rebase surfOk Ho.out Hb4.out.size
      have hwb := Hb4.out.size
      have hsr : SurfR (fun b => w.heap.size ≤ b ∧ b < w5.heap.size ∧ b ≠ g5) w5 ⟨x.s.put p v, x.zs⟩ (cells22 (x.s.put p v) a' n2 c') := ⟨a', n2, c', rfl, Hi.out.kept ((keptOn_below Hb5.out).mono (fun b hb => hb.2)) (fun b hb => ⟨hb.1, Nat.lt_of_lt_of_le hb.2 Hb5.out.size, by have := hb.2; omega⟩), hn2, Hc'.out, Hg3.out⟩
      have Hob := Lib.hid hob; have Hsr := Lib.hid hsr; clear hob hsr
      go_wp2_with (first
        | (refine wpL_load_surf (Hs.out.go Hb5.out hl4) rfl (.tmp 10) rfl rfl ?_)
        | (refine wpL_store_at (x.s.put p v) a' n2 c' (Hob.out.there hkl) rfl _ _ rfl rfl rfl ?_; refine step_list (fun wx => OwnR SurfR 22 92 w.heap.size wx (.slice (some ⟨g5, 0, none⟩) l.length c5) (l.set k ⟨x.s.put p v, x.zs⟩) ∧ Below w.heap.size w wx) ⟨Hob.out.set surfOk hkl Hsr.out, below_setCells (by omega) _ _ (below_chain Hb4.out Hb5.out)⟩ ?_; clear Hs Hob Ho Hsr; rintro w6 ⟨h6, hg6⟩; have H6 := Lib.hid h6; have Hg6 := Lib.hid hg6; clear h6 hg6))
      go_ret2
      exact Or.inr ⟨Hput.out, g5, c5, rfl, by rw [Hputl.out]; exact H6.out, Hg6.out⟩
    · have hput : putB l k p v = false := by unfold putB; rw [Int.toNat_natCast, Hx.out]; simp only; rw [← Hnx.out]; simp at h1; simp [h1]
      have Hput := Lib.hid hput; clear hput
      go_wp2_with (first
        | (refine wpL_load_at (rangeAt_kept Hrow.out (keptOn_below Hb.out) hlt) rfl (.tmp 21) rfl rfl ?_)
        | ((with_reducible refine (refSet_no x.s x.zs p v a2 n2 c2 _ (Hz.out.go Hb.out) hn2 Hc2.out Hg2.out h1).mono ?_); rintro e w3 ⟨rfl, hb3⟩; have Hb3 := Lib.hid hb3; clear hb3; generalize setI x.s x.zs n2 p v = m at *)
        | (refine wpL_store_new ⟨0, 0, 0, 0, 0, 0, 0, 0, 0, 0, 0, 0, 0, emptyS, 0, 0, 0, 0, 0, 0, 0⟩ none 0 0 _ rfl rfl (.tmp 10) (.tmp 26) rfl rfl rfl ?_))
      go_ret2
      exact Or.inl ⟨Hput.out, rfl, below_chain Hb.out (below_al Hb3.out)⟩

end Go.Proofs.YthommhfppeonpaaGreatDoor
