/-
  DERIVED. Good lenses: the walk of Lens.
-/
import Derived.Test.YthommhfppeonpaaGreatDoorJDrI
namespace Go.Proofs.YthommhfppeonpaaGreatDoor
open Go.RowKit

structure GoodD where
  dbl : Bool
  bend : Int
  size : Int
  stop : Int
  fields : List Int
  waves : List Int

structure GoodAt (S : Nat → Prop) (w : World) (x : GoodD) (f v : Ptr) : Prop where
  f : BR S w f.a f.n f.c x.fields
  v : BR S w v.a v.n v.c x.waves
  bend : i8In x.bend
  size : u8In x.size
  stop : u8In x.stop
theorem GoodAt.kept {S T : Nat → Prop} {w w' : World} {x : GoodD} {f v : Ptr} (h : GoodAt S w x f v) (hk : KeptOn S w w') (hs : ∀ b, S b → T b) : GoodAt T w' x f v :=
  ⟨h.f.kept hk hs, h.v.kept hk hs, h.bend, h.size, h.stop⟩

def cellsG (x : GoodD) (f v : Ptr) : List Value := [.bool x.dbl, .int .i8 x.bend, .int .u8 x.size, .int .u8 x.stop, .slice f.a f.n f.c, .slice v.a v.n v.c]
abbrev goodV (x : GoodD) (f v : Ptr) : Value := .agg #[.bool x.dbl, .int .i8 x.bend, .int .u8 x.size, .int .u8 x.stop, .slice f.a f.n f.c, .slice v.a v.n v.c]
def GoodB (w : World) (g : Nat) (x : GoodD) (f v : Ptr) : Prop := w.heap[g]? = some (.cells (cellsG x f v).toArray 25 (0, 0))
theorem GoodB.cells {w : World} {g : Nat} {x : GoodD} {f v : Ptr} (h : GoodB w g x f v) :
    w.cell? ⟨g, 0, none⟩ = some (.bool x.dbl) ∧ w.cell? ⟨g, 1, none⟩ = some (.int .i8 x.bend) ∧ w.cell? ⟨g, 2, none⟩ = some (.int .u8 x.size) ∧ w.cell? ⟨g, 3, none⟩ = some (.int .u8 x.stop) ∧ w.cell? ⟨g, 4, none⟩ = some (.slice f.a f.n f.c) ∧ w.cell? ⟨g, 5, none⟩ = some (.slice v.a v.n v.c) := by
  unfold GoodB cellsG at h
  refine ⟨?_, ?_, ?_, ?_, ?_, ?_⟩ <;> simp [World.cell?, h]

def drs0 : DrS := ⟨0, 0, 0, 0, 0, 0, 0, 0, 0, 0, 0, 0, 0, 0, 0, 0, 0, 0, 0, 0, 0, []⟩
theorem drs0_in : drs0.In := by constructor <;> (simp only [drs0, i8In, i16In, u8In]; omega)
def drl0 (fs ws : List Int) : DrL := ⟨[drs0], 0, 0, 40, fs, ws, 0, 0, []⟩

theorem good_glass (c t sm : Int) (g : Nat) : (goodS c t sm g).glass.size ≤ 9223372036854775807 := glass_size g

theorem valid_parts {x : LensD} (h : validB x = true) : nameB x.nm = true ∧ sizesB x.dist x.pupil = true ∧ fieldsB x.dist x.fs (x.fs.length / 2) = true ∧ wavesB x.prim x.ws (x.ws.length / 2) = true ∧ surfacesB x.stop x.l = true ∧ configsB x.l x.cf = true := by
  unfold validB at h
  simp [List.range_succ, validN] at h
  exact ⟨h.1, h.2.1, h.2.2.1, h.2.2.2.1, h.2.2.2.2.1, h.2.2.2.2.2⟩
theorem nameB_good : nameB ⟨#[103, 111, 111, 100]⟩ = true := by decide +kernel

/-- a good lens is valid -/
theorem gl_valid {y : LensD} {_fs _ws : List Int} {l : List Surf} {st kk : Int} (hv : validB { y with cf := [] } = true) (hd : y.dist = 0) (hk : 1 ≤ kk ∧ kk ≤ 4) (h0 : 1 ≤ l.length) (h5 : l.length ≤ 5) (hok : ∀ s ∈ l, okC ⟨s, []⟩ = true) (hkd : ∀ s ∈ l, s.kind = 1) (hs0 : 0 ≤ st) (hs1 : st < l.length) :
    validB ⟨⟨#[103, 111, 111, 100]⟩, 0, 4100000 * kk, st, 0, y.fs, y.ws, (l ++ [plainS 0 0]).map fun s => ⟨s, []⟩, []⟩ = true := by
  obtain ⟨_, _, hf, hw, _, _⟩ := valid_parts hv
  refine dl_valid (y := ⟨⟨#[103, 111, 111, 100]⟩, 0, 4100000 * kk, st, 0, y.fs, y.ws, (l ++ [plainS 0 0]).map fun s => ⟨s, []⟩, []⟩) nameB_good (by simp) ⟨by show 1 ≤ 4100000 * kk; omega, by show 4100000 * kk ≤ 1000000000; omega⟩ ?_ ?_ ?_
  · have : fieldsB y.dist y.fs (y.fs.length / 2) = true := hf
    rw [hd] at this; exact this
  · have hw : wavesB y.prim y.ws (y.ws.length / 2) = true := hw
    show wavesB 0 y.ws (y.ws.length / 2) = true
    unfold wavesB at hw ⊢
    simp [bt] at hw ⊢
    exact ⟨hw.1, by omega⟩
  · show surfacesB st ((l ++ [plainS 0 0]).map fun s => (⟨s, []⟩ : SurfC)) = true
    rw [List.map_append]
    refine dl_surfs (c := 0) (by simpa using h0) (by simpa using h5) ?_ (by omega) hs0 (by simpa using hs1) ?_
    · intro q hq
      obtain ⟨s, hs, rfl⟩ := List.mem_map.1 hq
      exact hok s hs
    · have hlt : st.toNat < l.length := by omega
      have := hkd l[st.toNat] (List.getElem_mem hlt)
      unfold kindAt
      rw [List.getElem?_map, List.getElem?_eq_getElem hlt]
      show l[st.toNat].kind ≠ 3
      omega

theorem drl0_at {S : Nat → Prop} {w : World} {b : Nat} {fs ws : List Int} {f v : Ptr} (hb : w.heap[b]? = some (.cells (cellsDS drs0 none 0 0).toArray 126 (0, 0))) (hS : S b) (hf : BR S w f.a f.n f.c fs) (hv : BR S w v.a v.n v.c ws) : DrLAt S w (drl0 fs ws) ⟨some ⟨b, 0, none⟩, 1, 1⟩ f v ⟨none, 0, 0⟩ := by
  refine ⟨⟨rfl, Nat.le_refl _, fun _ => ⟨b, 0, rfl, hS, fun i x hx => ?_⟩⟩, hf, hv, RR.nil _ _ _ _ _ _, ?_, ?_, ?_, ?_, ?_⟩
  · match i, hx with
    | 0, hx =>
      cases hx
      refine ⟨cellsDS drs0 none 0 0, ⟨none, 0, 0, rfl, ⟨rfl, Nat.le_refl _, fun j hj => absurd hj (by omega)⟩, drs0_in⟩, fun j u hu => ?_⟩
      rw [Nat.zero_mul, Nat.zero_add, obj_cell hb]
      simpa using hu
  all_goals (simp only [drl0, u8In, u16In, i16In]; omega)

/-! ### the surfaces of a good lens, as a function -/
def kkOf (x : GoodD) : Int := 1 + x.size % 4
def bbOf (x : GoodD) : Int := x.bend.tmod 100
def baseOf (x : GoodD) : List Surf :=
  if x.dbl = true then [goodS ((20000000 + 100000 * bbOf x).tdiv (kkOf x)) (5000000 * kkOf x) (10000000 * kkOf x) 1, goodS ((-20000000 + 100000 * bbOf x).tdiv (kkOf x)) (1000000 * kkOf x) (10000000 * kkOf x) 0, goodS (Int.tdiv (-12000000) (kkOf x)) (2000000 * kkOf x) (10000000 * kkOf x) 2, goodS (Int.tdiv (-4000000) (kkOf x)) (60000000 * kkOf x) (10000000 * kkOf x) 0]
  else [goodS ((20000000 + 100000 * bbOf x).tdiv (kkOf x)) (5000000 * kkOf x) (10000000 * kkOf x) 1, goodS ((-20000000 + 100000 * bbOf x).tdiv (kkOf x)) (46000000 * kkOf x) (10000000 * kkOf x) 0]
def goodOf (x : GoodD) : List SurfC := (baseOf x ++ [plainS 0 0]).map fun s => ⟨s, []⟩

/-- what Lens gives back -/
def RetGL (L : List SurfC) (w : World) (e : Ending) (w' : World) : Prop :=
  ∃ y f v s k, e = .returned (lensV y f v s k) ∧ LensAt (fun b => w.heap.size ≤ b ∧ b < w'.heap.size) w' y f v s k ∧ validB { y with cf := [] } = true ∧ y.l = L ∧ Below w.heap.size w w'

/-- the surfaces of a good lens in the making -/
structure GLs (w : World) (x : GoodD) (f v : Ptr) (sv : Value) (l : List Surf) (wx : World) : Prop where
  o : OwnR BareR 22 92 (w.heap.size + 2) wx sv l
  d : GoodB wx w.heap.size x f v
  z : wx.heap[w.heap.size + 1]? = some (.cells #[.string emptyS, .int .i64 0, .int .i64 0, .int .i64 0, .int .i64 0, .slice none 0 0, .slice none 0 0, .slice none 0 0, .slice none 0 0] 48 (0, 0))
  b : Below w.heap.size w wx
  ok : ∀ y ∈ l, okC ⟨y, []⟩ = true
  kd : ∀ y ∈ l, y.kind = 1
theorem GLs.go {w : World} {x : GoodD} {f v : Ptr} {sv : Value} {l : List Surf} {wx wy : World} (h : GLs w x f v sv l wx) (hb : Below wx.heap.size wx wy) : GLs w x f v sv l wy :=
  ⟨h.o.go bareOk hb, (hb.block _ (lt_of_block h.d)).trans h.d, (hb.block _ (lt_of_block h.z)).trans h.z, below_chain h.b hb, h.ok, h.kd⟩
theorem GLs.more {w : World} {x : GoodD} {f v : Ptr} {sv : Value} {l l' : List Surf} {wx : World} (h : GLs w x f v sv l wx) (hy : ∀ y ∈ l', okC ⟨y, []⟩ = true) (hk : ∀ y ∈ l', y.kind = 1) {sv' : Value} {wy : World} (ho : OwnR BareR 22 92 (w.heap.size + 2) wy sv' (l ++ l'))
    (hb : ∀ B w0, B ≤ w.heap.size + 2 → Below B w0 wx → Below B w0 wy) : GLs w x f v sv' (l ++ l') wy := by
  have h2 := hb _ _ (Nat.le_refl _) (Below.refl (w.heap.size + 2) wx)
  refine ⟨ho, (h2.block _ (by omega)).trans h.d, (h2.block _ (by omega)).trans h.z, hb _ _ (by omega) h.b, fun q hq => ?_, fun q hq => ?_⟩
  · rcases List.mem_append.1 hq with hq | hq
    · exact h.ok q hq
    · exact hy q hq
  · rcases List.mem_append.1 hq with hq | hq
    · exact h.kd q hq
    · exact hk q hq

set_option maxRecDepth 100000 in
set_option maxHeartbeats 12800000 in
theorem glens_any (x : GoodD) (f v : Ptr) (w : World) (hx : GoodAt (fun b => b < w.heap.size) w x f v) :
    Calls Tryz.prog 23 #[goodV x f v] w (RetGL (goodOf x) w) := by
  have Hx := Lib.hid hx; clear hx
  obtain ⟨e1, e2⟩ := heap_two w (.cells (cellsG x f v).toArray 25) (.cells #[.string emptyS, .int .i64 0, .int .i64 0, .int .i64 0, .int .i64 0, .slice none 0 0, .slice none 0 0, .slice none 0 0, .slice none 0 0] 48)
  have hb := below_two (w := w) (.cells (cellsG x f v).toArray 25) (.cells #[.string emptyS, .int .i64 0, .int .i64 0, .int .i64 0, .int .i64 0, .slice none 0 0, .slice none 0 0, .slice none 0 0, .slice none 0 0] 48)
  have E1 := Lib.hid e1; have E2 := Lib.hid e2; have Hb := Lib.hid hb
  clear e1 e2 hb
  obtain ⟨kk, ekk, hk1, hk4⟩ : ∃ kk : Int, 1 + x.size % 4 = kk ∧ 1 ≤ kk ∧ kk ≤ 4 := ⟨_, rfl, by have := Hx.out.size.1; omega, by omega⟩
  obtain ⟨bb, ebb, hb0, hb1⟩ : ∃ bb : Int, x.bend.tmod 100 = bb ∧ -100 < bb ∧ bb < 100 := tmod_in x.bend 100 (by omega)
  have Ekk := Lib.hid (show kkOf x = kk from ekk); have Ebb := Lib.hid (show bbOf x = bb from ebb)
  go_enter Tryz.func23, Tryz.ntmps23
  go_upto_region 1 with fail
  refine step_world (fun wx => GoodB wx w.heap.size x f v ∧ wx.heap[w.heap.size + 1]? = some (.cells #[.string emptyS, .int .i64 0, .int .i64 0, .int .i64 0, .int .i64 0, .slice none 0 0, .slice none 0 0, .slice none 0 0, .slice none 0 0] 48 (0, 0)) ∧ Below w.heap.size w wx) ⟨E1.out, E2.out, Hb.out⟩ ?_
  clear E1 E2 Hb
  rintro w1 ⟨h1, h2, hb⟩
  have hl1 := lt_of_block h1
  have hl2 := lt_of_block h2
  obtain ⟨c0, c1, c2, c3, c4, c5⟩ := h1.cells
  have hz := Hx.out.size
  unfold u8In at hz
  have hbd := Hx.out.bend
  unfold i8In at hbd
  have H1 := Lib.hid h1; have H2 := Lib.hid h2; have Hb := Lib.hid hb
  clear h1 h2 hb
  go_upto_region 3 with fail
  have hk0 : ¬ kk = 0 := by omega
  obtain ⟨q1, eq1, hq1⟩ : ∃ c : Int, (20000000 + 100000 * bb).tdiv kk = c ∧ (-1000000000 ≤ c ∧ c ≤ 1000000000) := ⟨_, rfl, tdiv_in (by omega)⟩
  obtain ⟨q2, eq2, hq2⟩ : ∃ c : Int, (-20000000 + 100000 * bb).tdiv kk = c ∧ (-1000000000 ≤ c ∧ c ≤ 1000000000) := ⟨_, rfl, tdiv_in (by omega)⟩
  obtain ⟨q3, eq3, hq3⟩ : ∃ c : Int, Int.tdiv (-12000000) kk = c ∧ (-1000000000 ≤ c ∧ c ≤ 1000000000) := ⟨_, rfl, tdiv_in (by omega)⟩
  obtain ⟨q4, eq4, hq4⟩ : ∃ c : Int, Int.tdiv (-4000000) kk = c ∧ (-1000000000 ≤ c ∧ c ≤ 1000000000) := ⟨_, rfl, tdiv_in (by omega)⟩
  have Eq1 := Lib.hid eq1; have Eq2 := Lib.hid eq2; have Eq3 := Lib.hid eq3; have Eq4 := Lib.hid eq4
  have u1 : IntKind.i64.wrap (20000000 + 100000 * bb) = 20000000 + 100000 * bb := IntWalk.i64_in _ (by omega)
  have u2 : IntKind.i64.wrap (-20000000 + 100000 * bb) = -20000000 + 100000 * bb := IntWalk.i64_in _ (by omega)
  have v1 : IntKind.i64.wrap q1 = q1 := IntWalk.i64_in _ (by omega)
  have v2 : IntKind.i64.wrap q2 = q2 := IntWalk.i64_in _ (by omega)
  have v3 : IntKind.i64.wrap q3 = q3 := IntWalk.i64_in _ (by omega)
  have v4 : IntKind.i64.wrap q4 = q4 := IntWalk.i64_in _ (by omega)
  have x1 : IntKind.i64.wrap (5000000 * kk) = 5000000 * kk := IntWalk.i64_in _ (by omega)
  have x2 : IntKind.i64.wrap (10000000 * kk) = 10000000 * kk := IntWalk.i64_in _ (by omega)
  have x3 : IntKind.i64.wrap (46000000 * kk) = 46000000 * kk := IntWalk.i64_in _ (by omega)
  have x4 : IntKind.i64.wrap (2000000 * kk) = 2000000 * kk := IntWalk.i64_in _ (by omega)
  have x5 : IntKind.i64.wrap (60000000 * kk) = 60000000 * kk := IntWalk.i64_in _ (by omega)
  refine wp_region_reads (w.heap.size + 2) [0, 1, 2, 3, 4, 5, 6, 7, 8, 9, 10, 11, 12, 13, 14, 15, 16, 17] 2 (by kernel_rfl) rfl (by kernel_rfl) (by kernel_rfl) (fun _ _ o _ _ h => by cases o <;> exact h) ?_
  iterate 18
    refine wpRd_yield (v := ?_) rfl (by rfl) ?_ ?_
    rotate_left
    · intro y hy
      go_simp
      with_reducible rfl
    try simp only [Act.put, List.setIfInBounds_toArray, List.set_cons_zero, List.set_cons_succ]
  refine wpRd_nil ?_
  refine wpR_oneL (i := 18) (by kernel_rfl) rfl rfl (fun K hK => ?_)
  refine wpList_lit rfl (.slice (some ⟨w1.drew.heap.size, 0, none⟩) 2 2) (.cells ([goodS q1 (5000000 * kk) (10000000 * kk) 1, goodS q2 (46000000 * kk) (10000000 * kk) 0].map (cells22 · none 0 0)).flatten.toArray 92) (by go_simp; rfl) ?_
  refine hK _ _ (bel_alloc (w := w1.drew) (by show w.heap.size + 2 ≤ w1.heap.size; omega)) ?_
  clear hK K
  try simp only [Act.put, List.setIfInBounds_toArray, List.set_cons_zero, List.set_cons_succ]
  have hgb := heap_alloc_new w1.drew (.cells ([goodS q1 (5000000 * kk) (10000000 * kk) 1, goodS q2 (46000000 * kk) (10000000 * kk) 0].map (cells22 · none 0 0)).flatten.toArray 92)
  have hbg : Below w1.heap.size w1 (w1.drew.alloc (.cells ([goodS q1 (5000000 * kk) (10000000 * kk) 1, goodS q2 (46000000 * kk) (10000000 * kk) 0].map (cells22 · none 0 0)).flatten.toArray 92)) := below_al (below_dr (Below.refl _ _))
  have hgz : w1.drew.heap.size = w1.heap.size := rfl
  rw [hgz] at hgb
  refine wpR_one (i := 19) (by kernel_rfl) rfl rfl (fun K hK => ?_)
  go_simp
  refine hK _ _ (Below.refl _ _) ?_
  clear hK K
  refine wpR_end (by kernel_rfl) ?_
  try simp only [Act.put, List.setIfInBounds_toArray, List.set_cons_zero, List.set_cons_succ]
  obtain ⟨g, hgg⟩ : ∃ g, g = w1.heap.size := ⟨_, rfl⟩
  have hgs : w.heap.size + 2 ≤ g := by omega
  have hok1 : okC ⟨goodS q1 (5000000 * kk) (10000000 * kk) 1, []⟩ = true := good_ok hq1 (by omega) (by omega) (by omega) (by omega)
  have hok2 : okC ⟨goodS q2 (46000000 * kk) (10000000 * kk) 0, []⟩ = true := good_ok hq2 (by omega) (by omega) (by omega) (by omega)
  have hok2' : okC ⟨goodS q2 (1000000 * kk) (10000000 * kk) 0, []⟩ = true := good_ok hq2 (by omega) (by omega) (by omega) (by omega)
  have hok3 : okC ⟨goodS q3 (2000000 * kk) (10000000 * kk) 2, []⟩ = true := good_ok hq3 (by omega) (by omega) (by omega) (by omega)
  have hok4 : okC ⟨goodS q4 (60000000 * kk) (10000000 * kk) 0, []⟩ = true := good_ok hq4 (by omega) (by omega) (by omega) (by omega)
  have Hok1 := Lib.hid hok1; have Hok2 := Lib.hid hok2; have Hok2' := Lib.hid hok2'; have Hok3 := Lib.hid hok3; have Hok4 := Lib.hid hok4
  rw [← hgg] at hgb
  have Hgg := Lib.hid hgg; clear hgg
  go_upto_region 4 with fail
  have hgg := Hgg.out
  simp only [← hgg]
  refine step_world (fun wx => GLs w x f v (.slice (some ⟨g, 0, none⟩) 2 2) [goodS q1 (5000000 * kk) (10000000 * kk) 1, goodS q2 (46000000 * kk) (10000000 * kk) 0] wx ∧ wx.heap[g]? = some (.cells ([goodS q1 (5000000 * kk) (10000000 * kk) 1, goodS q2 (46000000 * kk) (10000000 * kk) 0].map (cells22 · none 0 0)).flatten.toArray 92 (0, 0)))
    ⟨⟨own_lit _ hgb hgs (by simp) (by intro s hs; simp only [List.mem_cons, List.not_mem_nil, or_false] at hs; rcases hs with rfl | rfl <;> exact good_glass _ _ _ _), (hbg.block _ hl1).trans H1.out, (hbg.block _ hl2).trans H2.out, below_chain Hb.out hbg, by intro s hs; simp only [List.mem_cons, List.not_mem_nil, or_false] at hs; rcases hs with rfl | rfl; exact Hok1.out; exact Hok2.out, by intro s hs; simp only [List.mem_cons, List.not_mem_nil, or_false] at hs; rcases hs with rfl | rfl <;> rfl⟩, hgb⟩ ?_
  clear Hgg hgb hbg hok1 hok2 hok2' hok3 hok4 H1 H2 Hb hgg hl1 hl2 c0 c1 c2 c3 c4 c5 eq1 eq2 u1 u2 v1 v2 x1 x3 hz hbd hgz
  rintro w3 ⟨hd, hgb⟩
  have hl1 := lt_of_block hd.d
  have c0 := hd.d.cells.1
  have hgl := lt_of_block hgb
  have Hd := Lib.hid hd; have Hgb := Lib.hid hgb
  clear hd hgb
  go_upto_if 39 with fail
  go_cut [5] (fun sv wx => ∃ l : List Surf, 1 ≤ l.length ∧ l.length ≤ 4 ∧ l = baseOf x ∧ GLs w x f v sv l wx)
  case first =>
    cases hdb : x.dbl
    · rw [hdb] at c0
      have Hdb := Lib.hid hdb
      go_wp2
      go_meet
      exact ⟨_, by simp, by simp, (by unfold baseOf; rw [if_neg (by rw [Hdb.out]; decide), Ekk.out, Ebb.out, Eq1.out, Eq2.out]), Hd.out⟩
    · rw [hdb] at c0
      have Hdb := Lib.hid hdb
      have k34 : w3.cell? ⟨g, 34, none⟩ = some (.int .i64 (46000000 * kk)) := (obj_cell Hgb.out 34).trans rfl
      have f34 : w3.frozen? ⟨g, 34, none⟩ = false := by rw [World.frozen?, Hgb.out]; rfl
      have x6 : IntKind.i64.wrap (1000000 * kk) = 1000000 * kk := IntWalk.i64_in _ (by omega)
      go_upto_region 6 with fail
      have hset := obj_setCell Hgb.out 34 (.int .i64 (1000000 * kk))
      have hkk := keptOn_setCells g [.int .i64 (1000000 * kk)] 34 w3
      have hgb : (w3.setCell ⟨g, 34, none⟩ (.int .i64 (1000000 * kk))).heap[g]? = some (.cells ([goodS q1 (5000000 * kk) (10000000 * kk) 1, goodS q2 (1000000 * kk) (10000000 * kk) 0].map (cells22 · none 0 0)).flatten.toArray 92 (0, 0)) := hset
      refine step_world (fun wx => GLs w x f v (.slice (some ⟨g, 0, none⟩) 2 2) [goodS q1 (5000000 * kk) (10000000 * kk) 1, goodS q2 (1000000 * kk) (10000000 * kk) 0] wx)
        ⟨own_lit _ hgb hgs (by simp) (by intro s hs; simp only [List.mem_cons, List.not_mem_nil, or_false] at hs; rcases hs with rfl | rfl <;> exact good_glass _ _ _ _), (hkk _ (by omega)).trans Hd.out.d, (hkk _ (by omega)).trans Hd.out.z, Hd.out.b.setCell (p := ⟨g, 34, none⟩) (by show w.heap.size ≤ g; omega) _, by intro s hs; simp only [List.mem_cons, List.not_mem_nil, or_false] at hs; rcases hs with rfl | rfl; exact Hok1.out; exact Hok2'.out, by intro s hs; simp only [List.mem_cons, List.not_mem_nil, or_false] at hs; rcases hs with rfl | rfl <;> rfl⟩ ?_
      clear hset hkk hgb Hd Hgb k34 f34 c0 hgl hl1 x6
      rintro w4 hd
      have hsz : w.heap.size + 2 ≤ w4.heap.size := lt_of_block hd.z
      have Hd := Lib.hid hd; clear hd
      refine wp_region_reads (w.heap.size + 2) [0, 1, 2, 3, 4, 5, 6, 7, 8, 9, 10, 11, 12, 13, 14] 3 (by kernel_rfl) rfl (by kernel_rfl) (by kernel_rfl) (fun _ _ o _ _ h => by cases o <;> exact h) ?_
      iterate 15
        refine wpRd_yield (v := ?_) rfl (by rfl) ?_ ?_
        rotate_left
        · intro y hy
          go_simp
          with_reducible rfl
        try simp only [Act.put, List.setIfInBounds_toArray, List.set_cons_zero, List.set_cons_succ]
      refine wpRd_nil ?_
      refine wpR_oneL (i := 15) (by kernel_rfl) rfl rfl (fun K hK => ?_)
      refine wpList_lit rfl (.slice (some ⟨w4.drew.heap.size, 0, none⟩) 2 2) (.cells ([goodS q3 (2000000 * kk) (10000000 * kk) 2, goodS q4 (60000000 * kk) (10000000 * kk) 0].map (cells22 · none 0 0)).flatten.toArray 92) (by go_simp; rfl) ?_
      refine hK _ _ (bel_alloc (w := w4.drew) (by show w.heap.size + 2 ≤ w4.heap.size; omega)) ?_
      clear hK K
      try simp only [Act.put, List.setIfInBounds_toArray, List.set_cons_zero, List.set_cons_succ]
      have hgb := heap_alloc_new w4.drew (.cells ([goodS q3 (2000000 * kk) (10000000 * kk) 2, goodS q4 (60000000 * kk) (10000000 * kk) 0].map (cells22 · none 0 0)).flatten.toArray 92)
      have hbg : Below w4.heap.size w4 (w4.drew.alloc (.cells ([goodS q3 (2000000 * kk) (10000000 * kk) 2, goodS q4 (60000000 * kk) (10000000 * kk) 0].map (cells22 · none 0 0)).flatten.toArray 92)) := below_al (below_dr (Below.refl _ _))
      generalize w4.drew.alloc (.cells ([goodS q3 (2000000 * kk) (10000000 * kk) 2, goodS q4 (60000000 * kk) (10000000 * kk) 0].map (cells22 · none 0 0)).flatten.toArray 92) = w5 at *
      have hd5 := Hd.out.go hbg
      refine wpR_oneL (i := 16) (by kernel_rfl) rfl rfl (fun K hK => ?_)
      refine wpList_append_bare (m := 2) rfl (.tmp 45) (.tmp 60) rfl (w.heap.size + 2) _ _ [goodS q3 (2000000 * kk) (10000000 * kk) 2, goodS q4 (60000000 * kk) (10000000 * kk) 0] rfl (by omega) rfl hd5.o rfl hgb (by intro s hs; simp only [List.mem_cons, List.not_mem_nil, or_false] at hs; rcases hs with rfl | rfl <;> exact good_glass _ _ _ _) (by simp) (lt_of_block hd5.z) ?_
      intro g6 cap6 w6 ho6 hb6
      refine hK _ _ (hb6 _ _ (Nat.le_refl _) (Below.refl _ _)) ?_
      clear hK K
      try simp only [Act.put, List.setIfInBounds_toArray, List.set_cons_zero, List.set_cons_succ]
      have Hd6 := Lib.hid (hd5.more (by intro s hs; simp only [List.mem_cons, List.not_mem_nil, or_false] at hs; rcases hs with rfl | rfl; exact Hok3.out; exact Hok4.out) (by intro s hs; simp only [List.mem_cons, List.not_mem_nil, or_false] at hs; rcases hs with rfl | rfl <;> rfl) ho6 hb6)
      clear ho6 hb6 hd5 hgb hbg Hd
      refine wpR_one (i := 17) (by kernel_rfl) rfl rfl (fun K hK => ?_)
      go_simp
      refine hK _ _ (Below.refl _ _) ?_
      clear hK K
      refine wpR_end (by kernel_rfl) ?_
      try simp only [Act.put, List.setIfInBounds_toArray, List.set_cons_zero, List.set_cons_succ]
      go_wp2
      go_meet
      exact ⟨_, by simp, by simp, (by unfold baseOf; rw [if_pos Hdb.out, Ekk.out, Ebb.out, Eq1.out, Eq2.out, Eq3.out, Eq4.out]; rfl), Hd6.out⟩
  case rest =>
    obtain ⟨l, h1, h4, hbase, hd⟩ := hcut
    have Hbase := Lib.hid hbase; clear hbase
    clear Hd Hgb hgl c0 hl1 Hok1 Hok2 Hok2' Hok3 Hok4 eq3 eq4 hq1 hq2 hq3 hq4 v3 v4 x2 x4 x5 hgs
    obtain ⟨g, oc, rfl, hg1, hg2⟩ : ∃ g oc, u5 = .slice (some ⟨g, 0, none⟩) l.length oc ∧ w.heap.size + 2 ≤ g ∧ g < wc.heap.size := by
      rcases hd.o.form with ⟨_, e2⟩ | ⟨g, cap, e, q1, q2, _⟩
      · rw [e2] at h1; cases h1
      · exact ⟨g, cap, e, q1, q2⟩
    obtain ⟨hst0, hst1⟩ := Hx.out.stop
    obtain ⟨-, -, -, c3, -, -⟩ := hd.d.cells
    have hlt := lt_of_block hd.d
    have hzl := lt_of_block hd.z
    have hgl1 : ∀ s ∈ [plainS 0 0], s.glass.size ≤ 9223372036854775807 := by intro s hs; obtain rfl := List.mem_singleton.1 hs; exact glass_size 0
    have Hd := Lib.hid hd; have Hg1 := Lib.hid hgl1; clear hd hgl1
    go_upto_region 9 with (refine wpList_append_bare (m := 1) rfl (.tmp 68) (.tmp 70) rfl (w.heap.size + 2) _ l [plainS 0 0] rfl (by omega) rfl (Hd.out.o.go bareOk ((Below.refl _ _).alloc (Nat.le_refl _) _)) rfl (heap_alloc_new _ _) Hg1.out (by omega) (by simp; omega) ?_; intro g6 cap6 w6 ho6 hb6; have Ho6 := Lib.hid ho6; have Hb6 := Lib.hid hb6; clear ho6 hb6)
    refine step_world (GLs w x f v (.slice (some ⟨g6, 0, none⟩) (l.length + 1) cap6) (l ++ [plainS 0 0])) ((Hd.out.go ((Below.refl _ _).alloc (Nat.le_refl _) _)).more (l' := [plainS 0 0]) (by intro s hs; obtain rfl := List.mem_singleton.1 hs; exact plain_ok (by omega) (by omega)) (by intro s hs; obtain rfl := List.mem_singleton.1 hs; rfl) Ho6.out Hb6.out) ?_
    clear Ho6 Hb6 c3 hlt hzl
    have Hok := Lib.hid Hd.out.ok; have Hkd := Lib.hid Hd.out.kd
    clear Hd
    rintro w7 hd
    have hlt := lt_of_block hd.d
    have hzl := lt_of_block hd.z
    obtain ⟨-, -, -, -, c4, c5⟩ := hd.d.cells
    have hs0 := heap_alloc_new w7 (.cells (cellsDS drs0 none 0 0).toArray 126)
    have hb0 := (Below.refl w7.heap.size w7).alloc (Nat.le_refl _) (.cells (cellsDS drs0 none 0 0).toArray 126)
    have hs1 := DrLB.new (w7.alloc (.cells (cellsDS drs0 none 0 0).toArray 126)) (drl0 x.fields x.waves) ⟨some ⟨w7.heap.size, 0, none⟩, 1, 1⟩ f v ⟨none, 0, 0⟩
    have hb1' := (Below.refl w7.heap.size _).alloc hb0.size (.cells (cellsDL (drl0 x.fields x.waves) ⟨some ⟨w7.heap.size, 0, none⟩, 1, 1⟩ f v ⟨none, 0, 0⟩).toArray 31)
    rw [size_alloc] at hs1
    have Hs0 := Lib.hid ((Below.heap_alloc (w7.alloc (.cells (cellsDS drs0 none 0 0).toArray 126)) (.cells (cellsDL (drl0 x.fields x.waves) ⟨some ⟨w7.heap.size, 0, none⟩, 1, 1⟩ f v ⟨none, 0, 0⟩).toArray 31) _ (lt_of_block hs0)).trans hs0)
    have Hs1 := Lib.hid hs1; have Hb1 := Lib.hid (hb0.trans hb1')
    have Hd := Lib.hid hd
    clear hd hs0 hb0 hs1 hb1'
    go_upto_region 10 with fail
    refine step_world (fun wx => wx.heap[w7.heap.size]? = some (.cells (cellsDS drs0 none 0 0).toArray 126 (0, 0)) ∧ DrLB wx (w7.heap.size + 1) (drl0 x.fields x.waves) ⟨some ⟨w7.heap.size, 0, none⟩, 1, 1⟩ f v ⟨none, 0, 0⟩ ∧ Below w7.heap.size w7 wx) ⟨Hs0.out, Hs1.out, Hb1.out⟩ ?_
    clear Hs0 Hs1 Hb1 c4 c5
    rintro w8 ⟨hs0, hs1, hb8⟩
    have hx8 := Hx.out.kept (keptOn_below (below_chain Hd.out.b hb8)) (fun b h => Nat.lt_of_lt_of_le h (Nat.le_trans Hd.out.b.size hb8.size))
    have ha8 := drl0_at (S := fun b => b < w8.heap.size) hs0 (lt_of_block hs0) hx8.f hx8.v
    have Hd8 := Lib.hid (Hd.out.go hb8); have Hs1 := Lib.hid hs1; have Ha8 := Lib.hid ha8
    have hs8 : w.heap.size + 1 < w8.heap.size := lt_of_block Hd8.out.z
    clear hs0 hs1 hb8 hx8 ha8 Hd hlt hzl
    go_upto_region 11 with (first
      | (refine wpL_load_drl Hs1.out.range rfl (.tmp 7) rfl rfl ?_)
      | (go_at_call 22; refine (dlens_any (drl0 x.fields x.waves) _ f v _ _ Ha8.out).mono ?_; rintro e w9 ⟨y, fy, vy, sy, ky, rfl, hla, hval, -, hdist, hpup, hb9⟩; have Hd9 := Lib.hid (Hd8.out.go hb9); have Hla := Lib.hid (hla.kept (T := fun b => w.heap.size + 1 < b ∧ b < w9.heap.size) (KeptOn.refl _ _) (fun b h => ⟨Nat.lt_of_lt_of_le hs8 h.1, h.2⟩)); have Hval := Lib.hid hval; have Hdist := Lib.hid hdist; have Hpup := Lib.hid hpup; clear hla hval hdist hpup hb9)
      | (refine wpL_store_lens y fy vy sy ky (heap_alloc_new w9 _) rfl rfl (.tmp 8) (.tmp 80) rfl rfl rfl ?_; intro w10 h10 e10; have H10 := Lib.hid h10; have E10 := Lib.hid e10; clear h10 e10))
    have hk10 : KeptOn (fun b => b < w9.heap.size) w9 w10 := by
      rw [E10.out]
      intro b hb
      exact (keptOn_setCells w9.heap.size _ 0 _ b (Nat.ne_of_lt hb)).trans (Below.heap_alloc _ _ _ hb)
    have hs10 : w10.heap.size = w9.heap.size + 1 := by rw [E10.out, size_setCells]; simp
    have hb10 : Below w9.heap.size w9 w10 := by rw [E10.out]; exact below_setCells (Nat.le_refl _) _ _ (below_al (Below.refl _ _))
    refine step_world (fun wx => GLs w x f v (.slice (some ⟨g6, 0, none⟩) (l.length + 1) cap6) (l ++ [plainS 0 0]) wx ∧ BenchB wx w9.heap.size 48 y fy vy sy ky ∧ LensAt (fun b => w.heap.size + 1 < b ∧ b < w9.heap.size) wx y fy vy sy ky) ⟨Hd9.out.go hb10, H10.out, Hla.out.kept (hk10.mono (fun b h => h.2)) (fun b h => h)⟩ ?_
    clear Hd8 Hd9 Hs1 Ha8 Hla H10 E10 hk10 hs10 hb10
    rintro w11 ⟨hd, h9, hla⟩
    obtain ⟨-, -, c2, -, -, c5, c6, -, -⟩ := h9.cells
    have hp : y.pupil = 4100000 := Hpup.out
    rw [hp] at c2
    have h9l := h9.lt
    have Hd := Lib.hid hd; have Hla := Lib.hid hla
    clear hd h9 hla hp
    go_wp2_with (refine wpL_store_lens ⟨⟨#[103, 111, 111, 100]⟩, 0, 4100000 * kk, x.stop % (l.length : Int), 0, y.fs, y.ws, (l ++ [plainS 0 0]).map fun s => ⟨s, []⟩, []⟩ fy vy ⟨some ⟨g6, 0, none⟩, l.length + 1, cap6⟩ ⟨none, 0, 0⟩ Hd.out.z rfl rfl (.tmp 2) (.tmp 91) rfl rfl rfl ?_; intro w12 h12 e12; have H12 := Lib.hid h12; have E12 := Lib.hid e12; clear h12 e12)
    refine bodyPost_ret (ret_lens rfl rfl H12.out) rfl ?_
    have hk12 : KeptOn (fun b => b ≠ w.heap.size + 1) w11 w12 := by rw [E12.out]; exact keptOn_setCells _ _ _ _
    have hs12 : w12.heap.size = w11.heap.size := by rw [E12.out, size_setCells]
    have hkl : ∀ b, (w.heap.size + 1 < b ∧ b < w9.heap.size) → (w.heap.size ≤ b ∧ b < w12.heap.size) := fun b h => ⟨by omega, by rw [hs12]; omega⟩
    have hl2 := Hla.out.kept (hk12.mono (fun b h => by omega)) hkl
    refine ⟨_, _, _, _, _, rfl, ⟨hl2.fs, hl2.ws, ?_, RR.nil _ _ _ _ _ _, hl2.fn, hl2.wn, ?_, by simp, hl2.fc, hl2.wc, (by decide : (ByteArray.mk #[103, 111, 111, 100]).size ≤ 9223372036854775807)⟩, ?_, (by show _ = goodOf x; unfold goodOf; rw [← Hbase.out]), ?_⟩
    · have ho := OwnR.rr2 surfOk Hd.out.o.bare
      exact ho.kept surfOk (hk12.mono (fun b h => by omega)) (fun b h => ⟨by have := h.1; omega, by rw [hs12]; exact h.2⟩)
    · show l.length + 1 ≤ 1000000; omega
    · have hst0' := Int.emod_nonneg x.stop (by omega : (l.length : Int) ≠ 0)
      have hst1' := Int.emod_lt_of_pos x.stop (by omega : (0 : Int) < (l.length : Int))
      have hfin := gl_valid (y := y) (_fs := []) (_ws := []) Hval.out Hdist.out ⟨hk1, hk4⟩ h1 (by omega) Hok.out Hkd.out hst0' hst1'
      exact hfin
    · rw [E12.out]; exact below_setCells (Nat.le_succ _) _ _ Hd.out.b

end Go.Proofs.YthommhfppeonpaaGreatDoor
