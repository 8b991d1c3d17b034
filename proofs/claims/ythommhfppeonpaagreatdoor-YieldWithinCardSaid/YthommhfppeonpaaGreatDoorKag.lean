/-
  DERIVED. Several texts in one: DrG, YrD.
-/
import Derived.Test.YthommhfppeonpaaGreatDoorJDrC
import Derived.Test.YthommhfppeonpaaGreatDoorKac
import Derived.Test.YthommhfppeonpaaGreatDoorJDrF
import Derived.Test.YthommhfppeonpaaGreatDoorJLensV
import Derived.Test.YthommhfppeonpaaGreatDoorKae
import Derived.Test.YthommhfppeonpaaGreatDoorJYrB
import Derived.Test.YthommhfppeonpaaGreatDoorJYrC
namespace Go.Proofs.YthommhfppeonpaaGreatDoor
open Go.RowKit

theorem ok_thick {s : Surf} {zs : List Int} {n : Nat} (hz : zs.length = n * 3) (h : okS s zs n = true) : -1000000000 ≤ s.thick ∧ s.thick ≤ 1000000000 := by
  rw [← right_eq s zs n hz] at h
  unfold rightB smallB' smallC outB at h
  simp at h
  omega

/-- a plain surface -/
def plainS (c t : Int) : Surf := { surf0 with kind := 1, curv := c, thick := t }
theorem plain_ok {c t : Int} (hc : -1000000000 ≤ c ∧ c ≤ 1000000000) (ht : -1000000000 ≤ t ∧ t ≤ 1000000000) : okC ⟨plainS c t, []⟩ = true := by
  unfold okC; simp only [List.length_nil, Nat.zero_div]; show okS (plainS c t) [] 0 = true
  refine ok_of rfl (by simp) rfl ?_ ?_
  · constructor <;> first | exact glass_ok 0 (by omega) | (simp only [plainS, surf0]; omega) | (simp [plainS, surf0]; done) | (simp [plainS, surf0]; omega)
  · simp [kindB, plainX, straightB, plainS, surf0]

/-- surfaces in the making -/
structure DLs (w : World) (x : DrL) (s f v k : Ptr) (sv : Value) (l : List SurfC) (wx : World) : Prop where
  o : OwnR SurfR 22 92 (w.heap.size + 2) wx sv l
  d : DrLB wx w.heap.size x s f v k
  z : wx.heap[w.heap.size + 1]? = some (.cells #[.string emptyS, .int .i64 0, .int .i64 0, .int .i64 0, .int .i64 0, .slice none 0 0, .slice none 0 0, .slice none 0 0, .slice none 0 0] 48 (0, 0))
  b : Below w.heap.size w wx
  ok : ∀ y ∈ l, okC y = true

theorem DLs.go {w : World} {x : DrL} {s f v k : Ptr} {sv : Value} {l : List SurfC} {wx wy : World} (h : DLs w x s f v k sv l wx) (hb : Below wx.heap.size wx wy) : DLs w x s f v k sv l wy :=
  ⟨h.o.go surfOk hb, h.d.go hb, (hb.block _ (lt_of_block h.z)).trans h.z, below_chain h.b hb, h.ok⟩

/-- behind an append -/
theorem DLs.more {w : World} {x : DrL} {s f v k : Ptr} {sv : Value} {l : List SurfC} {y : SurfC} {wx : World} (h : DLs w x s f v k sv l wx) (hy : okC y = true) {sv' : Value} {wy : World} (ho : OwnR SurfR 22 92 (w.heap.size + 2) wy sv' (l ++ [y]))
    (hb : ∀ B w0, B ≤ w.heap.size + 2 → Below B w0 wx → Below B w0 wy) : DLs w x s f v k sv' (l ++ [y]) wy := by
  have h2 := hb _ _ (Nat.le_refl _) (Below.refl (w.heap.size + 2) wx)
  refine ⟨ho, (h2.block _ (by omega)).trans h.d, (h2.block _ (by omega)).trans h.z, hb _ _ (by omega) h.b, fun q hq => ?_⟩
  rcases List.mem_append.1 hq with hq | hq
  · exact h.ok q hq
  · obtain rfl := List.mem_singleton.1 hq; exact hy

theorem DLs.own {w : World} {x : DrL} {s f v k : Ptr} {sv : Value} {l : List SurfC} {wx : World} (h : DLs w x s f v k sv l wx) : w.heap.size + 2 ≤ wx.heap.size ∨ sv = .slice none 0 0 := by
  rcases h.o.form with ⟨e, _⟩ | ⟨g, cap, e, h1, h2, _⟩
  · exact Or.inr e
  · exact Or.inl (by omega)
theorem DLs.size {w : World} {x : DrL} {s f v k : Ptr} {sv : Value} {l : List SurfC} {wx : World} (h : DLs w x s f v k sv l wx) : w.heap.size + 2 ≤ wx.heap.size := lt_of_block h.z

/-- what the surfaces of a draft are -/
theorem dl_surfs {l : List SurfC} {c : Int} {st : Int} (h0 : 1 ≤ l.length) (h5 : l.length ≤ 5) (hok : ∀ y ∈ l, okC y = true) (hc : -1000000000 ≤ c ∧ c ≤ 1000000000) (hs0 : 0 ≤ st) (hs1 : st < l.length) (hk : kindAt l st ≠ 3) : surfacesB st (l ++ [⟨plainS c 0, []⟩]) = true := by
  unfold surfacesB
  have h1 : badB (l ++ [⟨plainS c 0, []⟩]) = false := by
    unfold badB
    rw [List.any_eq_false]
    intro y hy
    rcases List.mem_append.1 hy with hy | hy
    · rw [hok y hy]; simp
    · obtain rfl := List.mem_singleton.1 hy
      rw [plain_ok hc (by omega)]; simp
  have h2 : lastImg (l ++ [⟨plainS c 0, []⟩]) = true := by
    unfold lastImg
    rw [List.length_append, List.length_singleton, Nat.add_sub_cancel, List.getElem?_append_right (Nat.le_refl _), Nat.sub_self]
    have he := (isEmpty_eq emptyS).2 rfl
    show imageB (plainS c 0) _ = true
    simp [imageB, plainS, surf0, he]
  have h3 : kindAt (l ++ [⟨plainS c 0, []⟩]) st = kindAt l st := by
    unfold kindAt
    rw [List.getElem?_append_left (by omega)]
  rw [h1, h2, h3]
  simp [bt, hk]
  omega

theorem nameB_draft : nameB ⟨#[100, 114, 97, 102, 116]⟩ = true := by decide +kernel

/-- a drafted lens is valid but for its configurations -/
theorem dl_valid {y : LensD} (hn : nameB y.nm = true) (hd : 0 ≤ y.dist ∧ y.dist ≤ 1000000000) (hp : 1 ≤ y.pupil ∧ y.pupil ≤ 1000000000) (hf : fieldsB y.dist y.fs (y.fs.length / 2) = true) (hw : wavesB y.prim y.ws (y.ws.length / 2) = true) (hs : surfacesB y.stop y.l = true) : validB { y with cf := [] } = true := by
  unfold validB
  have h1 : sizesB y.dist y.pupil = true := by unfold sizesB bt; simp; omega
  have h5 : configsB y.l [] = true := by rfl
  simp [List.range_succ, validN, hn, h1, hf, hw, hs, h5]

/-! ### the surfaces of a draft, as a function -/
def preOf (x : DrL) : List SurfC := (x.surfs.take 5).map surfOf
def firstOf (x : DrL) : List SurfC := if (preOf x).length = 0 then [⟨plainS 0 10000000, []⟩] else preOf x
def thickAt (l : List SurfC) (i : Nat) : Int := match l[i]? with
  | some y => y.s.thick
  | none => 0
def stopOf (x : DrL) : Nat := (x.stop % ((firstOf x).length : Int)).toNat
def midOf (x : DrL) : List SurfC := if kindAt (firstOf x) (stopOf x) = 3 then (firstOf x).set (stopOf x) ⟨plainS 0 (thickAt (firstOf x) (stopOf x)), []⟩ else firstOf x
def listOf (x : DrL) : List SurfC := midOf x ++ [⟨plainS (1000 * x.image) 0, []⟩]

/-- what Lens gives back -/
def RetDL (x : DrL) (w : World) (e : Ending) (w' : World) : Prop :=
  ∃ y f v s k, e = .returned (lensV y f v s k) ∧ LensAt (fun b => w.heap.size ≤ b ∧ b < w'.heap.size) w' y f v s k ∧ validB { y with cf := [] } = true ∧ y.l = listOf x ∧ y.dist = farN x ∧ y.pupil = 100000 * (1 + x.pupil) ∧ Below w.heap.size w w'

theorem ret_lens {fn : Func} {p : Tmp} {tmps : Array Value} {w : World} {g : Nat} {x : LensD} {f v s k : Ptr} (h : fn.results = #[.cell p 48]) (hp : tmps.getD p undef = .pointer (some ⟨g, 0, none⟩)) (hs : BenchB w g 48 x f v s k) :
    (results fn tmps).run Tryz.prog w = .ok (lensV x f v s k) w :=
  results_cell_row h tmps w g 48 _ (0, 0) _ hp hs Tryz.underlying48 rfl Tryz.infoLens

theorem drl_load {P : Program} {op : Oper} {ac : Act} {y : World} {b : Nat} {x : DrL} {s f v k : Ptr} {d : TypeDesc} (h : DrLB y b x s f v k) (hu : P.underlying 31 = some d) (hd : d.isRow = true) (hi : (P.info? 31).map (·.size) = some 9) (z : Operand) (ho : op.op = .load 31 z)
    (hx : ac.eval z = .pointer (some ⟨b, 0, none⟩)) : (execOp ac.eval op).run P y = .ok (.value (drlV x s f v k)) y := by
  unfold execOp
  simp only [ho, hx, Instr.loadAt, Instr.sureAddr, Sem.run_bind, Sem.run_pure, Result.andThen_ok, run_loadVar_mid y b 0 31 (cellsDL x s f v k) d h.range hu hd hi]
  rfl
theorem wpRd_load_drl {ops : Array Oper} {Q : Exit → Act → World → Prop} {B i m : Nat} {rest : List Nat} {op : Oper} {listed : Array Bool} {ac : Act} {w : World} (hi : ops.toList[i]? = some op)
    (hw : Region.wanted op (yielded ops ac.tmps) = true) {b : Nat} {x : DrL} {s f v k : Ptr} (h : ∀ y, Below B w y → DrLB y b x s f v k) (z : Operand) (ho : op.op = .load 31 z)
    (hx : ac.eval z = .pointer (some ⟨b, 0, none⟩)) (hk : wpRd B Tryz.prog ops Q rest m (listed.setIfInBounds i true) (ac.put op.dst (drlV x s f v k)) w) : wpRd B Tryz.prog ops Q (i :: rest) m listed ac w :=
  wpRd_yield hi hw (fun y hy => drl_load (h y hy) Tryz.underlying31 rfl Tryz.infoDrL z ho hx) hk

end Go.Proofs.YthommhfppeonpaaGreatDoor

namespace Go.Proofs.YthommhfppeonpaaGreatDoor
open Go.RowKit

set_option maxRecDepth 100000 in
set_option maxHeartbeats 3200000 in
theorem rySample_any (x : LensD) (f v s k : Ptr) (ss : List Int) (sa : Option Addr) (n sc : Nat) (st : Int) (w : World) (hx : LensAt (fun b => b < w.heap.size) w x f v s k) (hs : IR w.heap.size w 4 sa n sc ss) (hn : n ≤ 1000000) :
    Calls Tryz.prog 14 #[lensV x f v s k, .slice sa n sc, .int .u64 st] w (RetYS w x ss n st) := by
  have Hx := Lib.hid hx; have Hs := Lib.hid hs
  clear hx hs
  obtain ⟨e1, e2⟩ := heap_two w (.cells (cells9 x f v s k).toArray 48) (.cells #[.string emptyS, .int .i64 0, .int .i64 0, .int .i64 0, .int .i64 0, .slice none 0 0, .slice none 0 0, .slice none 0 0, .slice none 0 0] 48)
  have hb := below_two (w := w) (.cells (cells9 x f v s k).toArray 48) (.cells #[.string emptyS, .int .i64 0, .int .i64 0, .int .i64 0, .int .i64 0, .slice none 0 0, .slice none 0 0, .slice none 0 0, .slice none 0 0] 48)
  have E1 := Lib.hid e1; have E2 := Lib.hid e2; have Hb := Lib.hid hb
  clear e1 e2 hb
  unfold lensV
  go_enter Tryz.func14, Tryz.ntmps14
  go_upto_region 1 with fail
  refine step_world (fun wx => BenchB wx w.heap.size 48 x f v s k ∧ wx.heap[w.heap.size + 1]? = some (.cells #[.string emptyS, .int .i64 0, .int .i64 0, .int .i64 0, .int .i64 0, .slice none 0 0, .slice none 0 0, .slice none 0 0, .slice none 0 0] 48 (0, 0)) ∧ Below w.heap.size w wx) ⟨E1.out, E2.out, Hb.out⟩ ?_
  clear E1 E2 Hb
  rintro w1 ⟨h1, h2, hb⟩
  have hl2 := lt_of_block h2
  have H1 := Lib.hid h1; have H2 := Lib.hid h2; have Hb := Lib.hid hb
  clear h1 h2 hb
  go_upto_region 2 with (first
    | (refine wpL_load_lens H1.out rfl (.tmp 3) rfl rfl ?_)
    | (go_at_call 12; refine (rycheck_any x f v s k ss sa n sc _ (Hx.out.go Hb.out) (Hs.out.go Hb.out) hn).mono ?_; rintro e w2 ⟨he, hb2⟩; subst he; have L1 := Lib.hid (H1.out.go hb2); have L2 := Lib.hid ((hb2.block _ hl2).trans H2.out); have Hb2 := Lib.hid (below_chain Hb.out hb2); have hl22 := Nat.lt_of_lt_of_le hl2 hb2.size; clear hb2))
  by_cases hc : ycheckE x ss n = 0
  · obtain ⟨h12, hin, hhas⟩ := ycheck_ok hc
    have Hc := Lib.hid hc; have Hin := Lib.hid hin; have Hhas := Lib.hid hhas
    have hcb : (ycheckE x ss n != 0) = false := by rw [hc]; rfl
    clear hc hin hhas
    generalize hce : ycheckE x ss n = ce at *
    have Hce := Lib.hid hce; clear hce
    go_upto_region 4 with fail
    go_wp2_with (refine wpL_load_lens L1.out rfl (.tmp 3) rfl rfl ?_)
    refine (rysample_any (fun b => b < w.heap.size) x f v s k ss sa n sc st _ (fun b h => Nat.lt_of_lt_of_le h Hb2.out.size) (Hx.out.kept (keptOn_below Hb2.out) (fun b h => h)) (Hs.out.go Hb2.out) h12 Hin.out Hhas.out).mono ?_
    rintro e w3 ⟨hb3, ⟨y, f', v', s', k', hy, rfl, hl⟩ | ⟨er, hy, hne, rfl⟩⟩
    · have M2 := Lib.hid ((hb3.block _ hl22).trans L2.out)
      have Hb3 := Lib.hid (below_chain Hb2.out hb3); have Hy := Lib.hid hy
      have Hl := Lib.hid hl; have H22 := hl22
      clear hb3 hy hl L1 L2
      go_wp2_with (refine wpL_store_lens y f' v' s' k' M2.out rfl rfl (.tmp 6) (.tmp 21) rfl rfl rfl ?_; intro w4 h4 e4; have H4 := Lib.hid h4; have He4 := Lib.hid e4; clear h4 e4 M2)
      refine bodyPost_ret (ret_lens_tmp2 rfl rfl rfl rfl H4.out) rfl ?_
      have hk4 : KeptOn (fun b => b ≠ w.heap.size + 1) w3 w4 := by rw [He4.out]; exact keptOn_setCells _ _ _ _
      have hs4 : w4.heap.size = w3.heap.size := by rw [He4.out, size_setCells]
      refine ⟨by rw [He4.out]; exact below_setCells (Nat.le_succ _) _ _ Hb3.out, Or.inr (Or.inl ⟨by rw [Hce.out]; exact Hc.out, y, f', v', s', k', Hy.out, rfl, Hl.out.kept (hk4.mono (fun b h => by omega)) (fun b h => by rw [hs4]; exact h.2)⟩)⟩
    · have M2 := Lib.hid ((hb3.block _ hl22).trans L2.out)
      have Hb3 := Lib.hid (below_chain Hb2.out hb3); have Hy := Lib.hid hy; have Hne := Lib.hid hne
      clear hb3 hy hne L1 L2
      go_wp2_with (refine wpL_store_lens lens0 ptr0 ptr0 ptr0 ptr0 M2.out rfl rfl (.tmp 6) (.tmp 21) rfl rfl rfl ?_; intro w4 h4 e4; have H4 := Lib.hid h4; have He4 := Lib.hid e4; clear h4 e4 M2)
      refine bodyPost_ret (ret_lens_tmp2 rfl rfl rfl rfl H4.out) rfl ?_
      refine ⟨by rw [He4.out]; exact below_setCells (Nat.le_succ _) _ _ Hb3.out, Or.inr (Or.inr ⟨by rw [Hce.out]; exact Hc.out, er, Hy.out, Hne.out, rfl⟩)⟩
  · have hne : (ycheckE x ss n != 0) = true := by simpa using hc
    have Hc := Lib.hid hc
    generalize hce : ycheckE x ss n = ce at *
    have Hce := Lib.hid hce
    clear hc hce
    go_wp2_with (refine wpL_store_lens lens0 ptr0 ptr0 ptr0 ptr0 L2.out rfl rfl _ _ rfl rfl rfl ?_; intro w3 h3 e3; have H3 := Lib.hid h3; have He3 := Lib.hid e3; clear h3 e3 L2)
    refine bodyPost_ret (ret_lens_tmp2 rfl rfl rfl rfl H3.out) rfl ?_
    refine ⟨by rw [He3.out]; exact below_setCells (Nat.le_succ _) _ _ Hb2.out, Or.inl ⟨by rw [Hce.out]; exact Hc.out, by rw [Hce.out]; rfl⟩⟩

end Go.Proofs.YthommhfppeonpaaGreatDoor
