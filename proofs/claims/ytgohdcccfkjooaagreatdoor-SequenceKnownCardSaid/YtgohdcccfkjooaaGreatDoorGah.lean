/-
  DERIVED. Several texts in one: LensW, LzB, RlN, SqA, SqC, SqD, SqE, SqF, SqG, SqH, SqI, SqJ.
-/
import Derived.Test.YtgohdcccfkjooaaGreatDoorHLensV
import Derived.Test.YtgohdcccfkjooaaGreatDoorGaf
import Derived.Test.YtgohdcccfkjooaaGreatDoorGad
import Derived.Test.YtgohdcccfkjooaaGreatDoorGag
import Derived.Test.YtgohdcccfkjooaaGreatDoorGaa
import Derived.Test.YtgohdcccfkjooaaGreatDoorGae
import Derived.MapKept
import Derived.Test.YtgohdcccfkjooaaGreatDoorGab
import Derived.RangeFuncNested
import Derived.RangeFuncBound
import Derived.RangeFuncCalls
import Derived.RangeFuncLeaves
import Derived.RangeFuncSeq
import Derived.OwnWalkIn
import Derived.TacticsInMore
import Derived.LoopNIn
import Derived.LoopIn
import Derived.DefersIn
import Derived.RecoverIn
namespace Go.Proofs.YtgohdcccfkjooaaGreatDoor
open Go.RowKit

set_option maxRecDepth 100000 in
set_option maxHeartbeats 3200000 in
theorem valid_any (x : LensD) (f v s k : Ptr) (g : Nat) (T : TypeId) (w : World) (hg : BenchB w g T x f v s k) (hx : LensAt (fun b => b < w.heap.size) w x f v s k) (hP : Places w.heap.size w) :
    Calls Tryz.prog 79 #[.pointer (some ⟨g, 0, none⟩)] w (RetB w (.bool (validB x))) := by
  have Hg := Lib.hid hg; have Hx := Lib.hid hx; have HP := Lib.hid hP
  clear hg hx hP
  obtain ⟨e1, e2⟩ := heap_two w (.cells #[.pointer (some ⟨g, 0, none⟩)] 215) (.cells (fl6 g w.heap.size).toArray 47)
  have hb := below_two (w := w) (.cells #[.pointer (some ⟨g, 0, none⟩)] 215) (.cells (fl6 g w.heap.size).toArray 47)
  have E1 := Lib.hid e1; have E2 := Lib.hid e2; have Hb := Lib.hid hb
  clear e1 e2 hb
  go_enter Tryz.func79, Tryz.ntmps79
  go_wp2_with fail
  refine (all_any x f v s k g w.heap.size (w.heap.size + 1) 6 T 47 _ (Hg.out.go Hb.out) (Hx.out.go Hb.out) ((obj_cell E1.out 0).trans rfl) (by simp <;> omega) (HP.out.go Hb.out) E2.out (by omega)).mono ?_
  rintro e w2 ⟨he, hb2⟩
  subst he
  go_wp2
  go_ret
  exact ⟨rfl, below_chain Hb.out hb2⟩

/-- a lens as an argument -/
def lensV (x : LensD) (f v s k : Ptr) : Value := .agg #[.string x.nm, .int .i64 x.dist, .int .i64 x.pupil, .int .i64 x.stop, .int .i64 x.prim, .slice f.a f.n f.c, .slice v.a v.n v.c, .slice s.a s.n s.c, .slice k.a k.n k.c]

set_option maxRecDepth 100000 in
set_option maxHeartbeats 3200000 in
theorem lcheck_any (x : LensD) (f v s k : Ptr) (w : World) (hx : LensAt (fun b => b < w.heap.size) w x f v s k) (hP : Places w.heap.size w) :
    Calls Tryz.prog 40 #[lensV x f v s k] w (RetB w (err (validB x) 120)) := by
  have Hx := Lib.hid hx; have HP := Lib.hid hP
  clear hx hP
  obtain ⟨e1, e2⟩ := heap_two w (.cells (cells9 x f v s k).toArray 37) (.cells (cells9 x f v s k).toArray 171)
  have hb := below_two (w := w) (.cells (cells9 x f v s k).toArray 37) (.cells (cells9 x f v s k).toArray 171)
  have E2 := Lib.hid e2; have Hb := Lib.hid hb
  clear e1 e2 hb
  unfold lensV
  go_enter Tryz.func40, Tryz.ntmps40
  cases hv : validB x
  all_goals
    have Hv := Lib.hid hv; clear hv
    go_wp2_with fail
    refine (valid_any x f v s k (w.heap.size + 1) 171 _ E2.out (Hx.out.go Hb.out) (HP.out.go Hb.out)).mono ?_
    rintro e w2 ⟨he, hb2⟩
    rw [Hv.out] at he
    subst he
    go_wp2
    go_ret
    exact ⟨rfl, below_chain Hb.out hb2⟩

end Go.Proofs.YtgohdcccfkjooaaGreatDoor

namespace Go.Proofs.YtgohdcccfkjooaaGreatDoor
open Go.RowKit

theorem Tryz.infoLens : (Tryz.prog.info? 37).map (·.size) = some 9 := by kernel_rfl

/-- a lens is stored -/
theorem wpL_store_lens {ops : Array Oper} {rest : List Oper} {op : Oper} {ac : Act} {w : World} {Q : Exit → Act → World → Prop} {g : Nat} {cs : Array Value} (x : LensD) (f v s k : Ptr) (h : w.heap[g]? = some (.cells cs 37 (0, 0))) (hsz : cs.size = 9) (hgd : op.guard = none) (y z : Operand) (ho : op.op = .store 37 y z)
    (hx : ac.eval y = .pointer (some ⟨g, 0, none⟩)) (hy : ac.eval z = .agg #[.string x.nm, .int .i64 x.dist, .int .i64 x.pupil, .int .i64 x.stop, .int .i64 x.prim, .slice f.a f.n f.c, .slice v.a v.n v.c, .slice s.a s.n s.c, .slice k.a k.n k.c])
    (hk : ∀ w', BenchB w' g 37 x f v s k → w' = w.setCells g 0 (cells9 x f v s k) → wpList Tryz.prog ops Q rest (ac.put op.dst undef) w') : wpList Tryz.prog ops Q (op :: rest) ac w :=
  wpList_store_mid hgd 37 y z ho g 0 _ hx hy (there_block h hsz) Tryz.infoLens (by simp [Value.oneCell']) (hk _ (heap_setAll h hsz) rfl)

/-- a lens is loaded -/
theorem BenchB.range {w : World} {g : Nat} {T : TypeId} {x : LensD} {f v s k : Ptr} (h : BenchB w g T x f v s k) : w.rangeAt g 0 (cells9 x f v s k) := range_block h
theorem wpL_load_lens {ops : Array Oper} {rest : List Oper} {op : Oper} {ac : Act} {w : World} {Q : Exit → Act → World → Prop} {g : Nat} {T : TypeId} {x : LensD} {f v s k : Ptr} (h : BenchB w g T x f v s k) (hgd : op.guard = none) (y : Operand) (ho : op.op = .load 37 y)
    (hx : ac.eval y = .pointer (some ⟨g, 0, none⟩)) (hk : wpList Tryz.prog ops Q rest (ac.put op.dst (.agg #[.string x.nm, .int .i64 x.dist, .int .i64 x.pupil, .int .i64 x.stop, .int .i64 x.prim, .slice f.a f.n f.c, .slice v.a v.n v.c, .slice s.a s.n s.c, .slice k.a k.n k.c])) w) : wpList Tryz.prog ops Q (op :: rest) ac w :=
  wpList_load_mid hgd 37 y ho g 0 hx (cells9 x f v s k) _ h.range Tryz.underlying37 rfl Tryz.infoLens hk

def lens0 : LensD := ⟨emptyS, 0, 0, 0, 0, [], [], [], []⟩
def ptr0 : Ptr := ⟨none, 0, 0⟩
end Go.Proofs.YtgohdcccfkjooaaGreatDoor

namespace Go.Proofs.YtgohdcccfkjooaaGreatDoor
open Go.RowKit

set_option maxRecDepth 100000 in
set_option maxHeartbeats 6400000 in
theorem rlSame_eq (x : LensD) (f v s k f' v' s' k' : Ptr) (w : World) (hx : LensAt (fun b => b < w.heap.size) w x f v s k) (hy : LensAt (fun b => b < w.heap.size) w x f' v' s' k') :
    Calls Tryz.prog 19 #[lensV x f v s k, lensV x f' v' s' k'] w (RetB w (.bool true)) := by
  obtain ⟨fa, fn, fc⟩ := f; obtain ⟨va, vn, vc⟩ := v; obtain ⟨sa, sn, sc⟩ := s; obtain ⟨ka, kn, kc⟩ := k
  obtain ⟨fa', fn', fc'⟩ := f'; obtain ⟨va', vn', vc'⟩ := v'; obtain ⟨sa', sn', sc'⟩ := s'; obtain ⟨ka', kn', kc'⟩ := k'
  have ef : fn = fn' := by have h1 := hx.fs.1; have h2 := hy.fs.1; simp only at h1 h2; omega
  have ev : vn = vn' := by have h1 := hx.ws.1; have h2 := hy.ws.1; simp only at h1 h2; omega
  have es : sn = sn' := by have h1 := hx.l.1; have h2 := hy.l.1; simp only at h1 h2; omega
  have ek : kn = kn' := by have h1 := hx.cf.1; have h2 := hy.cf.1; simp only at h1 h2; omega
  subst ef ev es ek
  have hfn : fn ≤ 1000000 := hx.fn; have hvn : vn ≤ 1000000 := hx.wn; have hsn : sn ≤ 1000000 := hx.sn; have hkn : kn ≤ 1000000 := hx.kn
  obtain ⟨e1, e2⟩ := heap_two w (.cells (cells9 x ⟨fa, fn, fc⟩ ⟨va, vn, vc⟩ ⟨sa, sn, sc⟩ ⟨ka, kn, kc⟩).toArray 37) (.cells (cells9 x ⟨fa', fn, fc'⟩ ⟨va', vn, vc'⟩ ⟨sa', sn, sc'⟩ ⟨ka', kn, kc'⟩).toArray 37)
  have hb := below_two (w := w) (.cells (cells9 x ⟨fa, fn, fc⟩ ⟨va, vn, vc⟩ ⟨sa, sn, sc⟩ ⟨ka, kn, kc⟩).toArray 37) (.cells (cells9 x ⟨fa', fn, fc'⟩ ⟨va', vn, vc'⟩ ⟨sa', sn, sc'⟩ ⟨ka', kn, kc'⟩).toArray 37)
  have Hx := Lib.hid hx; have Hy := Lib.hid hy; have E1 := Lib.hid e1; have E2 := Lib.hid e2; have Hb := Lib.hid hb
  clear hx hy e1 e2 hb
  unfold lensV
  go_enter Tryz.func19, Tryz.ntmps19
  go_upto_region 1 with fail
  refine step_world (fun wx => BenchB wx w.heap.size 37 x ⟨fa, fn, fc⟩ ⟨va, vn, vc⟩ ⟨sa, sn, sc⟩ ⟨ka, kn, kc⟩ ∧ BenchB wx (w.heap.size + 1) 37 x ⟨fa', fn, fc'⟩ ⟨va', vn, vc'⟩ ⟨sa', sn, sc'⟩ ⟨ka', kn, kc'⟩ ∧ Below w.heap.size w wx) ⟨E1.out, E2.out, Hb.out⟩ ?_
  clear E1 E2 Hb
  rintro w1 ⟨h1, h2, hb⟩
  have hl1 := h1.lt
  have hl2 := h2.lt
  obtain ⟨c0, c1, c2, c3, c4, c5, c6, c7, c8⟩ := h1.cells
  obtain ⟨d0, d1, d2, d3, d4, d5, d6, d7, d8⟩ := h2.cells
  have H1 := Lib.hid h1; have H2 := Lib.hid h2; have Hb := Lib.hid hb
  clear h1 h2 hb
  go_upto_region 3 with ((with_reducible refine (rsameConf_eq x.cf ka ka' kn kc kc' _ ((Hx.out.go Hb.out).cf) ((Hy.out.go Hb.out).cf) hkn).mono ?_); rintro e w2 ⟨rfl, hb2⟩; have Hb2 := Lib.hid hb2; clear hb2)
  refine step_world (fun wx => BenchB wx w.heap.size 37 x ⟨fa, fn, fc⟩ ⟨va, vn, vc⟩ ⟨sa, sn, sc⟩ ⟨ka, kn, kc⟩ ∧ BenchB wx (w.heap.size + 1) 37 x ⟨fa', fn, fc'⟩ ⟨va', vn, vc'⟩ ⟨sa', sn, sc'⟩ ⟨ka', kn, kc'⟩ ∧ Below w.heap.size w wx) ⟨H1.out.go Hb2.out, H2.out.go Hb2.out, below_chain Hb.out Hb2.out⟩ ?_
  clear H1 H2 Hb Hb2 hl1 hl2 c0 c1 c2 c3 c4 c5 c6 c7 c8 d0 d1 d2 d3 d4 d5 d6 d7 d8
  rintro w3 ⟨h1, h2, hb⟩
  have hl1 := h1.lt
  have hl2 := h2.lt
  obtain ⟨-, -, -, -, -, c5, c6, c7, -⟩ := h1.cells
  obtain ⟨-, -, -, -, -, d5, d6, d7, -⟩ := h2.cells
  have H1 := Lib.hid h1; have H2 := Lib.hid h2; have Hb := Lib.hid hb
  clear h1 h2 hb
  go_wp2_with fail
  go_loopw [5] (fun iv wr => ∃ i : Nat, i ≤ fn ∧ iv = .int .i64 (i : Int) ∧ BenchB wr w.heap.size 37 x ⟨fa, fn, fc⟩ ⟨va, vn, vc⟩ ⟨sa, sn, sc⟩ ⟨ka, kn, kc⟩ ∧ BenchB wr (w.heap.size + 1) 37 x ⟨fa', fn, fc'⟩ ⟨va', vn, vc'⟩ ⟨sa', sn, sc'⟩ ⟨ka', kn, kc'⟩ ∧ Below w.heap.size w wr) (fun iv _ => fn - (intOf iv).toNat)
  case atStart => exact ⟨0, Nat.zero_le _, rfl, H1.out, H2.out, Hb.out⟩
  case round =>
    clear H1 H2 Hb hl1 hl2 c5 c6 c7 d5 d6 d7
    obtain ⟨i, hi, rfl, h1, h2, hb⟩ := hrel
    have hl1 := h1.lt
    have hl2 := h2.lt
    obtain ⟨-, -, -, -, -, c5, c6, c7, -⟩ := h1.cells
    obtain ⟨-, -, -, -, -, d5, d6, d7, -⟩ := h2.cells
    have H1 := Lib.hid h1; have H2 := Lib.hid h2; have Hb := Lib.hid hb
    clear h1 h2 hb
    by_cases hin : i < fn
    · obtain ⟨b1, o1, e1, l1, x0, x1⟩ := ((Hx.out.go Hb.out).fs.ir (fun _ h => h)).at2 hin
      obtain ⟨b2, o2, e2, l2, y0, y1⟩ := ((Hy.out.go Hb.out).fs.ir (fun _ h => h)).at2 hin
      simp only at e1 e2
      subst e1 e2
      generalize x.fs.getD (i * 2) 0 = p0 at *
      generalize x.fs.getD (i * 2 + 1) 0 = p1 at *
      go_wp2_with fail
      go_quiet (fail)
      go_wp2_with fail
      go_roundw
      case rel => exact ⟨i + 1, by omega, by go_num, H1.out.go (below_drewN (Below.refl _ _) _), H2.out.go (below_drewN (Below.refl _ _) _), below_drewN Hb.out _⟩
      case measure => simp [intOf]; omega
    · obtain rfl : fn = i := by omega
      go_wp2_with fail
      go_loopw [6] (fun iv wr => ∃ i : Nat, i ≤ vn ∧ iv = .int .i64 (i : Int) ∧ BenchB wr w.heap.size 37 x ⟨fa, fn, fc⟩ ⟨va, vn, vc⟩ ⟨sa, sn, sc⟩ ⟨ka, kn, kc⟩ ∧ BenchB wr (w.heap.size + 1) 37 x ⟨fa', fn, fc'⟩ ⟨va', vn, vc'⟩ ⟨sa', sn, sc'⟩ ⟨ka', kn, kc'⟩ ∧ Below w.heap.size w wr) (fun iv _ => vn - (intOf iv).toNat)
      case atStart => exact ⟨0, Nat.zero_le _, rfl, H1.out, H2.out, Hb.out⟩
      case round =>
        clear H1 H2 Hb hl1 hl2 c5 c6 c7 d5 d6 d7
        obtain ⟨j, hj, rfl, h1, h2, hb⟩ := hrel
        have hl1 := h1.lt
        have hl2 := h2.lt
        obtain ⟨-, -, -, -, -, -, c6, c7, -⟩ := h1.cells
        obtain ⟨-, -, -, -, -, -, d6, d7, -⟩ := h2.cells
        have H1 := Lib.hid h1; have H2 := Lib.hid h2; have Hb := Lib.hid hb
        clear h1 h2 hb
        by_cases hjn : j < vn
        · obtain ⟨b1, o1, e1, l1, x0, x1⟩ := ((Hx.out.go Hb.out).ws.ir (fun _ h => h)).at2 hjn
          obtain ⟨b2, o2, e2, l2, y0, y1⟩ := ((Hy.out.go Hb.out).ws.ir (fun _ h => h)).at2 hjn
          simp only at e1 e2
          subst e1 e2
          generalize x.ws.getD (j * 2) 0 = p0 at *
          generalize x.ws.getD (j * 2 + 1) 0 = p1 at *
          go_wp2_with fail
          go_quiet (fail)
          go_wp2_with fail
          go_roundw
          case rel => exact ⟨j + 1, by omega, by go_num, H1.out.go (below_drewN (Below.refl _ _) _), H2.out.go (below_drewN (Below.refl _ _) _), below_drewN Hb.out _⟩
          case measure => simp [intOf]; omega
        · obtain rfl : vn = j := by omega
          go_wp2_with fail
          go_loopw [7] (fun iv wr => ∃ i : Nat, i ≤ sn ∧ iv = .int .i64 (i : Int) ∧ BenchB wr w.heap.size 37 x ⟨fa, fn, fc⟩ ⟨va, vn, vc⟩ ⟨sa, sn, sc⟩ ⟨ka, kn, kc⟩ ∧ BenchB wr (w.heap.size + 1) 37 x ⟨fa', fn, fc'⟩ ⟨va', vn, vc'⟩ ⟨sa', sn, sc'⟩ ⟨ka', kn, kc'⟩ ∧ Below w.heap.size w wr) (fun iv _ => sn - (intOf iv).toNat)
          case atStart => exact ⟨0, Nat.zero_le _, rfl, H1.out, H2.out, Hb.out⟩
          case round =>
            clear H1 H2 Hb hl1 hl2 c6 c7 d6 d7
            obtain ⟨m, hm, rfl, h1, h2, hb⟩ := hrel
            have hl1 := h1.lt
            have hl2 := h2.lt
            obtain ⟨-, -, -, -, -, -, -, c7, -⟩ := h1.cells
            obtain ⟨-, -, -, -, -, -, -, d7, -⟩ := h2.cells
            have H1 := Lib.hid h1; have H2 := Lib.hid h2; have Hb := Lib.hid hb
            clear h1 h2 hb
            by_cases hmn : m < sn
            · obtain ⟨b1, o1, y, cs, e1, l1, hy1, ⟨a2, n2, c2, rfl, hz2, hn2, -, -⟩, hr1⟩ := (Hx.out.go Hb.out).l.at hmn
              obtain ⟨b2, o2, y', cs', e2, l2, hy2, ⟨a3, n3, c3, rfl, hz3, hn3, -, -⟩, hr2⟩ := (Hy.out.go Hb.out).l.at hmn
              simp only at e1 e2
              subst e1 e2
              rw [hy1] at hy2
              cases hy2
              obtain rfl : n2 = n3 := by rw [coat_n hz2, coat_n hz3]
              have Hr1 := Lib.hid hr1; have Hr2 := Lib.hid hr2; have Hz2 := Lib.hid (hz2.ir (fun _ h => h)); have Hz3 := Lib.hid (hz3.ir (fun _ h => h))
              clear hr1 hr2 hz2 hz3 hy1
              go_upto_region 18 with fail
              refine wp_region_floats 12 [11] [] [(0, true), (1, true), (2, true), (3, true), (4, true), (5, true), (6, true), (7, true), (8, true), (9, true), (10, false), (11, true)] (by kernel_rfl) (by kernel_rfl) ⟨by simp, by simp, fun _ h => by cases h⟩ (fun _ _ _ _ _ h => h) (fun _ _ o _ _ h => by cases o <;> exact h) ?_
              iterate 4
                refine wpG_yield (v := ?_) rfl rfl (by rfl) ?_ ?_
                rotate_left
                · intro y hy
                  have z0 := (hy.cell (p := ⟨w.heap.size, 7, none⟩) hl1).trans c7
                  go_simp
                  with_reducible rfl
                try simp only [Act.put, List.setIfInBounds_toArray, List.set_cons_zero, List.set_cons_succ]
              refine wpG_load_at rfl rfl (by rfl) (fun y hy => rangeAt_kept Hr1.out (keptOn_below (below_undrew (k := 1) hy)) l1) _ rfl rfl ?_
              try simp only [Act.put, List.setIfInBounds_toArray, List.set_cons_zero, List.set_cons_succ]
              iterate 4
                refine wpG_yield (v := ?_) rfl rfl (by rfl) ?_ ?_
                rotate_left
                · intro y hy
                  have z0 := (hy.cell (p := ⟨w.heap.size + 1, 7, none⟩) hl2).trans d7
                  go_simp
                  with_reducible rfl
                try simp only [Act.put, List.setIfInBounds_toArray, List.set_cons_zero, List.set_cons_succ]
              refine wpG_load_at rfl rfl (by rfl) (fun y hy => rangeAt_kept Hr2.out (keptOn_below (below_undrew (k := 1) hy)) l2) _ rfl rfl ?_
              try simp only [Act.put, List.setIfInBounds_toArray, List.set_cons_zero, List.set_cons_succ]
              refine wpG_step rfl rfl (fun xa hxa K hK => ?_)
              go_simp
              have hxa' : Below wr.heap.size wr xa := below_undrew (k := 1) hxa
              refine (refSame_eq y.s y.zs a2 a3 n2 c2 c3 xa (Hz2.out.go hxa') (Hz3.out.go hxa') hn2).mono ?_
              rintro e wb ⟨rfl, hbb⟩
              refine hK _ _ hbb ?_
              clear hK K
              iterate 1
                refine wpG_pure (v := ?_) rfl (by rfl) ?_ ?_
                rotate_left
                · intro y
                  go_simp
                  with_reducible rfl
                try simp only [Act.put, List.setIfInBounds_toArray, List.set_cons_zero, List.set_cons_succ]
              refine wpG_nil0 (l := []) rfl (fun w4 hbc => ?_)
              try simp only [Act.put, List.setIfInBounds_toArray, List.set_cons_zero, List.set_cons_succ]
              have h4 : Below wr.heap.size wr w4 := below_chain hxa' (below_chain hbb hbc)
              have L1 := Lib.hid (H1.out.go h4); have L2 := Lib.hid (H2.out.go h4); have Lb := Lib.hid (below_chain Hb.out h4)
              clear hxa hxa' hbb hbc h4 H1 H2 Hb Hr1 Hr2 c7 d7
              go_wp2_with fail
              go_roundw
              case rel => exact ⟨m + 1, by omega, by go_num, L1.out, L2.out, Lb.out⟩
              case measure => simp [intOf]; omega
            · obtain rfl : sn = m := by omega
              go_wp2
              go_ret
              exact ⟨rfl, Hb.out⟩

end Go.Proofs.YtgohdcccfkjooaaGreatDoor

namespace Go.Proofs.YtgohdcccfkjooaaGreatDoor
open Go.RowKit

/-- words with blanks between them, and the line's end -/
def lineS (ws : List (List UInt8)) : List UInt8 := joinS ws ++ [10]
def pNames : List (List UInt8) := [[99, 117, 114, 118], [99, 111, 110, 105, 99], [99, 117, 114, 118, 120], [99, 111, 110, 105, 99, 120], [97, 115, 112, 104, 52], [97, 115, 112, 104, 54], [97, 115, 112, 104, 56], [97, 115, 112, 104, 49, 48], [116, 104, 105, 99, 107], [115, 101, 109, 105], [100, 120], [100, 121], [97, 120], [97, 121], [97, 122], [112, 104, 97, 115, 101, 50], [112, 104, 97, 115, 101, 52]]
def kNames : List (List UInt8) := [[115, 116, 97, 110, 100, 97, 114, 100], [98, 105, 99, 111, 110, 105, 99], [98, 114, 101, 97, 107], [105, 100, 101, 97, 108]]
def oNames : List (List UInt8) := [[108, 101, 110, 115], [111, 98, 106, 101, 99, 116], [112, 117, 112, 105, 108], [115, 116, 111, 112], [112, 114, 105, 109, 97, 114, 121], [102, 105, 101, 108, 100], [119, 97, 118, 101], [115, 117, 114, 102, 97, 99, 101], [99, 111, 110, 102, 105, 103], [101, 110, 100]]
def wLens : List UInt8 := [108, 101, 110, 115]
def wObject : List UInt8 := [111, 98, 106, 101, 99, 116]
def wPupil : List UInt8 := [112, 117, 112, 105, 108]
def wStop : List UInt8 := [115, 116, 111, 112]
def wPrimary : List UInt8 := [112, 114, 105, 109, 97, 114, 121]
def wField : List UInt8 := [102, 105, 101, 108, 100]
def wWave : List UInt8 := [119, 97, 118, 101]
def wSurface : List UInt8 := [115, 117, 114, 102, 97, 99, 101]
def wConfig : List UInt8 := [99, 111, 110, 102, 105, 103]
def wEnd : List UInt8 := [101, 110, 100]
def wFilm : List UInt8 := [102, 105, 108, 109]
def wHole : List UInt8 := [104, 111, 108, 101]
def wOrder : List UInt8 := [111, 114, 100, 101, 114]
def wGlass : List UInt8 := [103, 108, 97, 115, 115]
def wChange : List UInt8 := [99, 104, 97, 110, 103, 101]
def wInfinity : List UInt8 := [105, 110, 102, 105, 110, 105, 116, 121]
def digP (p : Nat) : Nat := if p = 1 ∨ p = 3 then 9 else if 16 ≤ p then 3 else 6
def nameP (p : Nat) : List UInt8 := pNames.getD (p - 1) []
def listB (b : ByteArray) : List UInt8 := b.data.toList

/-! ### the text -/
def oneT (s : Surf) (p : Nat) : List UInt8 := if s.get (p : Int) = 0 then [] else lineS [nameP p, numT (s.get (p : Int)) (digP p)]
def someT (s : Surf) (from_ n : Nat) : List UInt8 := ((List.range n).map fun i => oneT s (from_ + i)).flatten
def filmT (zs : List Int) (i : Nat) : List UInt8 := lineS [wFilm, numT (zs.getD (i * 3) 0) 7, numT (zs.getD (i * 3 + 1) 0) 0, numT (zs.getD (i * 3 + 2) 0) 0]
def surfT (x : SurfC) : List UInt8 :=
  lineS [wSurface, kNames.getD (x.s.kind - 1).toNat []] ++ someT x.s 1 10 ++ (if x.s.hole = 0 then [] else lineS [wHole, numT x.s.hole 6]) ++ someT x.s 11 5
    ++ (if x.s.order = 0 then [] else lineS [wOrder, numT x.s.order 0]) ++ someT x.s 16 2 ++ (if listB x.s.glass = [] then [] else lineS [wGlass, listB x.s.glass])
    ++ ((List.range (x.zs.length / 3)).map (filmT x.zs)).flatten
def changeT (zs : List Int) (i : Nat) : List UInt8 := lineS [wChange, numT (zs.getD (i * 3) 0) 0, nameP (zs.getD (i * 3 + 1) 0).toNat, numT (zs.getD (i * 3 + 2) 0) (digP (zs.getD (i * 3 + 1) 0).toNat)]
def confT (c : ConfC) : List UInt8 := lineS [wConfig, listB c.nm] ++ ((List.range (c.zs.length / 3)).map (changeT c.zs)).flatten
def fieldT (fs : List Int) (i : Nat) : List UInt8 := lineS [wField, numT (fs.getD (i * 2) 0) 6, numT (fs.getD (i * 2 + 1) 0) 6]
def waveT (ws : List Int) (i : Nat) : List UInt8 := lineS [wWave, numT (ws.getD (i * 2) 0) 3, numT (ws.getD (i * 2 + 1) 0) 0]
def headT (x : LensD) : List UInt8 := lineS [wLens, listB x.nm] ++ lineS [wObject, if x.dist = 0 then wInfinity else numT x.dist 6] ++ lineS [wPupil, numT x.pupil 6] ++ lineS [wStop, numT x.stop 0] ++ lineS [wPrimary, numT x.prim 0]
def lensT (x : LensD) : List UInt8 :=
  headT x ++ ((List.range (x.fs.length / 2)).map (fieldT x.fs)).flatten ++ ((List.range (x.ws.length / 2)).map (waveT x.ws)).flatten ++ (x.l.map surfT).flatten ++ (x.cf.map confT).flatten ++ lineS [wEnd]

/-! ### reading -/
def valS (w : List UInt8) (d : Nat) : Option Int := if parE w d = 0 then some (parN w d) else none
def valsS : List (List UInt8) → List Nat → Option (List Int)
  | [], [] => some []
  | w :: ws, d :: ds => match valS w d with
    | none => none
    | some n => match valsS ws ds with
      | none => none
      | some ns => some (n :: ns)
  | _, _ => none
/-- the number of a parameter with a name (from 1 on) -/
def paramS (w : List UInt8) : Option Nat := (pNames.findIdx? (· == w)).map (· + 1)
structure RdS where
  x : LensD
  at_ : Int
  seen : List (List UInt8)
def newSurf (k : Nat) : SurfC := ⟨⟨(k : Int), 0, 0, 0, 0, 0, 0, 0, 0, 0, 0, 0, 0, ⟨#[]⟩, 0, 0, 0, 0, 0, 0, 0⟩, []⟩
/-- a head line of the kind k -/
def headS (x : LensD) (k : Nat) (w : List (List UInt8)) : Option LensD :=
  match k, w with
  | 0, [v] => some { x with nm := bs v }
  | 1, [v] => if v = wInfinity then some x else (valS v 6).map fun n => { x with dist := n }
  | 2, [v] => (valS v 6).map fun n => { x with pupil := n }
  | 3, [v] => (valS v 0).map fun n => { x with stop := n }
  | 4, [v] => (valS v 0).map fun n => { x with prim := n }
  | 5, w => (valsS w [6, 6]).map fun ns => { x with fs := x.fs ++ ns }
  | 6, w => (valsS w [3, 0]).map fun ns => { x with ws := x.ws ++ ns }
  | 7, [v] => (kNames.findIdx? (· == v)).map fun i => { x with l := x.l ++ [newSurf (i + 1)] }
  | 8, [v] => some { x with cf := x.cf ++ [⟨bs v, []⟩] }
  | 9, [] => some x
  | _, _ => none
def digS (v : List UInt8) : Option Nat := match paramS v with
  | some p => some (digP p)
  | none => if v = wHole then some 6 else if v = wOrder then some 0 else none
def putN (s : Surf) (v : List UInt8) (n : Int) : Surf := match paramS v with
  | some p => s.put (p : Int) n
  | none => if v = wHole then { s with hole := n } else { s with order := n }
/-- a parameter line of the last surface -/
def partS (y : SurfC) (w : List (List UInt8)) : Option SurfC :=
  match w with
  | [] => none
  | f :: ws =>
    if f = wFilm then (valsS ws [7, 0, 0]).map fun ns => { y with zs := y.zs ++ ns }
    else match ws with
      | [v] => if f = wGlass then some { y with s := { y.s with glass := bs v } } else
          match digS f with
          | none => none
          | some d => (valS v d).map fun n => { y with s := putN y.s f n }
      | _ => none
def changeS (c : ConfC) (w : List (List UInt8)) : Option ConfC :=
  match w with
  | [_, a, p, v] => match paramS p with
    | none => none
    | some q => match valS a 0 with
      | none => none
      | some i => (valS v (digP q)).map fun n => { c with zs := c.zs ++ [i, (q : Int), n] }
  | _ => none
def lastPut {α : Type} (l : List α) (f : α → Option α) : Option (List α) := match l.getLast? with
  | none => none
  | some y => (f y).map fun z => l.dropLast ++ [z]
/-- a line with words -/
def lineR (r : RdS) (w : List (List UInt8)) : Option RdS :=
  if r.at_ = 9 then none else
  match w with
  | [] => some r
  | f :: ws =>
    match oNames.findIdx? (· == f) with
    | some k =>
      if (k : Int) = r.at_ + 1 ∨ (5 ≤ k ∧ 4 ≤ r.at_ ∧ r.at_ ≤ (k : Int)) then (headS r.x k ws).map fun y => ⟨y, (k : Int), []⟩ else none
    | none =>
      if r.at_ = 7 then
        (if f ≠ wFilm ∧ f ∈ r.seen then none else (lastPut r.x.l fun y => partS y (f :: ws)).map fun l => ⟨{ r.x with l := l }, 7, if f = wFilm then r.seen else r.seen ++ [f]⟩)
      else if r.at_ = 8 ∧ f = wChange then (lastPut r.x.cf fun c => changeS c (f :: ws)).map fun cf => ⟨{ r.x with cf := cf }, 8, r.seen⟩
      else none
def skipS : List (List UInt8) → Bool
  | [] => true
  | w :: _ => w.head? == some 35
/-- the lines behind the first i; the number of the line that is no line -/
def linesR : Nat → RdS → List (List UInt8) → Except Nat RdS
  | _, r, [] => .ok r
  | i, r, s :: ss => if skipS (wordsS [] s) then linesR (i + 1) r ss else match lineR r (wordsS [] s) with
    | none => .error (i + 1)
    | some q => linesR (i + 1) q ss
def lensN : LensD := ⟨⟨#[]⟩, 0, 0, 0, 0, [], [], [], []⟩
def rd0 : RdS := ⟨lensN, -1, []⟩
/-- what a text is read as: the lens, the line, the error's number -/
structure RedS where
  x : LensD
  line : Int
  e : Int
def readS (t : List UInt8) : RedS :=
  if 20000 < t.length then ⟨lensN, 0, 3⟩ else
  match linesR 0 rd0 (linesOf [] t) with
  | .error i => ⟨lensN, (i : Int), 5⟩
  | .ok r => if r.at_ ≠ 9 then ⟨lensN, ((linesOf [] t).length : Int), 5⟩ else if validB r.x = true then ⟨r.x, 0, 0⟩ else ⟨lensN, 0, 120⟩
end Go.Proofs.YtgohdcccfkjooaaGreatDoor

namespace Go.Proofs.YtgohdcccfkjooaaGreatDoor
open Go.RowKit

/-- the panic of a malformed line -/
def MalS : Ending := .panicked [{ v := .iface 124 (.agg #[]), recovered := false }]
theorem must_yes (w : World) : Calls Tryz.prog 54 #[.bool true] w fun e w' => e = .returned (.tuple #[]) ∧ w = w' := by
  go_enter Tryz.func54, Tryz.ntmps54
  go_wp2_with fail
  go_end0
  exact ⟨rfl, rfl⟩
theorem must_no (w : World) : Calls Tryz.prog 54 #[.bool false] w fun e w' => e = MalS ∧ w = w' := by
  go_enter Tryz.func54, Tryz.ntmps54
  go_wp2_with fail
  exact ⟨rfl, rfl, rfl⟩
def SingleR (ws : List (List UInt8)) (e : Ending) : Prop := match ws with
  | [v] => e = .returned (.string (bs v))
  | _ => e = MalS
theorem single_any (ws : List (List UInt8)) (a : Option Addr) (n c B : Nat) (w : World) (h : Wds w a n c ws B) : Calls Tryz.prog 337 #[.slice a n c] w fun e w' => SingleR ws e ∧ w = w' := by
  have hl := h.1
  match ws, hl, h with
  | [], hl, h =>
    obtain rfl : n = 0 := hl.symm
    clear h
    go_enter Tryz.func337, Tryz.ntmps337
    go_wp2_with fail
    refine (must_no w).mono ?_
    rintro e w1 ⟨rfl, rfl⟩
    unfold MalS
    go_wp2_with fail
    exact ⟨rfl, rfl, rfl⟩
  | [v], hl, h =>
    obtain rfl : n = 1 := hl.symm
    obtain ⟨g, off, rfl, hg, hc⟩ := h.2.2 (by omega)
    have c0 : w.cell? ⟨g, off, none⟩ = some (.string (bs v)) := hc 0 v rfl
    have hcap := h.2.1
    clear hc h hl
    go_enter Tryz.func337, Tryz.ntmps337
    go_wp2_with fail
    refine (must_yes w).mono ?_
    rintro e w1 ⟨rfl, rfl⟩
    go_wp2_with fail
    go_ret
    exact ⟨rfl, rfl⟩
  | v :: u :: r, hl, h =>
    have hn : n = r.length + 2 := by rw [← hl]; simp
    have h1 : ((n : Int) == 1) = false := by rw [beq_eq_false_iff_ne]; omega
    clear h hl hn
    go_enter Tryz.func337, Tryz.ntmps337
    go_wp2_with fail
    refine (must_no w).mono ?_
    rintro e w1 ⟨rfl, rfl⟩
    unfold MalS
    go_wp2_with fail
    exact ⟨rfl, rfl, rfl⟩
def ValueR (l : List UInt8) (d : Nat) (e : Ending) : Prop := match valS l d with
  | some n => e = .returned (.int .i64 n)
  | none => e = MalS
theorem value_any (l : List UInt8) (d : Nat) (w : World) (hl : l.length ≤ 100000) (hd : d ≤ 18) (hg : GW w) : Calls Tryz.prog 140 #[.string (bs l), .int .i64 (d : Int)] w fun e w' => ValueR l d e ∧ Below w.heap.size w w' := by
  go_enter Tryz.func140, Tryz.ntmps140
  go_wp2_with fail
  refine (decParse_any l d w hl hd hg).mono ?_
  rintro e w1 ⟨rfl, hb⟩
  by_cases he : parE l d = 0
  · have hv : valS l d = some (parN l d) := by unfold valS; rw [if_pos he]
    have hr : ValueR l d (.returned (.int .i64 (parN l d))) := by unfold ValueR; rw [hv]
    rw [he]
    have Hb := Lib.hid hb; have Hr := Lib.hid hr; clear hb he hv hr hg
    go_wp2_with fail
    refine (must_yes w1).mono ?_
    rintro e w2 ⟨rfl, rfl⟩
    go_wp2_with fail
    go_ret
    exact ⟨Hr.out, Hb.out⟩
  · have hv : valS l d = none := by unfold valS; rw [if_neg he]
    have hr : ValueR l d MalS := by unfold ValueR; rw [hv]
    have h0 : (parE l d == 0) = false := by rw [beq_eq_false_iff_ne]; exact he
    have Hb := Lib.hid hb; have Hr := Lib.hid hr; clear hb he hv hr hg
    go_wp2_with fail
    refine (must_no w1).mono ?_
    rintro e w2 ⟨rfl, rfl⟩
    have Hr2 := Hr.out
    unfold MalS at Hr2 ⊢
    have Hr := Lib.hid Hr2; clear Hr2
    go_wp2_with fail
    exact ⟨rfl, Hr.out, Hb.out⟩

/-! ### several values -/
theorem valsS_step : ∀ (ws : List (List UInt8)) (ds : List Nat) (k : Nat) (zs : List Int) (x : List UInt8) (d : Nat) (n : Int), ws[k]? = some x → ds[k]? = some d → valsS (ws.take k) (ds.take k) = some zs → valS x d = some n → valsS (ws.take (k + 1)) (ds.take (k + 1)) = some (zs ++ [n])
  | [], _, k, _, _, _, _, h, _, _, _ => by simp at h
  | _ :: _, [], k, _, _, _, _, _, h, _, _ => by simp at h
  | w :: ws, e :: ds, 0, zs, x, d, n, h1, h2, h3, h4 => by
    simp only [List.getElem?_cons_zero, Option.some.injEq] at h1 h2
    subst h1; subst h2
    simp only [List.take_zero, valsS, Option.some.injEq] at h3
    subst h3
    simp [valsS, h4]
  | w :: ws, e :: ds, k + 1, zs, x, d, n, h1, h2, h3, h4 => by
    simp only [List.getElem?_cons_succ] at h1 h2
    rw [List.take_succ_cons, List.take_succ_cons, valsS] at h3 ⊢
    cases hv : valS w e with
    | none => rw [hv] at h3; cases h3
    | some m =>
      rw [hv] at h3
      cases hr : valsS (ws.take k) (ds.take k) with
      | none => rw [hr] at h3; cases h3
      | some zs' =>
        rw [hr] at h3
        simp only [Option.some.injEq] at h3
        subst h3
        simp only [valsS_step ws ds k zs' x d n h1 h2 hr h4]
        rfl
theorem valsS_stop : ∀ (ws : List (List UInt8)) (ds : List Nat) (k : Nat) (x : List UInt8) (d : Nat), ws[k]? = some x → ds[k]? = some d → valS x d = none → valsS ws ds = none
  | [], _, k, _, _, h, _, _ => by simp at h
  | _ :: _, [], k, _, _, _, h, _ => by simp at h
  | w :: ws, e :: ds, 0, x, d, h1, h2, h3 => by
    simp only [List.getElem?_cons_zero, Option.some.injEq] at h1 h2
    subst h1; subst h2
    rw [valsS, h3]
  | w :: ws, e :: ds, k + 1, x, d, h1, h2, h3 => by
    simp only [List.getElem?_cons_succ] at h1 h2
    rw [valsS, valsS_stop ws ds k x d h1 h2 h3]
    cases valS w e <;> rfl
theorem valsS_len : ∀ (ws : List (List UInt8)) (ds : List Nat) (zs : List Int), valsS ws ds = some zs → zs.length = ws.length ∧ ws.length = ds.length
  | [], [], zs, h => by simp only [valsS, Option.some.injEq] at h; subst h; exact ⟨rfl, rfl⟩
  | [], _ :: _, _, h => by cases h
  | _ :: _, [], _, h => by cases h
  | w :: ws, e :: ds, zs, h => by
    rw [valsS] at h
    cases hv : valS w e with
    | none => rw [hv] at h; cases h
    | some m =>
      rw [hv] at h
      cases hr : valsS ws ds with
      | none => rw [hr] at h; cases h
      | some zs' =>
        rw [hr] at h
        simp only [Option.some.injEq] at h
        subst h
        obtain ⟨h1, h2⟩ := valsS_len ws ds zs' hr
        exact ⟨by simp [h1], by simp [h2]⟩
theorem valsS_ne {ws : List (List UInt8)} {ds : List Nat} (h : ws.length ≠ ds.length) : valsS ws ds = none := by
  cases hr : valsS ws ds with
  | none => rfl
  | some zs => exact absurd (valsS_len ws ds zs hr).2 h
def ValuesR (w : World) (ws : List (List UInt8)) (ds : List Nat) (e : Ending) (w' : World) : Prop := match valsS ws ds with
  | some zs => (∃ a c, e = .returned (.slice a zs.length c) ∧ SL w'.heap.size w' a zs.length c zs ∧ ∀ b, (Value.slice a zs.length c).ownBlock = some b → w.heap.size ≤ b) ∧ Below w.heap.size w w'
  | none => e = MalS ∧ Below w.heap.size w w'
theorem valuesR_some {w w' : World} {ws : List (List UInt8)} {ds : List Nat} {zs : List Int} {e : Ending} (h : valsS ws ds = some zs) (h1 : ∃ a c, e = .returned (.slice a zs.length c) ∧ SL w'.heap.size w' a zs.length c zs ∧ ∀ b, (Value.slice a zs.length c).ownBlock = some b → w.heap.size ≤ b) (h2 : Below w.heap.size w w') : ValuesR w ws ds e w' := by
  unfold ValuesR; rw [h]; exact ⟨h1, h2⟩
theorem valuesR_none {w w' : World} {ws : List (List UInt8)} {ds : List Nat} {e : Ending} (h : valsS ws ds = none) (h1 : e = MalS) (h2 : Below w.heap.size w w') : ValuesR w ws ds e w' := by
  unfold ValuesR; rw [h]; exact ⟨h1, h2⟩
theorem own_sl {w : World} {base : Nat} {v : Value} {n : Nat} {zs : List Int} (h : w.ownsRow base 3 1 v n (zs.map (Value.int .i64))) : ∃ a c, v = .slice a zs.length c ∧ SL w.heap.size w a zs.length c zs := by
  have hn := h.1
  rw [List.length_map, Nat.mul_one] at hn
  subst hn
  rcases (owns_cells h).2 with ⟨rfl, h0⟩ | ⟨g, cap, rfl, hg, hcap, hcells⟩
  · have : zs = [] := List.length_eq_zero_iff.1 h0
    subst this
    exact ⟨none, 0, rfl, SL.nil _ _ _ _⟩
  · refine ⟨some ⟨g, 0, none⟩, cap, rfl, rfl, hcap, fun _ => ⟨g, 0, rfl, hcells.lt, fun j hj => ?_⟩⟩
    rw [Nat.zero_add, hcells.cell (j := j) (by rw [List.length_map]; exact hj)]
    simp [List.getD_eq_getElem?_getD, List.getElem?_eq_getElem hj]

set_option maxHeartbeats 800000 in
theorem values_any (ws : List (List UInt8)) (ds : List Nat) (a b : Option Addr) (n m c c' : Nat) (w : World) (h : Wds w a n c ws w.heap.size) (hs : SL w.heap.size w b m c' (ds.map fun (d : Nat) => (d : Int))) (hn : n ≤ 100000) (hm : m ≤ 100) (hws : ∀ s ∈ ws, s.length ≤ 100000) (hds : ∀ d ∈ ds, d ≤ 18) (hg : GW w) :
    Calls Tryz.prog 138 #[.slice a n c, .slice b m c'] w (ValuesR w ws ds) := by
  have hl := h.1
  have hld : m = ds.length := by rw [hs.1]; simp
  by_cases hnm : n = m
  · subst hnm
    have H := Lib.hid h; have Hs := Lib.hid hs; have Hg := Lib.hid hg; have Hws := Lib.hid hws; have Hds := Lib.hid hds; have Hl := Lib.hid hl; have Hld := Lib.hid hld
    clear h hs hg hws hds hl hld
    go_enter Tryz.func138, Tryz.ntmps138
    go_wp2_with fail
    refine (must_yes w).mono ?_
    rintro e w1 ⟨rfl, rfl⟩
    go_upto_region 4 with fail
    go_loopw [5, 16] (fun v iv wr => ∃ (k : Nat) (zs : List Int), k ≤ n ∧ iv = .int .i64 (k : Int) ∧ wr.ownsRow w.heap.size 3 1 v k (zs.map (Value.int .i64)) ∧ valsS (ws.take k) (ds.take k) = some zs ∧ Below w.heap.size w wr) (fun _ iv _ => n - (intOf iv).toNat)
    case atStart => exact ⟨0, [], Nat.zero_le _, rfl, ⟨rfl, Or.inl ⟨rfl, rfl⟩⟩, rfl, Below.refl _ _⟩
    case round =>
      obtain ⟨k, zs, hk, rfl, hown, hv, hb⟩ := hrel
      obtain ⟨va, vc, rfl, hsl⟩ := own_sl hown
      have Hown := Lib.hid hown; have Hv := Lib.hid hv; have Hb := Lib.hid hb; have Hsl := Lib.hid hsl
      clear hown hv hb hsl
      by_cases hkn : k < n
      · obtain ⟨x, hx⟩ : ∃ x, ws[k]? = some x := ⟨ws[k]'(by have := Hl.out; omega), List.getElem?_eq_getElem _⟩
        obtain ⟨d, hd⟩ : ∃ d, ds[k]? = some d := ⟨ds[k]'(by have := Hld.out; omega), List.getElem?_eq_getElem _⟩
        obtain ⟨g, off, rfl, hgl, hc⟩ := H.out.2.2 (by omega)
        have c0 : wr.cell? ⟨g, off + k, none⟩ = some (.string (bs x)) := (Hb.out.cell (p := ⟨g, off + k, none⟩) hgl).trans (hc k x hx)
        obtain ⟨g2, off2, rfl, hgl2, hc2⟩ := Hs.out.at (by omega)
        have c1 : wr.cell? ⟨g2, off2 + k, none⟩ = some (.int .i64 (d : Int)) := by
          refine (Hb.out.cell (p := ⟨g2, off2 + k, none⟩) hgl2).trans ((hc2 k hkn).trans ?_)
          rw [List.getD_eq_getElem?_getD, List.getElem?_map, hd]; rfl
        clear hc hc2
        have hxl : x.length ≤ 100000 := Hws.out x (List.mem_of_getElem? hx)
        have hd18 : d ≤ 18 := Hds.out d (List.mem_of_getElem? hd)
        have Hx := Lib.hid hx; have Hd := Lib.hid hd
        clear hx hd
        go_wp2_with fail
        refine (value_any x d wr hxl hd18 (Hg.out.below Hb.out)).mono ?_
        rintro e w2 ⟨he, hb2⟩
        cases hvx : valS x d with
        | none =>
          have hstop := valsS_stop ws ds k x d Hx.out Hd.out hvx
          unfold ValueR at he
          rw [hvx] at he
          subst he
          have hr := valuesR_none hstop rfl (Hb.out.trans (hb2.mono Hb.out.size))
          have Hr := Lib.hid hr
          clear hvx hstop hb2 hr c0 c1
          have Hr2 := Hr.out
          unfold MalS at Hr2 ⊢
          have Hr3 := Lib.hid Hr2; clear Hr2 Hr
          go_wp2_with fail
          exact ⟨rfl, Hr3.out⟩
        | some z =>
          have hstep := valsS_step ws ds k zs x d z Hx.out Hd.out Hv.out hvx
          unfold ValueR at he
          rw [hvx] at he
          subst he
          have hown2 := ownsRow_below Hown.out hb2
          have Hown2 := Lib.hid hown2; have Hb2 := Lib.hid (Hb.out.trans (hb2.mono Hb.out.size)); have Hst := Lib.hid hstep
          have hsz := (Hb.out.trans (hb2.mono Hb.out.size)).size
          clear hvx hstep hown2 hb2 c0 c1
          have hn1 := heap_alloc_new w2 (.cells #[.int .i64 z] 3)
          have hal := (Below.refl w2.heap.size w2).alloc (Nat.le_refl _) (.cells #[.int .i64 z] 3)
          have hsl2 : SL (w2.alloc (.cells #[.int .i64 z] 3)).heap.size (w2.alloc (.cells #[.int .i64 z] 3)) (some ⟨w2.heap.size, 0, none⟩) 1 1 [z] := by
            refine ⟨rfl, Nat.le_refl _, fun _ => ⟨w2.heap.size, 0, rfl, by simp, fun j hj => ?_⟩⟩
            obtain rfl : j = 0 := by omega
            exact obj_cell hn1 0
          have hown3 := ownsRow_below Hown2.out hal
          have Hsl2 := Lib.hid hsl2; have Hown3 := Lib.hid hown3; have Hal := Lib.hid hal
          clear hn1 hal hsl2 hown3
          go_wp2_with (refine wpList_append_ints rfl (.tmp 21) (.tmp 28) 162 rfl Tryz.underlying162 w.heap.size _ k zs rfl Hown3.out _ _ 1 1 [z] rfl Hsl2.out (by intro e; cases e) (by omega) (by simp; omega) ?_; intro v' w3 hown4 hgr)
          have hb3 : Below w.heap.size w w3 := grown_below Hb2.out Hown2.out hgr (Nat.le_refl _) hsz
          have Hown4 := Lib.hid hown4; have Hb3 := Lib.hid hb3
          clear hown4 hgr hb3
          go_roundw
          case rel => exact ⟨k + 1, zs ++ [z], by omega, by go_num, Hown4.out, Hst.out, Hb3.out⟩
          case measure => simp [intOf]; omega
      · obtain rfl : k = n := by omega
        have hv := Hv.out
        rw [List.take_of_length_le (by have := Hl.out; omega), List.take_of_length_le (by have := Hld.out; omega)] at hv
        have hzl := valsS_len ws ds zs hv
        have hr : ValuesR w ws ds (.returned (.slice va zs.length vc)) wr := valuesR_some hv ⟨va, vc, rfl, Hsl.out, fun b hb => (Hown.out.lt b hb).1⟩ Hb.out
        have Hr := Lib.hid hr
        clear hr hv hzl
        go_wp2_with fail
        go_ret
        exact Hr.out
  · have hne : ws.length ≠ ds.length := by omega
    have hr : ∀ w', Below w.heap.size w w' → ValuesR w ws ds MalS w' := fun w' hb => valuesR_none (valsS_ne hne) rfl hb
    have h0 : ((n : Int) == (m : Int)) = false := by rw [beq_eq_false_iff_ne]; omega
    have Hr := Lib.hid hr
    clear h hs hg hws hds hl hld hne hr
    go_enter Tryz.func138, Tryz.ntmps138
    go_wp2_with fail
    refine (must_no w).mono ?_
    rintro e w1 ⟨rfl, rfl⟩
    have Hr2 := Hr.out w (Below.refl _ _)
    unfold MalS at Hr2 ⊢
    have Hr3 := Lib.hid Hr2; clear Hr2
    go_wp2_with fail
    exact ⟨rfl, Hr3.out⟩
end Go.Proofs.YtgohdcccfkjooaaGreatDoor

namespace Go.Proofs.YtgohdcccfkjooaaGreatDoor
open Go.RowKit

/-- the function that gives a parameter's place -/
def fnP : Nat → FuncId
  | 0 => 308
  | 1 => 309
  | 2 => 310
  | 3 => 311
  | 4 => 312
  | 5 => 313
  | 6 => 314
  | 7 => 315
  | 8 => 316
  | 9 => 317
  | 10 => 318
  | 11 => 319
  | 12 => 320
  | 13 => 321
  | 14 => 322
  | 15 => 323
  | _ => 324
theorem bs_beq (a b : List UInt8) : (bs a == bs b) = (a == b) := by
  show (a.toArray == b.toArray) = (a == b)
  simp

/-! ### maps of names -/
abbrev VTab := List (List UInt8 × Value)
def lookV (l : VTab) (nm : List UInt8) : Option Value := (l.find? fun e => e.1 == nm).map (·.2)
def MapV (w : World) (b : Nat) (l : VTab) : Prop :=
  ∃ es clock, w.heap[b]? = some (.map es clock) ∧ es.toList.map (fun e => (e.key, e.val)) = l.map (fun x => (Value.string (bs x.1), x.2))
theorem MapV.block {w w' : World} {b : Nat} {l : VTab} (h : MapV w b l) (hb : w'.heap[b]? = w.heap[b]?) : MapV w' b l := by
  obtain ⟨es, clock, h1, h2⟩ := h
  exact ⟨es, clock, hb.trans h1, h2⟩
theorem findNow_V (s : List UInt8) : ∀ (l : List MapEntry) (ks : VTab) (i : Nat), l.map (fun e => (e.key, e.val)) = ks.map (fun x => (Value.string (bs x.1), x.2)) →
    (∃ v, lookV ks s = some v ∧ ∃ j, Instr.findNow .string (.string (bs s)) l i = some (some (j, v))) ∨ (lookV ks s = none ∧ Instr.findNow .string (.string (bs s)) l i = some none)
  | [], [], i, _ => Or.inr ⟨rfl, rfl⟩
  | [], k :: ks, i, h => by cases h
  | e :: l, [], i, h => by cases h
  | e :: l, k :: ks, i, h => by
    simp only [List.map_cons, List.cons.injEq, Prod.mk.injEq] at h
    obtain ⟨⟨h1, h2⟩, h3⟩ := h
    unfold Instr.findNow
    rw [h1, h2]
    simp only [Instr.sameNow, bs_beq]
    cases e : (s == k.1)
    · have e' : (k.1 == s) = false := by rw [beq_eq_false_iff_ne] at e ⊢; exact fun x => e x.symm
      rcases findNow_V s l ks (i + 1) h3 with ⟨v, q1, q2⟩ | ⟨q1, q2⟩
      · exact Or.inl ⟨v, by unfold lookV at *; rw [List.find?_cons, e']; exact q1, q2⟩
      · exact Or.inr ⟨by unfold lookV at *; rw [List.find?_cons, e']; exact q1, q2⟩
    · have e' : (k.1 == s) = true := by rw [beq_iff_eq] at e ⊢; exact e.symm
      exact Or.inl ⟨k.2, by unfold lookV; rw [List.find?_cons, e']; rfl, i, rfl⟩
theorem run_lookup_V {P : Program} {t kt e : TypeId} (ht : P.underlying t = some (.map kt e)) (hk : P.underlying kt = some .string) {w : World} {z : Value} (hz : (zeroValue e).run P w = .ok z w) {b : Nat} {l : VTab} (h : MapV w b l) (s : List UInt8) (ok : Bool) :
    (Instr.lookup t (.map (some b)) (.string (bs s)) ok).run P w = .ok (if ok then .tuple #[(lookV l s).getD z, .bool (lookV l s).isSome] else (lookV l s).getD z) w := by
  obtain ⟨es, clock, hb, hes⟩ := h
  have hc : ∀ b, (Instr.checkKey b 10000 kt (.string (bs s))).run P w = .ok () w := fun b => by
    rw [show (10000 : Nat) = 9999 + 1 from rfl, Instr.checkKey, Sem.run_bind, run_underlying hk]
    rfl
  rcases findNow_V s es.toList l 0 hes with ⟨v, q1, j, q2⟩ | ⟨q1, q2⟩
  · cases ok <;> simp [Instr.lookup, Instr.findKey, Sem.run_bind, run_underlying ht, run_underlying hk, MapKept.run_getObj_map hb, hc, q2, q1]
  · cases ok <;> simp [Instr.lookup, Instr.findKey, Sem.run_bind, run_underlying ht, run_underlying hk, MapKept.run_getObj_map hb, hc, q2, q1, hz]
/-- a table of names that lies below N in a map -/
def MapG (N g : Nat) (w : World) (look : List UInt8 → Option Value) : Prop := ∃ b l, w.cell? ⟨g, 0, none⟩ = some (.map (some b)) ∧ b < N ∧ MapV w b l ∧ ∀ s, lookV l s = look s
theorem MapG.below {N g : Nat} {w w' : World} {look : List UInt8 → Option Value} (h : MapG N g w look) (hg : g < N) (hb : Below N w w') : MapG N g w' look := by
  obtain ⟨b, l, h1, h2, h3, h4⟩ := h
  exact ⟨b, l, (hb.cell (p := ⟨g, 0, none⟩) hg).trans h1, h2, h3.block (hb.block b h2), h4⟩
theorem MapG.mono {N M g : Nat} {w : World} {look : List UInt8 → Option Value} (h : MapG N g w look) (hM : N ≤ M) : MapG M g w look := by
  obtain ⟨b, l, h1, h2, h3, h4⟩ := h
  exact ⟨b, l, h1, by omega, h3, h4⟩
def othS (s : List UInt8) : Option Value :=
  if s = wHole then some (.agg #[.string (bs wHole), .int .i64 6, .func (.func 325) #[] #[]]) else if s = wOrder then some (.agg #[.string (bs wOrder), .int .i64 0, .func (.func 326) #[] #[]]) else none
/-- the reader's methods -/
def fnR : Nat → FuncId
  | 0 => 327
  | 1 => 328
  | 2 => 329
  | 3 => 330
  | 4 => 331
  | 5 => 332
  | 6 => 333
  | 7 => 334
  | 8 => 335
  | _ => 336
def rdrS (s : List UInt8) : Option Value := (oNames.findIdx? (· == s)).map fun k => .func (.func (fnR k)) #[] #[]
/-- the tables, below N -/
structure TW (N : Nat) (w : World) : Prop where
  glo : 14 ≤ N
  par : ∀ i, i < 17 → w.rangeAt 0 (i * 3) [.string (bs (pNames.getD i [])), .int .i64 (digP (i + 1) : Int), .func (.func (fnP i)) #[] #[]]
  ord : ∃ a n c, w.cell? ⟨1, 0, none⟩ = some (.slice a n c) ∧ Wds w a n c oNames N
  oth : MapG N 3 w othS
  rdr : MapG N 4 w rdrS
  kin : ∃ a n c, w.cell? ⟨2, 0, none⟩ = some (.slice a n c) ∧ Wds w a n c kNames N
theorem TW.below {N : Nat} {w w' : World} (h : TW N w) (hb : Below N w w') : TW N w' := by
  refine ⟨h.glo, fun i hi j v hv => ?_, ?_, h.oth.below (Nat.lt_of_lt_of_le (show 3 < 14 by decide) h.glo) hb, h.rdr.below (Nat.lt_of_lt_of_le (show 4 < 14 by decide) h.glo) hb, ?_⟩
  · exact (hb.cell (p := ⟨0, i * 3 + j, none⟩) (Nat.lt_of_lt_of_le (show 0 < 14 by decide) h.glo)).trans (h.par i hi j v hv)
  · obtain ⟨a, n, c, h1, h2⟩ := h.ord
    exact ⟨a, n, c, (hb.cell (p := ⟨1, 0, none⟩) (Nat.lt_of_lt_of_le (show 1 < 14 by decide) h.glo)).trans h1, h2.kept (fun k hk => hb.block k hk) (Nat.le_refl _)⟩
  · obtain ⟨a, n, c, h1, h2⟩ := h.kin
    exact ⟨a, n, c, (hb.cell (p := ⟨2, 0, none⟩) (Nat.lt_of_lt_of_le (show 2 < 14 by decide) h.glo)).trans h1, h2.kept (fun k hk => hb.block k hk) (Nat.le_refl _)⟩
/-! ### slices.Index over names -/
def idxV (o : Option Nat) : Int := match o with
  | some i => (i : Int)
  | none => -1
theorem findIdx_at {l : List (List UInt8)} {s : List UInt8} {k : Nat} {x : List UInt8} (hx : l[k]? = some x) (hno : ∀ y ∈ l.take k, (y == s) = false) (h : (x == s) = true) : l.findIdx? (· == s) = some k := by
  have hk := (List.getElem?_eq_some_iff.1 hx).1
  rw [List.findIdx?_eq_some_iff_getElem]
  refine ⟨hk, by rw [(List.getElem?_eq_some_iff.1 hx).2]; exact h, fun j hj => ?_⟩
  have := hno l[j] (List.mem_take_iff_getElem.2 ⟨j, by omega, rfl⟩)
  simp [this]
theorem findIdx_no {l : List (List UInt8)} {s : List UInt8} (hno : ∀ y ∈ l, (y == s) = false) : l.findIdx? (· == s) = none := by
  rw [List.findIdx?_eq_none_iff]; exact hno
theorem take_no {l : List (List UInt8)} {s x : List UInt8} {k : Nat} (hx : l[k]? = some x) (hno : ∀ y ∈ l.take k, (y == s) = false) (h : (x == s) = false) : ∀ y ∈ l.take (k + 1), (y == s) = false := by
  intro y hy
  have hk := (List.getElem?_eq_some_iff.1 hx).1
  rw [List.take_add_one, hx] at hy
  rcases List.mem_append.1 hy with hy | hy
  · exact hno y hy
  · simp at hy; subst hy; exact h
set_option maxHeartbeats 800000 in
theorem indexS_any (l : List (List UInt8)) (s : List UInt8) (a : Option Addr) (n c N : Nat) (w : World) (h : Wds w a n c l N) (hN : N ≤ w.heap.size) (hn : n ≤ 100000) :
    Calls Tryz.prog 90 #[.slice a n c, .string (bs s)] w (RetB w (.int .i64 (idxV (l.findIdx? (· == s))))) := by
  have hl := h.1
  have H := Lib.hid h; have Hl := Lib.hid hl; clear h hl
  go_enter Tryz.func90, Tryz.ntmps90
  go_wp2_with fail
  go_loopw [8] (fun iv wr => ∃ k : Nat, k ≤ n ∧ iv = .int .i64 (k : Int) ∧ (∀ y ∈ l.take k, (y == s) = false) ∧ Below w.heap.size w wr) (fun iv _ => n - (intOf iv).toNat)
  case atStart => exact ⟨0, Nat.zero_le _, rfl, by simp, Below.refl _ _⟩
  case round =>
    obtain ⟨k, hk, rfl, hno, hb0⟩ := hrel
    have Hno := Lib.hid hno; have Hb := Lib.hid hb0; clear hno hb0
    by_cases hkn : k < n
    · obtain ⟨x, hx⟩ : ∃ x, l[k]? = some x := ⟨l[k]'(by have := Hl.out; omega), List.getElem?_eq_getElem _⟩
      obtain ⟨g, off, rfl, hgl, hc⟩ := H.out.2.2 (by omega)
      have c0 : wr.cell? ⟨g, off + k, none⟩ = some (.string (bs x)) := (Hb.out.cell (p := ⟨g, off + k, none⟩) (Nat.lt_of_lt_of_le hgl hN)).trans (hc k x hx)
      clear hc
      cases hb : (s == x)
      · have hb' : (x == s) = false := by rw [beq_eq_false_iff_ne] at hb ⊢; exact fun e => hb e.symm
        have Hno2 := Lib.hid (take_no hx Hno.out hb')
        clear hx hb' Hno
        go_wp2_with fail
        go_roundw
        case rel => exact ⟨k + 1, by omega, by go_num, Hno2.out, Hb.out⟩
        case measure => simp [intOf]; omega
      · have hb' : (x == s) = true := by rw [beq_iff_eq] at hb ⊢; exact hb.symm
        have hf := findIdx_at hx Hno.out hb'
        have Hf := Lib.hid hf
        clear hx hb' Hno hf
        go_wp2_with fail
        go_ret
        exact ⟨by rw [Hf.out]; rfl, Hb.out⟩
    · obtain rfl : k = n := by omega
      have hf : l.findIdx? (· == s) = none := findIdx_no (fun y hy => Hno.out y (by rw [List.take_of_length_le (by have := Hl.out; omega)]; exact hy))
      have Hf := Lib.hid hf; clear hf
      go_wp2_with fail
      go_ret
      exact ⟨by rw [Hf.out]; rfl, Hb.out⟩
end Go.Proofs.YtgohdcccfkjooaaGreatDoor

namespace Go.Proofs.YtgohdcccfkjooaaGreatDoor
open Go.RowKit

def offP : Nat → Nat
  | 0 => 1
  | 1 => 2
  | 2 => 3
  | 3 => 4
  | 4 => 5
  | 5 => 6
  | 6 => 7
  | 7 => 8
  | 8 => 12
  | 9 => 14
  | 10 => 16
  | 11 => 17
  | 12 => 18
  | 13 => 19
  | 14 => 20
  | 15 => 9
  | 16 => 10
  | _ => 0
theorem par1_any (b k : Nat) (w : World) : Calls Tryz.prog 308 #[.pointer (some ⟨b, k, none⟩)] w fun e w' => e = .returned (.pointer (some ⟨b, k + 1, none⟩)) ∧ w = w' := by
  go_enter Tryz.func308, Tryz.ntmps308
  go_wp2_with fail
  go_ret
  exact ⟨rfl, rfl⟩
theorem par2_any (b k : Nat) (w : World) : Calls Tryz.prog 309 #[.pointer (some ⟨b, k, none⟩)] w fun e w' => e = .returned (.pointer (some ⟨b, k + 2, none⟩)) ∧ w = w' := by
  go_enter Tryz.func309, Tryz.ntmps309
  go_wp2_with fail
  go_ret
  exact ⟨rfl, rfl⟩
theorem par3_any (b k : Nat) (w : World) : Calls Tryz.prog 310 #[.pointer (some ⟨b, k, none⟩)] w fun e w' => e = .returned (.pointer (some ⟨b, k + 3, none⟩)) ∧ w = w' := by
  go_enter Tryz.func310, Tryz.ntmps310
  go_wp2_with fail
  go_ret
  exact ⟨rfl, rfl⟩
theorem par4_any (b k : Nat) (w : World) : Calls Tryz.prog 311 #[.pointer (some ⟨b, k, none⟩)] w fun e w' => e = .returned (.pointer (some ⟨b, k + 4, none⟩)) ∧ w = w' := by
  go_enter Tryz.func311, Tryz.ntmps311
  go_wp2_with fail
  go_ret
  exact ⟨rfl, rfl⟩
theorem par5_any (b k : Nat) (w : World) : Calls Tryz.prog 312 #[.pointer (some ⟨b, k, none⟩)] w fun e w' => e = .returned (.pointer (some ⟨b, k + 5, none⟩)) ∧ w = w' := by
  go_enter Tryz.func312, Tryz.ntmps312
  go_wp2_with fail
  go_ret
  exact ⟨rfl, rfl⟩
theorem par6_any (b k : Nat) (w : World) : Calls Tryz.prog 313 #[.pointer (some ⟨b, k, none⟩)] w fun e w' => e = .returned (.pointer (some ⟨b, k + 6, none⟩)) ∧ w = w' := by
  go_enter Tryz.func313, Tryz.ntmps313
  go_wp2_with fail
  go_ret
  exact ⟨rfl, rfl⟩
theorem par7_any (b k : Nat) (w : World) : Calls Tryz.prog 314 #[.pointer (some ⟨b, k, none⟩)] w fun e w' => e = .returned (.pointer (some ⟨b, k + 7, none⟩)) ∧ w = w' := by
  go_enter Tryz.func314, Tryz.ntmps314
  go_wp2_with fail
  go_ret
  exact ⟨rfl, rfl⟩
theorem par8_any (b k : Nat) (w : World) : Calls Tryz.prog 315 #[.pointer (some ⟨b, k, none⟩)] w fun e w' => e = .returned (.pointer (some ⟨b, k + 8, none⟩)) ∧ w = w' := by
  go_enter Tryz.func315, Tryz.ntmps315
  go_wp2_with fail
  go_ret
  exact ⟨rfl, rfl⟩
theorem par9_any (b k : Nat) (w : World) : Calls Tryz.prog 316 #[.pointer (some ⟨b, k, none⟩)] w fun e w' => e = .returned (.pointer (some ⟨b, k + 12, none⟩)) ∧ w = w' := by
  go_enter Tryz.func316, Tryz.ntmps316
  go_wp2_with fail
  go_ret
  exact ⟨rfl, rfl⟩
theorem par10_any (b k : Nat) (w : World) : Calls Tryz.prog 317 #[.pointer (some ⟨b, k, none⟩)] w fun e w' => e = .returned (.pointer (some ⟨b, k + 14, none⟩)) ∧ w = w' := by
  go_enter Tryz.func317, Tryz.ntmps317
  go_wp2_with fail
  go_ret
  exact ⟨rfl, rfl⟩
theorem par11_any (b k : Nat) (w : World) : Calls Tryz.prog 318 #[.pointer (some ⟨b, k, none⟩)] w fun e w' => e = .returned (.pointer (some ⟨b, k + 16, none⟩)) ∧ w = w' := by
  go_enter Tryz.func318, Tryz.ntmps318
  go_wp2_with fail
  go_ret
  exact ⟨rfl, rfl⟩
theorem par12_any (b k : Nat) (w : World) : Calls Tryz.prog 319 #[.pointer (some ⟨b, k, none⟩)] w fun e w' => e = .returned (.pointer (some ⟨b, k + 17, none⟩)) ∧ w = w' := by
  go_enter Tryz.func319, Tryz.ntmps319
  go_wp2_with fail
  go_ret
  exact ⟨rfl, rfl⟩
theorem par13_any (b k : Nat) (w : World) : Calls Tryz.prog 320 #[.pointer (some ⟨b, k, none⟩)] w fun e w' => e = .returned (.pointer (some ⟨b, k + 18, none⟩)) ∧ w = w' := by
  go_enter Tryz.func320, Tryz.ntmps320
  go_wp2_with fail
  go_ret
  exact ⟨rfl, rfl⟩
theorem par14_any (b k : Nat) (w : World) : Calls Tryz.prog 321 #[.pointer (some ⟨b, k, none⟩)] w fun e w' => e = .returned (.pointer (some ⟨b, k + 19, none⟩)) ∧ w = w' := by
  go_enter Tryz.func321, Tryz.ntmps321
  go_wp2_with fail
  go_ret
  exact ⟨rfl, rfl⟩
theorem par15_any (b k : Nat) (w : World) : Calls Tryz.prog 322 #[.pointer (some ⟨b, k, none⟩)] w fun e w' => e = .returned (.pointer (some ⟨b, k + 20, none⟩)) ∧ w = w' := by
  go_enter Tryz.func322, Tryz.ntmps322
  go_wp2_with fail
  go_ret
  exact ⟨rfl, rfl⟩
theorem par16_any (b k : Nat) (w : World) : Calls Tryz.prog 323 #[.pointer (some ⟨b, k, none⟩)] w fun e w' => e = .returned (.pointer (some ⟨b, k + 9, none⟩)) ∧ w = w' := by
  go_enter Tryz.func323, Tryz.ntmps323
  go_wp2_with fail
  go_ret
  exact ⟨rfl, rfl⟩
theorem par17_any (b k : Nat) (w : World) : Calls Tryz.prog 324 #[.pointer (some ⟨b, k, none⟩)] w fun e w' => e = .returned (.pointer (some ⟨b, k + 10, none⟩)) ∧ w = w' := by
  go_enter Tryz.func324, Tryz.ntmps324
  go_wp2_with fail
  go_ret
  exact ⟨rfl, rfl⟩
theorem oth_hole (b k : Nat) (w : World) : Calls Tryz.prog 325 #[.pointer (some ⟨b, k, none⟩)] w fun e w' => e = .returned (.pointer (some ⟨b, k + 15, none⟩)) ∧ w = w' := by
  go_enter Tryz.func325, Tryz.ntmps325
  go_wp2_with fail
  go_ret
  exact ⟨rfl, rfl⟩
theorem oth_order (b k : Nat) (w : World) : Calls Tryz.prog 326 #[.pointer (some ⟨b, k, none⟩)] w fun e w' => e = .returned (.pointer (some ⟨b, k + 11, none⟩)) ∧ w = w' := by
  go_enter Tryz.func326, Tryz.ntmps326
  go_wp2_with fail
  go_ret
  exact ⟨rfl, rfl⟩
theorem fnP_any (i : Nat) (hi : i < 17) (b k : Nat) (w : World) : Calls Tryz.prog (fnP i) #[.pointer (some ⟨b, k, none⟩)] w fun e w' => e = .returned (.pointer (some ⟨b, k + offP i, none⟩)) ∧ w = w' := by
  match i, hi with
  | 0, _ => exact par1_any b k w
  | 1, _ => exact par2_any b k w
  | 2, _ => exact par3_any b k w
  | 3, _ => exact par4_any b k w
  | 4, _ => exact par5_any b k w
  | 5, _ => exact par6_any b k w
  | 6, _ => exact par7_any b k w
  | 7, _ => exact par8_any b k w
  | 8, _ => exact par9_any b k w
  | 9, _ => exact par10_any b k w
  | 10, _ => exact par11_any b k w
  | 11, _ => exact par12_any b k w
  | 12, _ => exact par13_any b k w
  | 13, _ => exact par14_any b k w
  | 14, _ => exact par15_any b k w
  | 15, _ => exact par16_any b k w
  | 16, _ => exact par17_any b k w
  | i + 17, hi => omega
theorem offP_place (i : Nat) (hi : i < 17) : offP i = placeOff ((i : Int) + 1) := by
  match i, hi with
  | 0, _ => rfl
  | 1, _ => rfl
  | 2, _ => rfl
  | 3, _ => rfl
  | 4, _ => rfl
  | 5, _ => rfl
  | 6, _ => rfl
  | 7, _ => rfl
  | 8, _ => rfl
  | 9, _ => rfl
  | 10, _ => rfl
  | 11, _ => rfl
  | 12, _ => rfl
  | 13, _ => rfl
  | 14, _ => rfl
  | 15, _ => rfl
  | 16, _ => rfl
  | i + 17, hi => omega

theorem Tryz.infoPar : (Tryz.prog.info? 116).map (·.size) = some 3 := by kernel_rfl
theorem wpL_load_par {ops : Array Oper} {rest : List Oper} {op : Oper} {ac : Act} {w : World} {Q : Exit → Act → World → Prop} {b o : Nat} {s : ByteArray} {d : Int} {f : Value} (p : Operand) (ho : op.op = .load 116 p) (hgd : op.guard = none)
    (hx : ac.eval p = .pointer (some ⟨b, o, none⟩)) (h : w.rangeAt b o [.string s, .int .i64 d, f]) (hk : wpList Tryz.prog ops Q rest (ac.put op.dst (.agg #[.string s, .int .i64 d, f])) w) : wpList Tryz.prog ops Q (op :: rest) ac w :=
  wpList_load_mid hgd 116 p ho b o hx [.string s, .int .i64 d, f] _ h Tryz.underlying116 rfl Tryz.infoPar hk

/-! ### find -/
theorem lt_of_cell {w : World} {b j : Nat} {v : Value} (h : w.cell? ⟨b, j, none⟩ = some v) : b < w.heap.size := by
  apply Decidable.byContradiction
  intro hn
  rw [World.cell?, Array.getElem?_eq_none (by show w.heap.size ≤ b; omega)] at h
  cases h
def findI (s : List UInt8) : Int := idxV (pNames.findIdx? (· == s))
set_option maxHeartbeats 800000 in
theorem findC_any (x s : List UInt8) (d : Int) (f : Value) (b : Nat) (w : World) (hb : w.cell? ⟨b, 0, none⟩ = some (.string (bs s))) :
    Calls Tryz.prog 182 #[.agg #[.string (bs x), .int .i64 d, f], .pointer (some ⟨b, 0, none⟩)] w (RetB w (.bool (x == s))) := by
  have hl := lt_of_cell hb
  have hal := (Below.refl w.heap.size w).alloc (Nat.le_refl _) (.cells #[.string (bs x), .int .i64 d, f] 116)
  have h0 := heap_alloc_new w (.cells #[.string (bs x), .int .i64 d, f] 116)
  have c0 := obj_cell h0 0
  have cb := (hal.cell (p := ⟨b, 0, none⟩) hl).trans hb
  have Hal := Lib.hid hal
  clear hb hal h0
  go_enter Tryz.func182, Tryz.ntmps182
  go_wp2_with fail
  go_ret
  exact ⟨rfl, Hal.out⟩
set_option maxRecDepth 100000 in
set_option maxHeartbeats 1600000 in
theorem indexP_any (s : List UInt8) (b N : Nat) (w : World) (hT : TW N w) (hN : N ≤ w.heap.size) (hb : w.cell? ⟨b, 0, none⟩ = some (.string (bs s))) :
    Calls Tryz.prog 181 #[.slice (some ⟨0, 0, none⟩) 17 17, .func (.func 182) #[] #[.pointer (some ⟨b, 0, none⟩)]] w (RetB w (.int .i64 (findI s))) := by
  have hbl := lt_of_cell hb
  have HT := Lib.hid hT; have Hcb := Lib.hid hb; clear hT hb
  go_enter Tryz.func181, Tryz.ntmps181
  go_wp2_with fail
  go_loopw [8] (fun iv wr => ∃ k : Nat, k ≤ 17 ∧ iv = .int .i64 (k : Int) ∧ (∀ y ∈ pNames.take k, (y == s) = false) ∧ Below w.heap.size w wr) (fun iv _ => 17 - (intOf iv).toNat)
  case atStart => exact ⟨0, Nat.zero_le _, rfl, by simp, Below.refl _ _⟩
  case round =>
    obtain ⟨k, hk, rfl, hno, hb0⟩ := hrel
    have Hno := Lib.hid hno; have Hb := Lib.hid hb0; clear hno hb0
    by_cases hkn : k < 17
    · have hx : pNames[k]? = some (pNames.getD k []) := by rw [List.getD_eq_getElem?_getD, List.getElem?_eq_getElem (show k < pNames.length from hkn)]; rfl
      have hr := (HT.out.below (Hb.out.mono hN)).par k hkn
      have Hr := Lib.hid hr; have Hx := Lib.hid hx
      clear hr hx
      generalize pNames.getD k [] = x at *
      have hcb : wr.cell? ⟨b, 0, none⟩ = some (.string (bs s)) := (Hb.out.cell (p := ⟨b, 0, none⟩) hbl).trans Hcb.out
      have Hc := Lib.hid hcb; clear hcb
      go_wp2_with (refine wpL_load_par (.tmp 14) rfl rfl rfl Hr.out ?_)
      refine (findC_any x s _ _ b wr Hc.out).mono ?_
      rintro e w1 ⟨rfl, hb1⟩
      have Hb1 := Lib.hid (Hb.out.trans (hb1.mono Hb.out.size)); clear hb1
      cases hbx : (x == s)
      · have Hno2 := Lib.hid (take_no Hx.out Hno.out hbx)
        clear Hno
        go_wp2_with fail
        go_roundw
        case rel => exact ⟨k + 1, by omega, by go_num, Hno2.out, Hb1.out⟩
        case measure => simp [intOf]; omega
      · have Hf := Lib.hid (findIdx_at Hx.out Hno.out hbx)
        clear Hno
        go_wp2_with fail
        go_ret
        exact ⟨by unfold findI; rw [Hf.out]; rfl, Hb1.out⟩
    · obtain rfl : k = 17 := by omega
      have hf : pNames.findIdx? (· == s) = none := findIdx_no (fun y hy => Hno.out y (by rw [List.take_of_length_le (by decide)]; exact hy))
      have Hf := Lib.hid hf; clear hf
      go_wp2_with fail
      go_ret
      exact ⟨by unfold findI; rw [Hf.out]; rfl, Hb.out⟩
theorem find_any (s : List UInt8) (N : Nat) (w : World) (hT : TW N w) (hN : N ≤ w.heap.size) : Calls Tryz.prog 139 #[.string (bs s)] w (RetB w (.int .i64 (findI s))) := by
  have hal := (Below.refl w.heap.size w).alloc (Nat.le_refl _) (.cells #[.string (bs s)] 9)
  have h0 := heap_alloc_new w (.cells #[.string (bs s)] 9)
  have c0 := obj_cell h0 0
  have HT := Lib.hid (hT.below (hal.mono hN)); have Hal := Lib.hid hal; have Hc := Lib.hid c0
  clear hT hal h0 c0
  go_enter Tryz.func139, Tryz.ntmps139
  go_wp2_with fail
  refine (indexP_any s w.heap.size N _ HT.out (by simp; omega) Hc.out).mono ?_
  rintro e w1 ⟨rfl, hb⟩
  have Hb := Lib.hid (Hal.out.trans (hb.mono Hal.out.size)); clear hb
  go_wp2_with fail
  go_ret
  exact ⟨rfl, Hb.out⟩
end Go.Proofs.YtgohdcccfkjooaaGreatDoor

namespace Go.Proofs.YtgohdcccfkjooaaGreatDoor
open Go.RowKit

/-- what the rounds keep (I: the block of the lines, how many lines have come) and what a round that panics leaves (Ix) -/
structure ItI (t : List UInt8) (I : Nat → Nat → World → Prop) (Ix : List PanicEntry → World → Prop) (l n : Nat) : Prop where
  lines : ∀ g i W, I g i W → W.heap[g]? = some (.cells (strCs (linesOf [] t)).toArray 9 (0, 0))
  gw : ∀ g i W, I g i W → GW W
  go : ∀ g i W W', I g i W → Below W.heap.size W W' → I g i W'
  skip : ∀ g i W s, I g i W → (linesOf [] t)[i]? = some s → skipS (wordsS [] s) = true → I g (i + 1) W
  yield : ∀ g i W s A, I g i W → (linesOf [] t)[i]? = some s → skipS (wordsS [] s) = false → Wds W (some ⟨A, 0, none⟩) (wordsS [] s).length (wordsS [] s).length (wordsS [] s) W.heap.size →
    YieldAt Fence.wide n Tryz.prog l #[.int .i64 ((i : Int) + 1), .slice (some ⟨A, 0, none⟩) (wordsS [] s).length (wordsS [] s).length] W fun e W' =>
      (e = .returned (.bool true) ∧ I g (i + 1) W') ∨ ∃ chain, e = .panicked chain ∧ Ix chain W'
def LinesR (t : List UInt8) (I : Nat → Nat → World → Prop) (Ix : List PanicEntry → World → Prop) (e : Ending) (w' : World) : Prop :=
  (e = .returned (.tuple #[]) ∧ ∃ g, I g (linesOf [] t).length w') ∨ ∃ chain, e = .panicked chain ∧ Ix chain w'
set_option maxRecDepth 100000 in
set_option maxHeartbeats 1600000 in
theorem lines_any (t : List UInt8) (I : Nat → Nat → World → Prop) (Ix : List PanicEntry → World → Prop) (l n b : Nat) (w : World) (hI : ItI t I Ix l n) (hb : w.cell? ⟨b, 0, none⟩ = some (.string (bs t))) (hg : GW w) (ht : t.length ≤ 100000)
    (h0 : I w.heap.size 0 (w.alloc (.cells (strCs (linesOf [] t)).toArray 9))) :
    Calls Tryz.prog 87 #[.func (.yield l) #[] #[], .pointer (some ⟨b, 0, none⟩)] w (LinesR t I Ix) := by
  have HI := Lib.hid hI; have Hg := Lib.hid hg
  have hN := lines_many t []
  have hLs := lines_len t []
  have HLs := Lib.hid hLs
  clear hI hg hLs
  go_enter Tryz.func87, Tryz.ntmps87
  go_wp2_with fail
  refine (splitL_any t w Hg.out (by omega)).mono ?_
  rintro e w1 ⟨rfl, rfl⟩
  generalize (w.alloc (.cells (strCs (linesOf [] t)).toArray 9)) = w1 at *
  generalize w.heap.size = g at *
  have H0 := Lib.hid h0; clear h0 hb Hg
  obtain ⟨N, hNN⟩ : ∃ N, (linesOf [] t).length = N := ⟨_, rfl⟩
  rw [hNN] at hN ⊢
  go_upto_region 1 with fail
  go_loopw [9] (fun iv wr => ∃ i : Nat, i ≤ N ∧ iv = .int .i64 (i : Int) ∧ I g i wr) (fun iv _ => N - (intOf iv).toNat)
  case atStart => exact ⟨0, Nat.zero_le _, rfl, H0.out⟩
  case round =>
    clear H0
    obtain ⟨i, hi, rfl, hi0⟩ := hrel
    have Hi := Lib.hid hi0; clear hi0
    by_cases hiN : i < N
    · obtain ⟨s, hs⟩ : ∃ s, (linesOf [] t)[i]? = some s := ⟨(linesOf [] t)[i]'(by omega), List.getElem?_eq_getElem _⟩
      have c0 : wr.cell? ⟨g, i, none⟩ = some (.string (bs s)) := by
        rw [obj_cell (HI.out.lines g i wr Hi.out) i, List.getElem?_toArray, strCs, List.getElem?_map, hs]; rfl
      have hsl : s.length ≤ 1000000 := by have := HLs.out s (List.mem_of_getElem? hs); simp at this; omega
      have Hs := Lib.hid hs; clear hs
      go_wp2_with fail
      refine (fields_any s wr hsl).mono ?_
      rintro e w2 ⟨A, rfl, hw, hb⟩
      have Hw := Lib.hid hw; have Hi2 := Lib.hid (HI.out.go g i wr w2 Hi.out hb)
      have hne := fun v hv => wordsS_ne s [] v hv
      have Hne := Lib.hid hne
      have hsk := HI.out.skip g i w2 s Hi2.out Hs.out
      have hyl := HI.out.yield g i w2 s A Hi2.out Hs.out
      have hwl := wordsS_many s []
      have Hsk := Lib.hid hsk; have Hyl := Lib.hid hyl
      clear hb c0 Hi hne hsk hyl
      generalize wordsS [] s = ws at *
      cases ws with
      | nil =>
        have Hi3 := Lib.hid (Hsk.out rfl)
        clear Hsk Hyl Hw hw
        go_wp2_with fail
        go_roundw
        case rel => exact ⟨i + 1, by omega, by go_num, Hi3.out⟩
        case measure => simp [intOf]; omega
      | cons wd wr2 =>
        have hwd := Hne.out wd List.mem_cons_self
        cases wd with
        | nil => exact absurd rfl hwd
        | cons y wd2 =>
          clear hwd
          have hc0 : w2.cell? ⟨A, 0, none⟩ = some (.string (bs (y :: wd2))) := by
            obtain ⟨q, off, e1, e2, e3⟩ := hw.2.2 (by simp)
            cases e1
            exact e3 0 _ rfl
          have hn0 : (((y :: wd2) :: wr2).length : Int) ≠ 0 := by simp; omega
          have hlw : ((y :: wd2) :: wr2).length ≤ 1000010 := by omega
          clear hw
          by_cases hb35 : y = 35
          · have Hi3 := Lib.hid (Hsk.out (by subst hb35; rfl))
            have hb2 : (((bs (y :: wd2))[0]'(by show 0 < (y :: wd2).length; simp)).toNat : Int) = 35 := by
              show (y.toNat : Int) = 35
              subst hb35; rfl
            clear hb35 Hsk Hyl Hw
            go_wp2_with fail
            go_roundw
            case rel => exact ⟨i + 1, by omega, by go_num, Hi3.out⟩
            case measure => simp [intOf]; omega
          · have hne35 : skipS ((y :: wd2) :: wr2) = false := by
              show ((some y : Option UInt8) == some 35) = false
              rw [beq_eq_false_iff_ne]
              intro e; exact hb35 (Option.some.inj e)
            have hb2 : ¬ (((bs (y :: wd2))[0]'(by show 0 < (y :: wd2).length; simp)).toNat : Int) = 35 := by
              show ¬ (y.toNat : Int) = 35
              intro e
              have h35 : y.toNat = (35 : UInt8).toNat := by
                show y.toNat = 35
                omega
              exact hb35 (UInt8.toNat.inj h35)
            obtain ⟨fn, tm, asg, bd, hy, hR⟩ := Hyl.out hne35 Hw.out
            rw [List.length_cons] at hy
            have HR := Lib.hid hR
            clear hb35 Hsk Hyl Hw hne35 hR
            go_upto_region 4 with fail
            refine (wpIn_wide (n := n + 1)).1 ?_
            gi_wp2
            refine HR.out.mono ?_
            rintro e w3 (⟨rfl, hi3⟩ | ⟨chain, rfl, hix⟩)
            · have Hi3 := Lib.hid hi3
              clear hi3 HR hy
              gi_wp2
              go_wp2_with fail
              go_roundw
              case rel => exact ⟨i + 1, by omega, by go_num, Hi3.out⟩
              case measure => simp [intOf]; omega
            · have hr : LinesR t I Ix (.panicked chain) w3 := Or.inr ⟨chain, rfl, hix⟩
              have Hr := Lib.hid hr
              clear hr hix HR hy
              gi_wp2
              exact ⟨rfl, Hr.out⟩
    · obtain rfl : i = N := by omega
      have hr : LinesR t I Ix (.returned (.tuple #[])) wr := Or.inl ⟨rfl, g, by rw [hNN]; exact Hi.out⟩
      have Hr := Lib.hid hr; clear hr
      go_wp2_with fail
      go_end0
      exact Hr.out
end Go.Proofs.YtgohdcccfkjooaaGreatDoor

namespace Go.Proofs.YtgohdcccfkjooaaGreatDoor
open Go.RowKit

set_option maxRecDepth 100000 in
set_option maxHeartbeats 1600000 in
theorem catchS_idle (p q : Addr) (n : Nat) (w : World) :
    CallsDIn Fence.wide n Tryz.prog 50 #[.pointer (some p), .pointer (some q)] .returning w fun e u' w' => e = .returned (.tuple #[]) ∧ u' = .returning ∧ w' = w := by
  refine callsDIn_of_wpSIn Tryz.func50 rfl trivial fun c₀ cs hu => ?_
  apply wpSIn_seq
  apply wpSIn_region
  simp [wpOpsSIn, go_sem, recoverD, hu, Tryz.ntmps50, Exit.thenS]
  refine wpSIn_of_wpIn rfl ((wpIn_wide (n := n)).2 (wp_mono (Q := fun e a' w' => e = .normal ∧ a'.defers = [] ∧ w' = w) ?_ ?_))
  · go_wp2_with fail
  · rintro e a' w' ⟨rfl, hd, rfl⟩
    exact ⟨hd, _, by cases c₀; simp_all, _, by simp [results, Tryz.results50], rfl, rfl, rfl⟩

/-- what the closure leaves where it has recovered -/
def Caught (p q : Nat) (w w' : World) : Prop := BenchB w' p 37 lens0 ptr0 ptr0 ptr0 ptr0 ∧ w'.heap[q]? = some (.cells #[.int .i64 5] 44 (0, 0)) ∧ (∀ k, k < w.heap.size → k ≠ p → k ≠ q → w'.heap[k]? = w.heap[k]?) ∧ Below (min p q) w w'
set_option maxRecDepth 100000 in
set_option maxHeartbeats 1600000 in
theorem catchS_panicking (p q : Nat) (hpq : p ≠ q) (older : List PanicEntry) (n : Nat) (w : World) {cs : Array Value} {e0 : Value} (hp : w.heap[p]? = some (.cells cs 37 (0, 0))) (hsz : cs.size = 9) (hq : w.heap[q]? = some (.cells #[e0] 44 (0, 0))) :
    CallsDIn Fence.wide n Tryz.prog 50 #[.pointer (some ⟨p, 0, none⟩), .pointer (some ⟨q, 0, none⟩)] (.panicking ({ v := .iface 124 (.agg #[]), recovered := false } :: older)) w fun e u' w' =>
      e = .returned (.tuple #[]) ∧ u' = .panicking ({ v := .iface 124 (.agg #[]), recovered := true } :: older) ∧ Caught p q w w' := by
  refine callsDIn_of_wpSIn Tryz.func50 rfl trivial fun c₀ cs hu => ?_
  apply wpSIn_seq
  apply wpSIn_region
  simp [wpOpsSIn, go_sem, recoverD, hu, Tryz.ntmps50, Exit.thenS]
  refine wpSIn_of_wpIn rfl ((wpIn_wide (n := n)).2 (wp_mono (Q := fun e a' w' => e = .normal ∧ a'.defers = [] ∧ Caught p q w w') ?_ ?_))
  rotate_left
  · rintro e a' w' ⟨rfl, hd, hc⟩
    exact ⟨hd, _, rfl, _, by simp [results, Tryz.results50], rfl, rfl, hc⟩
  have hpl := lt_of_block hp
  have hql := lt_of_block hq
  have hal := (Below.refl w.heap.size w).alloc (Nat.le_refl _) (.cells #[] 124)
  have hp1 := (hal.block p hpl).trans hp
  have hq1 := (hal.block q hql).trans hq
  have hd := obj_cell hq1 0
  have hdf := obj_free hq1 0
  have Hp1 := Lib.hid hp1; have Hq1 := Lib.hid hq1; have Hal := Lib.hid hal; have Hu := Lib.hid hu
  clear hp1 hq1 hal hp hq hu
  have hta : ∀ x : World, (Instr.typeAssert (.iface 124 (.agg #[])) 20 124 true).run Tryz.prog x = .ok (.tuple #[.agg #[], .bool true]) x := fun _ => by kernel_rfl
  go_upto_region 7 with fail
  have hs1 : w.heap.size < (w.alloc (.cells #[] 124)).heap.size := by simp
  generalize (w.alloc (.cells #[] 124)) = w1 at *
  clear hd hdf
  have hput : ∀ w2 : World, w2 = w1.setCells p 0 (cells9 lens0 ptr0 ptr0 ptr0 ptr0) → w2.heap[q]? = some (.cells #[e0] 44 (0, 0)) := fun w2 e2 => by
    rw [e2]
    exact (keptOn_setCells p _ 0 w1 q (fun e => hpq e.symm)).trans Hq1.out
  have Hput := Lib.hid hput; clear hput
  go_wp2_with (refine wpL_store_lens lens0 ptr0 ptr0 ptr0 ptr0 Hp1.out hsz rfl (.tmp 0) (.tmp 11) rfl rfl rfl ?_; intro w2 h2 e2; have hd2 := obj_cell (Hput.out w2 e2) 0; have hf2 := obj_free (Hput.out w2 e2) 0; have H2 := Lib.hid h2; have E2 := Lib.hid e2; clear h2 e2)
  have Hq2 := Lib.hid (Hput.out _ E2.out)
  refine ⟨?_, obj_setCell Hq2.out 0 (.int .i64 5), ?_, ?_⟩
  · exact obj_other H2.out ⟨q, 0, none⟩ (fun e => hpq e.symm) (.int .i64 5)
  · intro k hk h1 h2
    refine (Below.heap_setCell _ _ _ _ (fun e => h2 e)).trans ?_
    rw [E2.out]
    exact (keptOn_setCells p _ 0 w1 k h1).trans (Hal.out.block k hk)
  · have hb2 : Below (min p q) w w2 := by
      rw [E2.out]
      exact below_setCells (b := p) (Nat.min_le_left _ _) _ _ (Hal.out.mono (by omega))
    exact hb2.setCell (p := ⟨q, 0, none⟩) (Nat.min_le_right _ _) _
end Go.Proofs.YtgohdcccfkjooaaGreatDoor

namespace Go.Proofs.YtgohdcccfkjooaaGreatDoor
open Go.RowKit

def rdCells (r : RdS) (f v s k : Ptr) (m : Value) : List Value := cells9 r.x f v s k ++ [.int .i64 r.at_, m]
def ReaderB (w : World) (g : Nat) (r : RdS) (f v s k : Ptr) (m : Value) : Prop := w.heap[g]? = some (.cells (rdCells r f v s k m).toArray 128 (0, 0))
def ReadP (Rd : Nat → (Nat → Prop) → RdS → World → Prop) (g c : Nat) (D : Nat → Prop) (r : RdS) (ws : List (List UInt8)) (W : World) (e : Ending) (W' : World) : Prop :=
  Below g W W' ∧ (∀ k, k < W.heap.size → ¬ D k → W'.heap[k]? = W.heap[k]?) ∧
    ((∃ q, lineR r ws = some q ∧ e = .returned (.tuple #[]) ∧ ∃ D' : Nat → Prop, (∀ b, D' b → D b ∨ W.heap.size ≤ b) ∧ Rd (c + 1) D' q W') ∨ (lineR r ws = none ∧ e = MalS))
/-- what is asked of a reader at block g, whose lists lie at or beyond B; D: the blocks that it may still write; c: how many lines it has read -/
structure RdSpec (B g : Nat) (Rd : Nat → (Nat → Prop) → RdS → World → Prop) : Prop where
  lens : ∀ c D r W, Rd c D r W → ∃ f v s k m, ReaderB W g r f v s k m ∧ LensAt (fun b => B ≤ b ∧ b < W.heap.size) W r.x f v s k
  own : ∀ c D r W b, Rd c D r W → D b → (b = g ∨ B ≤ b) ∧ b < W.heap.size
  kept : ∀ c D r W W', Rd c D r W → (∀ k, k = g ∨ B ≤ k → k < W.heap.size → W'.heap[k]? = W.heap[k]?) → W.heap.size ≤ W'.heap.size → Rd c D r W'
  read : ∀ c D r W ws A, Rd c D r W → Wds W (some ⟨A, 0, none⟩) ws.length ws.length ws W.heap.size → ws ≠ [] → (∀ s ∈ ws, s.length ≤ 100000) → ws.length ≤ 100001 → c ≤ 100001 → B ≤ W.heap.size → GW W → TW g W →
    Calls Tryz.prog 52 #[.pointer (some ⟨g, 0, none⟩), .slice (some ⟨A, 0, none⟩) ws.length ws.length] W (ReadP Rd g c D r ws W)

theorem TW.mono {N M : Nat} {w : World} (h : TW N w) (hM : N ≤ M) : TW M w := by
  refine ⟨Nat.le_trans h.glo hM, h.par, ?_, h.oth.mono hM, h.rdr.mono hM, ?_⟩
  · obtain ⟨a, n, c, h1, h2⟩ := h.ord
    exact ⟨a, n, c, h1, h2.kept (fun _ _ => rfl) hM⟩
  · obtain ⟨a, n, c, h1, h2⟩ := h.kin
    exact ⟨a, n, c, h1, h2.kept (fun _ _ => rfl) hM⟩
/-- the variables of Parse around the loop; N: the size of the heap where Parse begins -/
structure PBase (N : Nat) (w W : World) : Prop where
  len : BenchB W N 37 lens0 ptr0 ptr0 ptr0 ptr0
  err : W.heap[N + 2]? = some (.cells #[.int .i64 0] 44 (0, 0))
  ptr : W.heap[N + 4]? = some (.cells #[.pointer (some ⟨N + 3, 0, none⟩)] 125 (0, 0))
  dfr : W.heap[N + 6]? = some (.deferred (some []))
  bel : Below N w W
  gw : GW W
  tw : TW N W
  sz : N + 8 ≤ W.heap.size
theorem PBase.kept {N : Nat} {w W W' : World} (h : PBase N w W) (hN : 14 ≤ N) (hk : ∀ k, k < N + 7 → k ≠ N + 3 → k ≠ N + 1 → W'.heap[k]? = W.heap[k]?) (hb : Below N W W') : PBase N w W' :=
  ⟨(hk N (by omega) (by omega) (by omega)).trans h.len, (hk (N + 2) (by omega) (by omega) (by omega)).trans h.err, (hk (N + 4) (by omega) (by omega) (by omega)).trans h.ptr, (hk (N + 6) (by omega) (by omega) (by omega)).trans h.dfr,
    h.bel.trans hb, h.gw.kept (fun b hlt => hb.block b (by omega)) (by have := h.gw.sz; have := hb.size; have := h.sz; omega), h.tw.below hb, by have := hb.size; have := h.sz; omega⟩
/-- the state between two rounds -/
structure PInv (Rd : Nat → (Nat → Prop) → RdS → World → Prop) (N : Nat) (w : World) (t : List UInt8) (rc : Loop) (gl i : Nat) (W : World) : Prop where
  base : PBase N w W
  line : ∃ n : Int, W.heap[N + 1]? = some (.cells #[.int .i64 n] 3 (0, 0))
  loop : W.heap[N + 7]? = some (.loop rc)
  lines : W.heap[gl]? = some (.cells (strCs (linesOf [] t)).toArray 9 (0, 0))
  hgl : N + 8 ≤ gl
  rd : ∃ (c : Nat) (D : Nat → Prop) (r : RdS), c ≤ i ∧ linesR 0 rd0 (linesOf [] t) = linesR i r ((linesOf [] t).drop i) ∧ Rd c D r W ∧ ¬ D gl
/-- what a malformed line leaves -/
structure PBad (N : Nat) (w : World) (t : List UInt8) (chain : List PanicEntry) (W : World) : Prop where
  ch : chain = [{ v := .iface 124 (.agg #[]), recovered := false }]
  base : PBase N w W
  no : ∃ n : Nat, linesR 0 rd0 (linesOf [] t) = .error n ∧ W.heap[N + 1]? = some (.cells #[.int .i64 (n : Int)] 3 (0, 0))

theorem drop_at {α : Type} {L : List α} {i : Nat} {s : α} (h : L[i]? = some s) : L.drop i = s :: L.drop (i + 1) := by
  have hi := (List.getElem?_eq_some_iff.1 h).1
  rw [List.drop_eq_getElem_cons hi, (List.getElem?_eq_some_iff.1 h).2]
theorem linesR_skip {L : List (List UInt8)} {i : Nat} {s : List UInt8} (r : RdS) (h : L[i]? = some s) (hs : skipS (wordsS [] s) = true) : linesR i r (L.drop i) = linesR (i + 1) r (L.drop (i + 1)) := by
  rw [drop_at h, linesR, if_pos hs]
theorem linesR_go {L : List (List UInt8)} {i : Nat} {s : List UInt8} {r q : RdS} (h : L[i]? = some s) (hs : skipS (wordsS [] s) = false) (hq : lineR r (wordsS [] s) = some q) : linesR i r (L.drop i) = linesR (i + 1) q (L.drop (i + 1)) := by
  rw [drop_at h, linesR, if_neg (by rw [hs]; simp), hq]
theorem linesR_no {L : List (List UInt8)} {i : Nat} {s : List UInt8} {r : RdS} (h : L[i]? = some s) (hs : skipS (wordsS [] s) = false) (hq : lineR r (wordsS [] s) = none) : linesR i r (L.drop i) = .error (i + 1) := by
  rw [drop_at h, linesR, if_neg (by rw [hs]; simp), hq]
theorem PInv.go {Rd : Nat → (Nat → Prop) → RdS → World → Prop} {N : Nat} {w : World} {t : List UInt8} {rc : Loop} {gl i : Nat} {W W' : World} (hS : RdSpec (N + 8) (N + 3) Rd) (hN : 14 ≤ N) (h : PInv Rd N w t rc gl i W) (hb : Below W.heap.size W W') : PInv Rd N w t rc gl i W' := by
  have hsz := h.base.sz
  have hk : ∀ k, k < W.heap.size → W'.heap[k]? = W.heap[k]? := fun k hk => hb.block k hk
  obtain ⟨n, hn⟩ := h.line
  obtain ⟨c, D, r, h1, h2, h3, h4⟩ := h.rd
  exact ⟨h.base.kept hN (fun k hlt _ _ => hk k (by omega)) (hb.mono (by omega)), ⟨n, (hk _ (by omega)).trans hn⟩, (hk _ (by omega)).trans h.loop, (hk _ (lt_of_block h.lines)).trans h.lines, h.hgl,
    c, D, r, h1, h2, hS.kept c D r W W' h3 (fun k _ hlt => hk k hlt) hb.size, h4⟩
theorem PInv.skip {Rd : Nat → (Nat → Prop) → RdS → World → Prop} {N : Nat} {w : World} {t : List UInt8} {rc : Loop} {gl i : Nat} {W : World} {s : List UInt8} (h : PInv Rd N w t rc gl i W) (hs : (linesOf [] t)[i]? = some s) (hk : skipS (wordsS [] s) = true) : PInv Rd N w t rc gl (i + 1) W := by
  obtain ⟨c, D, r, h1, h2, h3, h4⟩ := h.rd
  exact ⟨h.base, h.line, h.loop, h.lines, h.hgl, c, D, r, by omega, h2.trans (linesR_skip r hs hk), h3, h4⟩
/-- the world in which a round's body calls read -/
def roundW (N : Nat) (rc : Loop) (i : Nat) (W : World) : World := (W.putObj (N + 7) (.loop { rc with state := .busy })).setCell ⟨N + 1, 0, none⟩ (.int .i64 ((i : Int) + 1))
theorem roundW_kept (N : Nat) (rc : Loop) (i : Nat) (W : World) (k : Nat) (h1 : k ≠ N + 7) (h2 : k ≠ N + 1) : (roundW N rc i W).heap[k]? = W.heap[k]? :=
  (Below.heap_setCell _ _ _ _ (fun e => h2 e)).trans (World.putObj_heap_other h1)
theorem roundW_size (N : Nat) (rc : Loop) (i : Nat) (W : World) : (roundW N rc i W).heap.size = W.heap.size := by unfold roundW; simp
theorem below_putObj {B r : Nat} {w W : World} {o : Obj} (h : Below B w W) (hr : B ≤ r) : Below B w (W.putObj r o) := by
  obtain ⟨h1, h2, h3, h4, h5⟩ := h
  exact ⟨h1, h2, h3, by simpa using h4, fun k hk => (World.putObj_heap_other (by omega)).trans (h5 k hk)⟩

theorem roundW_below (N : Nat) (rc : Loop) (i : Nat) (W : World) : Below N W (roundW N rc i W) :=
  (below_putObj (Below.refl N W) (by omega)).setCell (p := ⟨N + 1, 0, none⟩) (by show N ≤ N + 1; omega) _
theorem roundW_line (N : Nat) (rc : Loop) (i : Nat) (W : World) (n : Int) (h : W.heap[N + 1]? = some (.cells #[.int .i64 n] 3 (0, 0))) : (roundW N rc i W).heap[N + 1]? = some (.cells #[.int .i64 ((i : Int) + 1)] 3 (0, 0)) :=
  obj_setCell ((World.putObj_heap_other (by omega)).trans h) 0 (.int .i64 ((i : Int) + 1))
theorem roundW_loop (N : Nat) (rc rc' : Loop) (i : Nat) (W : World) (h : W.heap[N + 7]? = some (.loop rc')) : (roundW N rc i W).heap[N + 7]? = some (.loop { rc with state := .busy }) :=
  (Below.heap_setCell _ _ _ _ (fun e => by have : N + 7 = N + 1 := e; omega)).trans (World.putObj_heap_same (lt_of_block h))
/-- what a round's contract is for the invariant -/
def PRound (Rd : Nat → (Nat → Prop) → RdS → World → Prop) (N : Nat) (w : World) (t : List UInt8) (rc : Loop) (gl i : Nat) (e : Ending) (W' : World) : Prop :=
  (e = .returned (.bool true) ∧ PInv Rd N w t rc gl (i + 1) W') ∨ ∃ chain, e = .panicked chain ∧ PBad N w t chain W'
/-- the call of read in a round: what it leaves -/
theorem round_read {Rd : Nat → (Nat → Prop) → RdS → World → Prop} {N : Nat} {w : World} {t : List UInt8} {rc : Loop} {gl i : Nat} {W : World} {s : List UInt8} {A : Nat} (hS : RdSpec (N + 8) (N + 3) Rd) (hN : 14 ≤ N) (h : PInv Rd N w t rc gl i W) (_hrc : rc.state = .ready) (_hrp : rc.pending = none)
    (hs : (linesOf [] t)[i]? = some s) (hk : skipS (wordsS [] s) = false) (hw : Wds W (some ⟨A, 0, none⟩) (wordsS [] s).length (wordsS [] s).length (wordsS [] s) W.heap.size) (ht : t.length ≤ 20000) :
    Calls Tryz.prog 52 #[.pointer (some ⟨N + 3, 0, none⟩), .slice (some ⟨A, 0, none⟩) (wordsS [] s).length (wordsS [] s).length] (roundW N rc i W) fun e W2 => match e with
      | .returned _ => W2.heap[N + 7]? = some (.loop { rc with state := .busy }) ∧ PRound Rd N w t rc gl i (.returned (.bool true)) (W2.putObj (N + 7) (.loop rc))
      | .panicked chain => PRound Rd N w t rc gl i (.panicked chain) W2
      | .outgrown => False := by
  obtain ⟨n, hn⟩ := h.line
  obtain ⟨c, D, r, h1, h2, h3, h4⟩ := h.rd
  have hsz := h.base.sz
  have hszR := roundW_size N rc i W
  have hi := (List.getElem?_eq_some_iff.1 hs).1
  have hL := lines_many t []
  have hsl := lines_len t [] s (List.mem_of_getElem? hs)
  have hwm := wordsS_many s []
  have hwl := fun v hv => wordsS_len s [] v hv
  rw [List.length_nil] at hsl
  have h3' : Rd c D r (roundW N rc i W) := hS.kept c D r W _ h3 (fun k hk2 hlt => roundW_kept N rc i W k (by omega) (by omega)) (by omega)
  have hw' : Wds (roundW N rc i W) (some ⟨A, 0, none⟩) (wordsS [] s).length (wordsS [] s).length (wordsS [] s) (roundW N rc i W).heap.size := by
    refine ⟨hw.1, hw.2.1, fun h0 => ?_⟩
    obtain ⟨q, off, e1, e2, e3⟩ := hw.2.2 h0
    refine ⟨q, off, e1, by omega, fun j x hx => ?_⟩
    have hc := e3 j x hx
    have hq7 : q ≠ N + 7 := fun e => by rw [e, World.cell?, h.loop] at hc; cases hc
    have hq1 : q ≠ N + 1 := fun e => by
      rw [e, obj_cell hn] at hc
      rcases Nat.eq_zero_or_pos (off + j) with h0 | h0
      · rw [h0] at hc; cases hc
      · rw [List.getElem?_toArray, List.getElem?_eq_none (by simp; omega)] at hc; cases hc
    rw [← hc]
    simp only [World.cell?, roundW_kept N rc i W q hq7 hq1]
  have hne : wordsS [] s ≠ [] := fun e => by rw [e] at hk; cases hk
  have hbW := h.base.kept (W' := roundW N rc i W) hN (fun k hlt _ h1 => roundW_kept N rc i W k (by omega) h1) (roundW_below N rc i W)
  refine (hS.read c D r _ _ A h3' hw' hne (fun v hv => by have := hwl v hv; simp at this; omega) (by omega) (by omega) (by omega) hbW.gw (hbW.tw.mono (by omega))).mono ?_
  rintro e W2 ⟨hb, hkeep, hor⟩
  have hown := fun b hb => (hS.own c D r _ b h3' hb).1
  have hnD : ∀ k, k < N + 8 → k ≠ N + 3 → ¬ D k := fun k hlt hne hD => by have := hown k hD; omega
  have hkp : ∀ k, k < N + 8 → k ≠ N + 3 → W2.heap[k]? = (roundW N rc i W).heap[k]? := fun k hlt hne => hkeep k (by omega) (hnD k hlt hne)
  have hloop := (hkp (N + 7) (by omega) (by omega)).trans (roundW_loop N rc rc i W h.loop)
  have hline := (hkp (N + 1) (by omega) (by omega)).trans (roundW_line N rc i W n hn)
  have hb2 := hbW.kept (W' := W2) hN (fun k hlt h1 _ => hkp k (by omega) h1) (hb.mono (by omega))
  have hgl : gl < W.heap.size := lt_of_block h.lines
  have hlines : W2.heap[gl]? = some (.cells (strCs (linesOf [] t)).toArray 9 (0, 0)) := (hkeep gl (by omega) h4).trans ((roundW_kept N rc i W gl (by have := h.hgl; omega) (by have := h.hgl; omega)).trans h.lines)
  rcases hor with ⟨q, hq, rfl, D', hD', hRd⟩ | ⟨hq, rfl⟩
  · refine ⟨hloop, Or.inl ⟨rfl, ?_⟩⟩
    have hp : ∀ k, k ≠ N + 7 → (W2.putObj (N + 7) (.loop rc)).heap[k]? = W2.heap[k]? := fun k hk => World.putObj_heap_other hk
    have hgg := h.hgl
    exact ⟨hb2.kept hN (fun k hlt _ _ => hp k (by omega)) (below_putObj (Below.refl N W2) (by omega)), ⟨_, (hp _ (by omega)).trans hline⟩, World.putObj_heap_same (lt_of_block hloop), (hp _ (by omega)).trans hlines, h.hgl,
      c + 1, D', q, by omega, h2.trans (linesR_go hs hk hq), hS.kept _ D' q W2 _ hRd (fun k hk2 hlt => hp k (by omega)) (by simp), fun hD => by
        rcases hD' gl hD with h5 | h5
        · exact h4 h5
        · omega⟩
  · exact Or.inr ⟨_, rfl, rfl, hb2, i + 1, h2.trans (linesR_no hs hk hq), hline⟩
end Go.Proofs.YtgohdcccfkjooaaGreatDoor

namespace Go.Proofs.YtgohdcccfkjooaaGreatDoor
open Go.RowKit

/-- a round, for the loop's record rc: asked of the walk of the loop's own code -/
def RoundOk (N m : Nat) (rc : Loop) : Prop := ∀ (i A n : Nat) (W : World) (R : Ending → World → Prop), W.heap[N + 7]? = some (.loop rc) → (∃ z : Int, W.heap[N + 1]? = some (.cells #[.int .i64 z] 3 (0, 0))) →
  W.heap[N + 4]? = some (.cells #[.pointer (some ⟨N + 3, 0, none⟩)] 125 (0, 0)) → i ≤ 100000 →
  Calls Tryz.prog 52 #[.pointer (some ⟨N + 3, 0, none⟩), .slice (some ⟨A, 0, none⟩) n n] (roundW N rc i W) (fun e W2 => match e with
    | .returned _ => W2.heap[N + 7]? = some (.loop { rc with state := .busy }) ∧ R (.returned (.bool true)) (W2.putObj (N + 7) (.loop rc))
    | .panicked chain => R (.panicked chain) W2
    | .outgrown => False) → YieldAt Fence.wide m Tryz.prog (N + 7) #[.int .i64 ((i : Int) + 1), .slice (some ⟨A, 0, none⟩) n n] W R

theorem parse_it {Rd : Nat → (Nat → Prop) → RdS → World → Prop} {N m : Nat} {w : World} {t : List UInt8} {rc : Loop} (hS : RdSpec (N + 8) (N + 3) Rd) (hN : 14 ≤ N) (ht : t.length ≤ 20000) (hst : rc.state = .ready) (hpd : rc.pending = none) (hr : RoundOk N m rc) :
    ItI t (PInv Rd N w t rc) (PBad N w t) (N + 7) m where
  lines := fun g i W h => h.lines
  gw := fun g i W h => h.base.gw
  go := fun g i W W' h hb => h.go hS hN hb
  skip := fun g i W s h hs hk => h.skip hs hk
  yield := fun g i W s A h hs hk hw => by
    have hi := (List.getElem?_eq_some_iff.1 hs).1
    have hL := lines_many t []
    exact hr i A _ W _ h.loop h.line h.base.ptr (by omega) (round_read hS hN h hst hpd hs hk hw ht)
theorem parse_lines {Rd : Nat → (Nat → Prop) → RdS → World → Prop} {N m : Nat} {w : World} {t : List UInt8} {rc : Loop} (hS : RdSpec (N + 8) (N + 3) Rd) (hN : 14 ≤ N) (ht : t.length ≤ 20000) (hst : rc.state = .ready) (hpd : rc.pending = none) (hr : RoundOk N m rc)
    {W : World} (hW : W.heap.size = N + 8) (hb : PBase N w W) (hl : ∃ z : Int, W.heap[N + 1]? = some (.cells #[.int .i64 z] 3 (0, 0))) (hlp : W.heap[N + 7]? = some (.loop rc)) (hbt : W.cell? ⟨N + 5, 0, none⟩ = some (.string (bs t))) (h0 : Rd 0 (fun b => b = N + 3) rd0 W) :
    Calls Tryz.prog 87 #[.func (.yield (N + 7)) #[] #[], .pointer (some ⟨N + 5, 0, none⟩)] W fun e W3 => match e with
      | .returned _ => (∃ gl, PInv Rd N w t rc gl (linesOf [] t).length W3)
      | .panicked chain => PBad N w t chain W3
      | .outgrown => False := by
  have hal := (Below.refl W.heap.size W).alloc (Nat.le_refl _) (.cells (strCs (linesOf [] t)).toArray 9)
  have hk : ∀ k, k < W.heap.size → (W.alloc (.cells (strCs (linesOf [] t)).toArray 9)).heap[k]? = W.heap[k]? := fun k hk => hal.block k hk
  obtain ⟨z, hz⟩ := hl
  refine (lines_any t (PInv Rd N w t rc) (PBad N w t) (N + 7) m (N + 5) W (parse_it hS hN ht hst hpd hr) hbt hb.gw (by omega) ?_).mono ?_
  · exact ⟨hb.kept hN (fun k hlt _ _ => hk k (by omega)) (hal.mono (by omega)), ⟨z, (hk _ (by omega)).trans hz⟩, (hk _ (by omega)).trans hlp, heap_alloc_new W _, by omega,
      0, fun b => b = N + 3, rd0, Nat.zero_le _, by rw [List.drop_zero], hS.kept 0 _ rd0 W _ h0 (fun k _ hlt => hk k hlt) hal.size, by omega⟩
  · rintro e W3 (⟨rfl, g, hg⟩ | ⟨chain, rfl, hbad⟩)
    · exact ⟨g, hg⟩
    · exact hbad
end Go.Proofs.YtgohdcccfkjooaaGreatDoor

namespace Go.Proofs.YtgohdcccfkjooaaGreatDoor
open Go.RowKit
attribute [local go_sem] Oper.semAt_some

def RetPS (w : World) (r : RedS) (e : Ending) (w' : World) : Prop := ∃ f v s k, e = .returned (.tuple #[lensV r.x f v s k, .int .i64 r.line, .int .i64 r.e]) ∧ LensAt (fun b => b < w'.heap.size) w' r.x f v s k ∧ Below w.heap.size w w'
theorem results_parse {fn : Func} {p q u : Tmp} {tmps : Array Value} {w : World} {g1 g2 g3 : Nat} {x : LensD} {f v s k : Ptr} {n e : Int} (h : fn.results = #[.cell p 37, .cell q 3, .cell u 44])
    (hp : tmps.getD p undef = .pointer (some ⟨g1, 0, none⟩)) (hq : tmps.getD q undef = .pointer (some ⟨g2, 0, none⟩)) (hu : tmps.getD u undef = .pointer (some ⟨g3, 0, none⟩)) (h1 : BenchB w g1 37 x f v s k)
    (h2 : w.heap[g2]? = some (.cells #[.int .i64 n] 3 (0, 0))) (h3 : w.heap[g3]? = some (.cells #[.int .i64 e] 44 (0, 0))) :
    (results fn tmps).run Tryz.prog w = .ok (.tuple #[lensV x f v s k, .int .i64 n, .int .i64 e]) w := by
  have h4 : (results fn tmps).run Tryz.prog w = ((asAddr (tmps.getD p undef)).run Tryz.prog w).andThen fun a w1 => ((loadVar 37 a).run Tryz.prog w1).andThen fun v w2 => ((asAddr (tmps.getD q undef)).run Tryz.prog w2).andThen fun a2 w3 => ((loadVar 3 a2).run Tryz.prog w3).andThen fun v2 w4 => ((asAddr (tmps.getD u undef)).run Tryz.prog w4).andThen fun a3 w5 => ((loadVar 44 a3).run Tryz.prog w5).andThen fun v3 w6 => .ok (.tuple #[v, v2, v3]) w6 := by
    simp only [results, h]
    simp [Sem.run_bind, Result.andThen]
  rw [h4, hp, hq, hu]
  simp only [asAddr, Sem.run_pure, Result.andThen_ok]
  rw [run_loadVar_row w g1 37 37 _ (0, 0) _ h1 Tryz.underlying37 rfl Tryz.infoLens]
  simp only [Result.andThen_ok]
  have c2 : w.cell? ⟨g2, 0, none⟩ = some (.int .i64 n) := obj_cell h2 0
  have c3 : w.cell? ⟨g3, 0, none⟩ = some (.int .i64 e) := obj_cell h3 0
  go_simp
  rfl
theorem stepA {fn0 : FuncId} {P : Program} {c : Code} {Q : Exit → Act → World → Prop} {a : Act} {w : World} (F : World → Prop) (hF : F w) (h : ∀ w', F w' → wpA fn0 P c Q a w') : wpA fn0 P c Q a w := h w hF
theorem alloc_old {W : World} {o : Obj} {k : Nat} (hk : k < W.heap.size) : (W.alloc o).heap[k]? = W.heap[k]? := ((Below.refl W.heap.size W).alloc (Nat.le_refl _) o).block k hk
theorem alloc_at {W : World} {o : Obj} {M : Nat} (hM : W.heap.size = M) : (W.alloc o).heap[M]? = some o := by rw [← hM]; exact World.alloc_heap_new W o
/-- the variables, the reader not yet made -/
structure Pre1 (N : Nat) (w W : World) : Prop where
  len : BenchB W N 37 lens0 ptr0 ptr0 ptr0 ptr0
  lin : W.heap[N + 1]? = some (.cells #[.int .i64 0] 3 (0, 0))
  err : W.heap[N + 2]? = some (.cells #[.int .i64 0] 44 (0, 0))
  sz : W.heap.size = N + 3
  bel : Below N w W
theorem pre1_of (w : World) (N : Nat) (hN : w.heap.size = N) : Pre1 N w (((w.alloc (.cells (cells9 lens0 ptr0 ptr0 ptr0 ptr0).toArray 37)).alloc (.cells #[.int .i64 0] 3)).alloc (.cells #[.int .i64 0] 44)) := by
  have s1 : (w.alloc (.cells (cells9 lens0 ptr0 ptr0 ptr0 ptr0).toArray 37)).heap.size = N + 1 := by simp [hN]
  have s2 : ((w.alloc (.cells (cells9 lens0 ptr0 ptr0 ptr0 ptr0).toArray 37)).alloc (.cells #[.int .i64 0] 3)).heap.size = N + 2 := by simp [hN]
  exact ⟨(alloc_old (by omega)).trans ((alloc_old (by omega)).trans (alloc_at hN)), (alloc_old (by omega)).trans (alloc_at s1), alloc_at s2, by simp [hN], (((Below.refl N w).alloc (by omega) _).alloc (by omega) _).alloc (by omega) _⟩
/-- the reader made -/
structure Pre2 (N : Nat) (w W : World) : Prop where
  len : BenchB W N 37 lens0 ptr0 ptr0 ptr0 ptr0
  lin : W.heap[N + 1]? = some (.cells #[.int .i64 0] 3 (0, 0))
  err : W.heap[N + 2]? = some (.cells #[.int .i64 0] 44 (0, 0))
  rdr : ReaderB W (N + 3) rd0 ptr0 ptr0 ptr0 ptr0 (.map none)
  ptr : W.heap[N + 4]? = some (.cells #[.pointer (some ⟨N + 3, 0, none⟩)] 125 (0, 0))
  sz : W.heap.size = N + 5
  bel : Below N w W
theorem pre2_of {w W : World} {N : Nat} (h : Pre1 N w W) : Pre2 N w ((W.alloc (.cells (rdCells rd0 ptr0 ptr0 ptr0 ptr0 (.map none)).toArray 128)).alloc (.cells #[.pointer (some ⟨N + 3, 0, none⟩)] 125)) := by
  have hs := h.sz
  have s1 : (W.alloc (.cells (rdCells rd0 ptr0 ptr0 ptr0 ptr0 (.map none)).toArray 128)).heap.size = N + 4 := by simp [hs]
  refine ⟨(alloc_old (by omega)).trans ((alloc_old (by omega)).trans h.len), (alloc_old (by omega)).trans ((alloc_old (by omega)).trans h.lin), (alloc_old (by omega)).trans ((alloc_old (by omega)).trans h.err),
    (alloc_old (by omega)).trans (alloc_at hs), alloc_at s1, by simp [hs], (h.bel.alloc (by omega) _).alloc (by omega) _⟩
/-- the text boxed -/
structure Pre3 (N : Nat) (t : List UInt8) (w W : World) : Prop where
  len : BenchB W N 37 lens0 ptr0 ptr0 ptr0 ptr0
  lin : W.heap[N + 1]? = some (.cells #[.int .i64 0] 3 (0, 0))
  err : W.heap[N + 2]? = some (.cells #[.int .i64 0] 44 (0, 0))
  rdr : ReaderB W (N + 3) rd0 ptr0 ptr0 ptr0 ptr0 (.map none)
  ptr : W.heap[N + 4]? = some (.cells #[.pointer (some ⟨N + 3, 0, none⟩)] 125 (0, 0))
  txt : W.heap[N + 5]? = some (.cells #[.string (bs t)] 9 (0, 0))
  sz : W.heap.size = N + 6
  bel : Below N w W
theorem pre3_of {w W : World} {N : Nat} (t : List UInt8) (h : Pre2 N w W) : Pre3 N t w (W.alloc (.cells #[.string (bs t)] 9)) := by
  have hs := h.sz
  exact ⟨(alloc_old (by omega)).trans h.len, (alloc_old (by omega)).trans h.lin, (alloc_old (by omega)).trans h.err, (alloc_old (by omega)).trans h.rdr, (alloc_old (by omega)).trans h.ptr, alloc_at hs, by simp [hs], h.bel.alloc (by omega) _⟩
/-- the loop entered -/
theorem entered {w W : World} {N : Nat} {t : List UInt8} (h : Pre3 N t w W) (hg : GW w) (hT : TW N w) (hN : w.heap.size = N) (rc : Loop) :
    PBase N w ((W.alloc (.deferred (some []))).alloc (.loop rc)) ∧ (∃ z : Int, ((W.alloc (.deferred (some []))).alloc (.loop rc)).heap[N + 1]? = some (.cells #[.int .i64 z] 3 (0, 0))) ∧ ((W.alloc (.deferred (some []))).alloc (.loop rc)).heap[N + 7]? = some (.loop rc) ∧
      ((W.alloc (.deferred (some []))).alloc (.loop rc)).cell? ⟨N + 5, 0, none⟩ = some (.string (bs t)) ∧ ReaderB ((W.alloc (.deferred (some []))).alloc (.loop rc)) (N + 3) rd0 ptr0 ptr0 ptr0 ptr0 (.map none) ∧ ((W.alloc (.deferred (some []))).alloc (.loop rc)).heap.size = N + 8 := by
  have hs := h.sz
  have s1 : (W.alloc (.deferred (some []))).heap.size = N + 7 := by simp [hs]
  have hk : ∀ k, k < N + 6 → ((W.alloc (.deferred (some []))).alloc (.loop rc)).heap[k]? = W.heap[k]? := fun k hk => (alloc_old (by omega)).trans (alloc_old (by omega))
  have hb : Below N w ((W.alloc (.deferred (some []))).alloc (.loop rc)) := (h.bel.alloc (by omega) _).alloc (by omega) _
  exact ⟨⟨(hk _ (by omega)).trans h.len, (hk _ (by omega)).trans h.err, (hk _ (by omega)).trans h.ptr, (alloc_old (by omega)).trans (alloc_at hs), hb, hg.below (by rw [hN]; exact hb), hT.below hb, by simp [hs]⟩,
    ⟨0, (hk _ (by omega)).trans h.lin⟩, alloc_at s1, obj_cell ((hk _ (by omega)).trans h.txt) 0, (hk _ (by omega)).trans h.rdr, by simp [hs]⟩
/-- the range over the lines -/
theorem parse_range {Rd : Nat → (Nat → Prop) → RdS → World → Prop} {N m : Nat} {w W : World} {t : List UInt8} {ps : Array Tmp} {assign body : Code} {gop : Operand} {a : Act} {Q : Exit → Act → World → Prop} (hS : RdSpec (N + 8) (N + 3) Rd)
    (h0 : ∀ W, ReaderB W (N + 3) rd0 ptr0 ptr0 ptr0 ptr0 (.map none) → Rd 0 (fun b => b = N + 3) rd0 W) (hg : GW w) (hT : TW N w) (hN : w.heap.size = N) (ht : t.length ≤ 20000) (hpre : Pre3 N t w W)
    (he : a.eval gop = .func (.func 87) #[] #[.pointer (some ⟨N + 5, 0, none⟩)])
    (hround : RoundOk N m { state := .ready, pending := none, fn := 18, tmps := a.tmps, params := ps, assign := assign, body := body, defers := N + 6 })
    (hdone : ∀ gl W3, PInv Rd N w t { state := .ready, pending := none, fn := 18, tmps := a.tmps, params := ps, assign := assign, body := body, defers := N + 6 } gl (linesOf [] t).length W3 →
      Q .normal { a with defers := { target := .collected (N + 6), args := #[] } :: a.defers } (W3.putObj (N + 7) (.loop { state := .exhausted, pending := none, fn := 18, tmps := a.tmps, params := ps, assign := assign, body := body, defers := N + 6 })))
    (hbad : ∀ chain W3, PBad N w t chain W3 → Q (.panic chain) { a with defers := { target := .collected (N + 6), args := #[] } :: a.defers } W3) :
    wpA 18 Tryz.prog (.rangeFunc gop ps assign body) Q a W := by
  obtain ⟨e1, e2, e3, e4, e5, e6⟩ := entered hpre hg hT hN { state := .ready, pending := none, fn := 18, tmps := a.tmps, params := ps, assign := assign, body := body, defers := N + 6 }
  have hen := run_enterLoop_outer (P := Tryz.prog) (w := W) 18 a.tmps ps assign body
  rw [hpre.sz] at hen
  refine wpA_range (l := N + 7) (w₁' := (W.alloc (.deferred (some []))).alloc (.loop { state := .ready, pending := none, fn := 18, tmps := a.tmps, params := ps, assign := assign, body := body, defers := N + 6 })) (d := { target := .fn (.func 87) #[.pointer (some ⟨N + 5, 0, none⟩)], args := #[.func (.yield (N + 7)) #[] #[]] }) (f := 87) (args := #[.func (.yield (N + 7)) #[] #[], .pointer (some ⟨N + 5, 0, none⟩)]) hen ?_ ?_
    ((parse_lines hS (hT.glo) ht rfl rfl hround e6 e1 e2 e3 e4 (h0 _ e5)).mono ?_)
  · have hrs : resolve a.eval (rangeCall gop (N + 7)) 0 = Deferred.ofValue (a.eval gop) #[.func (.yield (N + 7)) #[] #[]] := by unfold resolve; simp [Act.eval]
    rw [hrs, he]; rfl
  · simp [go_sem]
  · intro e W3 h
    cases e with
    | returned v =>
      obtain ⟨gl, hgl⟩ := h
      exact ⟨_, run_endLoop hgl.loop (by simp), hdone gl W3 hgl⟩
    | panicked chain => exact hbad chain W3 h
    | outgrown => exact h
theorem lines_mk (t : List UInt8) (w : World) : Calls Tryz.prog 51 #[.string (bs t)] w fun e w' => e = .returned (.func (.func 87) #[] #[.pointer (some ⟨w.heap.size, 0, none⟩)]) ∧ w' = w.alloc (.cells #[.string (bs t)] 9) := by
  go_enter Tryz.func51, Tryz.ntmps51
  go_wp2_with fail
  go_ret
  exact ⟨rfl, rfl⟩
theorem callsDIn_mono {F : Fence} {n : Nat} {P : Program} {f : FuncId} {args : Array Value} {u : FrameMode} {w : World} {R R' : Ending → FrameMode → World → Prop} (h : CallsDIn F n P f args u w R) (hr : ∀ e u' w', R e u' w' → R' e u' w') : CallsDIn F n P f args u w R' :=
  ⟨h.1, fun c cs hm hroom => let ⟨e, u', w', fr, hR, hs⟩ := h.2 c cs hm hroom; ⟨e, u', w', fr, hr _ _ _ hR, hs⟩⟩
theorem leavesM_congr {F : Fence} {n : Nat} {P : Program} {fn : Func} {tmps tmps' : Array Value} {R : Ending → World → Prop} (h : ∀ w, (results fn tmps).run P w = (results fn tmps').run P w) : ∀ (ds : List Deferred) (u : FrameMode) (w : World), LeavesInM F n P fn tmps R ds u w → LeavesInM F n P fn tmps' R ds u w
  | [], u, w, hl => by
    cases u with
    | run => exact hl
    | returning => obtain ⟨v, h1, h2⟩ := hl; exact ⟨v, (h w).symm.trans h1, h2⟩
    | panicking c => exact hl
  | d :: ds, u, w, hl => by
    obtain ⟨h1, h2⟩ := hl
    refine ⟨h1, ?_⟩
    rcases h2 with ⟨r, w', q1, q2, q3⟩ | ⟨q0, fv, cap, f, args, q1, q2, q3, q4⟩
    · exact Or.inl ⟨r, w', q1, q2, leavesM_congr h ds u w' q3⟩
    · refine Or.inr ⟨q0, fv, cap, f, args, q1, q2, q3, callsDIn_mono q4 ?_⟩
      intro e u' w' hq
      cases e with
      | returned v => exact leavesM_congr h ds _ w' hq
      | panicked chain => exact leavesM_congr h ds _ w' hq
      | outgrown => exact hq
theorem getD_put (tmps : Array Value) (d j : Nat) (v : Value) (h : j ≠ d) : (tmps.setIfInBounds d v).getD j undef = tmps.getD j undef := by
  rw [Array.getD_eq_getD_getElem?, Array.getD_eq_getD_getElem?, Array.getElem?_setIfInBounds_ne (Ne.symm h)]
theorem results_run (tmps : Array Value) (w : World) : (results Tryz.f18 tmps).run Tryz.prog w = ((asAddr (tmps.getD 2 undef)).run Tryz.prog w).andThen fun a w1 => ((loadVar 37 a).run Tryz.prog w1).andThen fun v w2 => ((asAddr (tmps.getD 3 undef)).run Tryz.prog w2).andThen fun a2 w3 => ((loadVar 3 a2).run Tryz.prog w3).andThen fun v2 w4 => ((asAddr (tmps.getD 4 undef)).run Tryz.prog w4).andThen fun a3 w5 => ((loadVar 44 a3).run Tryz.prog w5).andThen fun v3 w6 => .ok (.tuple #[v, v2, v3]) w6 := by
  simp only [results, Tryz.results18]
  simp [Sem.run_bind, Result.andThen]
theorem results_put (d : Nat) (hd : 5 ≤ d) (tmps : Array Value) (v : Value) (w : World) : (results Tryz.f18 (tmps.setIfInBounds d v)).run Tryz.prog w = (results Tryz.f18 tmps).run Tryz.prog w := by
  rw [results_run, results_run, getD_put tmps d 2 v (by omega), getD_put tmps d 3 v (by omega), getD_put tmps d 4 v (by omega)]
theorem leave_put {d : Nat} (hd : 5 ≤ d) {R : Ending → World → Prop} {ch : List PanicEntry} {K : Act → World → Prop} {a : Act} {w : World} {v : Value} (h : Exit.then K (bodyPostM Fence.wide 0 Tryz.prog Tryz.f18 R) (.panic ch) (a.put (some d) v) w) : Exit.then K (bodyPostM Fence.wide 0 Tryz.prog Tryz.f18 R) (.panic ch) a w :=
  leavesM_congr (results_put d hd a.tmps v) a.defers _ w h
theorem lines_count : ∀ (l w : List UInt8), (linesOf w l).length = l.count 10 + 1
  | [], w => rfl
  | b :: l, w => by
    rw [linesOf, List.count_cons]
    cases h : (b == 10)
    · rw [if_neg (by simp), if_neg (by simp), lines_count l _]
    · rw [if_pos rfl, if_pos rfl, List.length_cons, lines_count l []]
theorem count_any (l : List UInt8) (w : World) : Calls Tryz.prog 53 #[.string (bs l), .string { data := #[10] }] w fun e w' => e = .returned (.int .i64 ((l.count 10 : Nat) : Int)) ∧ w = w' := by
  refine (Tryz.strings_Count_one (bs l) 10 w).mono ?_
  rintro e w' ⟨rfl, rfl⟩
  exact ⟨rfl, rfl⟩
theorem lensAt0 (S : Nat → Prop) (w : World) : LensAt S w lens0 ptr0 ptr0 ptr0 ptr0 :=
  ⟨IRp.nil _ _ _ _ _, IRp.nil _ _ _ _ _, RR.nil _ _ _ _ _ _, RR.nil _ _ _ _ _ _, by decide, by decide, by decide, by decide, fun _ => rfl, fun _ => rfl, by decide⟩
theorem readS_error {t : List UInt8} {n : Nat} (hl : ¬ 20000 < t.length) (h : linesR 0 rd0 (linesOf [] t) = .error n) : readS t = ⟨lens0, (n : Int), 5⟩ := by
  unfold readS; rw [if_neg hl, h]; rfl
/-- malformed: the closure has recovered -/
theorem leave_mal {N : Nat} {w W : World} {t : List UInt8} {chain : List PanicEntry} {tmps : Array Value} {n : Int} (hN : w.heap.size = N) (hch : chain = [{ v := .iface 124 (.agg #[]), recovered := false }]) (hbs : PBase N w W) (hrs : readS t = ⟨lens0, n, 5⟩)
    (hline : W.heap[N + 1]? = some (.cells #[.int .i64 n] 3 (0, 0))) (h2 : tmps.getD 2 undef = .pointer (some ⟨N, 0, none⟩)) (h3 : tmps.getD 3 undef = .pointer (some ⟨N + 1, 0, none⟩)) (h4 : tmps.getD 4 undef = .pointer (some ⟨N + 2, 0, none⟩)) :
    LeavesInM Fence.wide 0 Tryz.prog Tryz.f18 tmps (RetPS w (readS t)) [{ target := .collected (N + 6), args := #[] }, { target := .fn (.func 50) #[.pointer (some ⟨N, 0, none⟩), .pointer (some ⟨N + 2, 0, none⟩)], args := #[] }] (.panicking chain) W := by
  have hk : ∀ k, k ≠ N + 6 → (W.putObj (N + 6) (.deferred none)).heap[k]? = W.heap[k]? := fun k hk => World.putObj_heap_other hk
  have hbel := below_putObj (o := .deferred none) hbs.bel (show N ≤ N + 6 by omega)
  have hsz := hbs.sz
  have hsz4 : (W.putObj (N + 6) (.deferred none)).heap.size = W.heap.size := by simp
  rw [hch, hrs]
  refine ⟨by simp, Or.inl ⟨N + 6, _, rfl, run_takeDeferred hbs.dfr, ?_⟩⟩
  refine ⟨by simp, Or.inr ⟨fun h => (by cases h), .func 50, _, 50, #[.pointer (some ⟨N, 0, none⟩), .pointer (some ⟨N + 2, 0, none⟩)], rfl, by simp [go_sem], fun _ _ => trivial, ?_⟩⟩
  refine callsDIn_mono (catchS_panicking N (N + 2) (by omega) [] _ _ ((hk N (by omega)).trans hbs.len) rfl ((hk (N + 2) (by omega)).trans hbs.err)) ?_
  rintro e u' w5 ⟨rfl, rfl, h5, h6, h7, h8⟩
  have hl5 : w5.heap[N + 1]? = some (.cells #[.int .i64 n] 3 (0, 0)) := (h7 (N + 1) (by omega) (by omega) (by omega)).trans ((hk (N + 1) (by omega)).trans hline)
  show LeavesIn Fence.wide 0 Tryz.prog Tryz.f18 tmps _ [] (settle _) w5
  simp only [LeavesIn, settle, List.dropWhile_nil]
  exact ⟨_, results_parse rfl h2 h3 h4 h5 hl5 h6, ptr0, ptr0, ptr0, ptr0, rfl, lensAt0 _ _, by rw [hN]; exact hbel.trans (h8.mono (by omega))⟩
theorem leave_bad {N : Nat} {w W : World} {t : List UInt8} {chain : List PanicEntry} {tmps : Array Value} (hN : w.heap.size = N) (hl : ¬ 20000 < t.length) (hb : PBad N w t chain W) (h2 : tmps.getD 2 undef = .pointer (some ⟨N, 0, none⟩)) (h3 : tmps.getD 3 undef = .pointer (some ⟨N + 1, 0, none⟩)) (h4 : tmps.getD 4 undef = .pointer (some ⟨N + 2, 0, none⟩)) :
    LeavesInM Fence.wide 0 Tryz.prog Tryz.f18 tmps (RetPS w (readS t)) [{ target := .collected (N + 6), args := #[] }, { target := .fn (.func 50) #[.pointer (some ⟨N, 0, none⟩), .pointer (some ⟨N + 2, 0, none⟩)], args := #[] }] (.panicking chain) W := by
  obtain ⟨n, hn, hline⟩ := hb.no
  exact leave_mal hN hb.ch hb.base (readS_error hl hn) hline h2 h3 h4
/-- the function returns: the closure has nothing to do -/
theorem leave_ret {N : Nat} {w W : World} {q : RedS} {tmps : Array Value} {f v s k : Ptr} (hN : w.heap.size = N) (hd : W.heap[N + 6]? = some (.deferred (some []))) (hl : BenchB W N 37 q.x f v s k) (hline : W.heap[N + 1]? = some (.cells #[.int .i64 q.line] 3 (0, 0)))
    (herr : W.heap[N + 2]? = some (.cells #[.int .i64 q.e] 44 (0, 0))) (hx : LensAt (fun b => b < W.heap.size ∧ b ≠ N + 6) W q.x f v s k) (hb : Below N w W) (h2 : tmps.getD 2 undef = .pointer (some ⟨N, 0, none⟩)) (h3 : tmps.getD 3 undef = .pointer (some ⟨N + 1, 0, none⟩)) (h4 : tmps.getD 4 undef = .pointer (some ⟨N + 2, 0, none⟩)) :
    LeavesInM Fence.wide 0 Tryz.prog Tryz.f18 tmps (RetPS w q) [{ target := .collected (N + 6), args := #[] }, { target := .fn (.func 50) #[.pointer (some ⟨N, 0, none⟩), .pointer (some ⟨N + 2, 0, none⟩)], args := #[] }] .returning W := by
  have hk : ∀ k, k ≠ N + 6 → (W.putObj (N + 6) (.deferred none)).heap[k]? = W.heap[k]? := fun k hk => World.putObj_heap_other hk
  refine ⟨by simp, Or.inl ⟨N + 6, _, rfl, run_takeDeferred hd, ?_⟩⟩
  refine ⟨by simp, Or.inr ⟨fun h => (by cases h), .func 50, _, 50, #[.pointer (some ⟨N, 0, none⟩), .pointer (some ⟨N + 2, 0, none⟩)], rfl, by simp [go_sem], fun _ _ => trivial, ?_⟩⟩
  refine callsDIn_mono (catchS_idle ⟨N, 0, none⟩ ⟨N + 2, 0, none⟩ _ _) ?_
  rintro e u' w5 ⟨rfl, rfl, rfl⟩
  show LeavesIn Fence.wide 0 Tryz.prog Tryz.f18 tmps _ [] (settle _) _
  simp only [LeavesIn, settle]
  exact ⟨_, results_parse rfl h2 h3 h4 ((hk N (by omega)).trans hl) ((hk (N + 1) (by omega)).trans hline) ((hk (N + 2) (by omega)).trans herr), f, v, s, k, rfl, hx.kept (fun b hb => hk b hb.2) (fun b hb => by simpa using hb.1), by rw [hN]; exact below_putObj hb (by omega)⟩
theorem final_of {N : Nat} {w w7 w8 : World} {x : LensD} {f v s k : Ptr} {n e n0 : Int} (hbs : PBase N w w7) (h8 : BenchB w8 N 37 x f v s k) (e8 : w8 = w7.setCells N 0 (cells9 x f v s k)) (hl : w7.heap[N + 1]? = some (.cells #[.int .i64 n0] 3 (0, 0))) :
    let W9 := (w8.setCell ⟨N + 1, 0, none⟩ (.int .i64 n)).setCell ⟨N + 2, 0, none⟩ (.int .i64 e)
    W9.heap[N + 6]? = some (.deferred (some [])) ∧ BenchB W9 N 37 x f v s k ∧ W9.heap[N + 1]? = some (.cells #[.int .i64 n] 3 (0, 0)) ∧ W9.heap[N + 2]? = some (.cells #[.int .i64 e] 44 (0, 0)) ∧ (∀ b, N + 8 ≤ b → W9.heap[b]? = w7.heap[b]?) ∧ W9.heap.size = w7.heap.size ∧ Below N w W9 := by
  intro W9
  have hk8 : ∀ b, b ≠ N → w8.heap[b]? = w7.heap[b]? := fun b hb => by rw [e8]; exact keptOn_setCells N _ 0 w7 b hb
  have hk9 : ∀ b, b ≠ N + 1 → b ≠ N + 2 → W9.heap[b]? = w8.heap[b]? := fun b h1 h2 => (Below.heap_setCell _ _ _ _ (fun e => h2 e)).trans (Below.heap_setCell _ _ _ _ (fun e => h1 e))
  have hb8 : Below N w w8 := by rw [e8]; exact below_setCells (b := N) (Nat.le_refl _) _ _ hbs.bel
  refine ⟨(hk9 _ (by omega) (by omega)).trans ((hk8 _ (by omega)).trans hbs.dfr), (hk9 _ (by omega) (by omega)).trans h8, ?_, ?_, fun b hb => (hk9 b (by omega) (by omega)).trans (hk8 b (by omega)), ?_, (hb8.setCell (p := ⟨N + 1, 0, none⟩) (by show N ≤ N + 1; omega) _).setCell (p := ⟨N + 2, 0, none⟩) (by show N ≤ N + 2; omega) _⟩
  · exact (Below.heap_setCell _ _ _ _ (fun e => by have : N + 1 = N + 2 := e; omega)).trans (obj_setCell ((hk8 _ (by omega)).trans hl) 0 _)
  · exact obj_setCell ((Below.heap_setCell _ _ _ _ (fun e => by have : N + 2 = N + 1 := e; omega)).trans ((hk8 _ (by omega)).trans hbs.err)) 0 _
  · show ((w8.setCell _ _).setCell _ _).heap.size = _
    rw [e8]; simp [size_setCells]
theorem readS_at {t : List UInt8} {r : RdS} (hl : ¬ 20000 < t.length) (h : linesR 0 rd0 (linesOf [] t) = linesR (linesOf [] t).length r []) : readS t = if r.at_ ≠ 9 then ⟨lens0, ((linesOf [] t).length : Int), 5⟩ else if validB r.x = true then ⟨r.x, 0, 0⟩ else ⟨lens0, 0, 120⟩ := by
  unfold readS; rw [if_neg hl, h, linesR]; rfl
theorem wpL_load_lensAt {ops : Array Oper} {rest : List Oper} {op : Oper} {ac : Act} {w : World} {Q : Exit → Act → World → Prop} {g : Nat} {r : RdS} {f v s k : Ptr} {m : Value} (y : Operand) (ho : op.op = .load 37 y) (hgd : op.guard = none) (hx : ac.eval y = .pointer (some ⟨g, 0, none⟩)) (h : ReaderB w g r f v s k m)
    (hk : wpList Tryz.prog ops Q rest (ac.put op.dst (lensV r.x f v s k)) w) : wpList Tryz.prog ops Q (op :: rest) ac w :=
  wpList_load_mid hgd 37 y ho g 0 hx (cells9 r.x f v s k) _ (fun j u hj => by
    have hj9 : j < 9 := (List.getElem?_eq_some_iff.1 hj).1
    rw [Nat.zero_add, obj_cell h j, List.getElem?_toArray, rdCells, List.getElem?_append_left hj9]; exact hj) Tryz.underlying37 rfl Tryz.infoLens hk
set_option maxRecDepth 100000 in
set_option maxHeartbeats 1600000 in
theorem parse_any {Rd : Nat → (Nat → Prop) → RdS → World → Prop} (t : List UInt8) (w : World) (hS : RdSpec (w.heap.size + 8) (w.heap.size + 3) Rd)
    (h0 : ∀ W, ReaderB W (w.heap.size + 3) rd0 ptr0 ptr0 ptr0 ptr0 (.map none) → Rd 0 (fun b => b = w.heap.size + 3) rd0 W) (hg : GW w) (hT : TW w.heap.size w) (hP : Places w.heap.size w) (ht : t.length ≤ 100000) :
    Calls Tryz.prog 18 #[.string (bs t)] w (RetPS w (readS t)) := by
  by_cases hlong : 20000 < t.length
  · have hlong' : (20000 : Int) < (t.length : Int) := by omega
    have hrs : readS t = ⟨lens0, 0, 3⟩ := by unfold readS; rw [if_pos hlong]; rfl
    have Hrs := Lib.hid hrs
    have s1 : (w.alloc (.cells (cells9 lens0 ptr0 ptr0 ptr0 ptr0).toArray 37)).heap.size = w.heap.size + 1 := by simp
    have s2 : ((w.alloc (.cells (cells9 lens0 ptr0 ptr0 ptr0 ptr0).toArray 37)).alloc (.cells #[.int .i64 0] 3)).heap.size = w.heap.size + 1 + 1 := by simp
    have k1 : BenchB (((w.alloc (.cells (cells9 lens0 ptr0 ptr0 ptr0 ptr0).toArray 37)).alloc (.cells #[.int .i64 0] 3)).alloc (.cells #[.int .i64 3] 44)) w.heap.size 37 lens0 ptr0 ptr0 ptr0 ptr0 := (alloc_old (by omega)).trans ((alloc_old (by omega)).trans (alloc_at rfl))
    have k2 : (((w.alloc (.cells (cells9 lens0 ptr0 ptr0 ptr0 ptr0).toArray 37)).alloc (.cells #[.int .i64 0] 3)).alloc (.cells #[.int .i64 3] 44)).heap[w.heap.size + 1]? = some (.cells #[.int .i64 0] 3 (0, 0)) := (alloc_old (by omega)).trans (alloc_at s1)
    have k3 : (((w.alloc (.cells (cells9 lens0 ptr0 ptr0 ptr0 ptr0).toArray 37)).alloc (.cells #[.int .i64 0] 3)).alloc (.cells #[.int .i64 3] 44)).heap[w.heap.size + 1 + 1]? = some (.cells #[.int .i64 3] 44 (0, 0)) := alloc_at s2
    have k4 : Below w.heap.size w (((w.alloc (.cells (cells9 lens0 ptr0 ptr0 ptr0 ptr0).toArray 37)).alloc (.cells #[.int .i64 0] 3)).alloc (.cells #[.int .i64 3] 44)) := (((Below.refl _ w).alloc (Nat.le_refl _) _).alloc (by omega) _).alloc (by omega) _
    have K1 := Lib.hid k1; have K2 := Lib.hid k2; have K3 := Lib.hid k3; have K4 := Lib.hid k4
    clear hS h0 hg hT hP hrs hlong s1 s2 k1 k2 k3 k4
    go_enter Tryz.func18, Tryz.ntmps18
    go_wp2_with fail
    refine bodyPost_ret (results_parse rfl rfl rfl rfl K1.out K2.out K3.out) rfl ?_
    rw [Hrs.out]
    exact ⟨ptr0, ptr0, ptr0, ptr0, rfl, lensAt0 _ _, K4.out⟩
  · have hlong' : ¬ (20000 : Int) < (t.length : Int) := by omega
    have HS := Lib.hid hS; have H0 := Lib.hid h0; have Hg := Lib.hid hg; have HT := Lib.hid hT; have HP := Lib.hid hP
    clear hS h0 hg hT hP
    refine calls_of_wpA Tryz.func18 rfl ?_
    simp only [Tryz.ntmps18, List.size_toArray, List.length_cons, List.length_nil, Nat.reduceAdd, Nat.reduceSub, Array.replicate_succ, Array.replicate_zero, List.push_toArray, List.append_toArray, List.nil_append, List.cons_append]
    obtain ⟨N, hNw⟩ : ∃ N, w.heap.size = N := ⟨_, rfl⟩
    rw [hNw] at HS H0 HT HP
    have hN := HT.out.glo
    refine wpA_seq_k (fun K0 hK0 => ?_)
    go_wp2_with fail
    refine stepA (Pre1 N w) (pre1_of w N hNw) (fun w1 h1 => ?_)
    try rw [hNw]
    have HP1 := Lib.hid h1; clear h1
    refine wpA_seq_k (fun K1 hK1 => ?_)
    go_wp2_with fail
    refine wpA_seq_k (fun K2 hK2 => ?_)
    go_wp2_with fail
    refine wpA_seq_k (fun K3 hK3 => ?_)
    have hsz1 := HP1.out.sz
    go_wp2_with fail
    refine stepA (Pre2 N w) (pre2_of HP1.out) (fun w2 h2 => ?_)
    have HP2 := Lib.hid h2; clear h2 HP1 hsz1
    refine wpA_seq ?_
    refine wpA_seq_k (fun K5 hK5 => ?_)
    have hsz2 := HP2.out.sz
    go_wp2_with fail
    refine (lines_mk t w2).mono ?_
    rintro e w3 ⟨rfl, rfl⟩
    go_wp2_with fail
    try rw [hsz2]
    refine stepA (Pre3 N t w) (pre3_of t HP2.out) (fun w3 h3 => ?_)
    have HP3 := Lib.hid h3; clear h3 HP2 hsz2
    have hsz3 := HP3.out.sz
    refine wpA_block ?_
    refine parse_range (m := 5) HS.out H0.out Hg.out HT.out hNw (by omega) HP3.out rfl ?round ?done ?bad
    case round =>
      intro i A n W R hlp hln hpt hi hcall
      obtain ⟨z, hz⟩ := hln
      refine ⟨_, _, _, _, run_yield hlp rfl, ?_⟩
      refine round_panics Tryz.func18 trivial ?_
      simp only [List.zip_toArray, List.zip_cons_cons, List.zip_nil_right, List.foldl_toArray, List.foldl_cons, List.foldl_nil, List.setIfInBounds_toArray, List.set_cons_succ, List.set_cons_zero]
      gi_wp2
      refine ⟨_, run_beginRound hlp rfl, ?_⟩
      have hl8 := lt_of_block hlp
      have hz1 : ∀ o, (W.putObj (N + 7) o).heap[N + 1]? = some (.cells #[.int .i64 z] 3 (0, 0)) := fun o => (World.putObj_heap_other (by omega)).trans hz
      have c0 := fun o => obj_cell (hz1 o) 0
      have f0 := fun o => obj_free (hz1 o) 0
      have hp1 : ∀ o, ((W.putObj (N + 7) o).setCell ⟨N + 1, 0, none⟩ (.int .i64 ((i : Int) + 1))).heap[N + 3 + 1]? = some (.cells #[.pointer (some ⟨N + 3, 0, none⟩)] 125 (0, 0)) :=
        fun o => (Below.heap_setCell _ _ _ _ (fun e => by have : N + 3 + 1 = N + 1 := e; omega)).trans ((World.putObj_heap_other (by omega)).trans hpt)
      have c1 := fun o => obj_cell (hp1 o) 0
      unfold roundW at hcall
      have Hcall := Lib.hid hcall
      clear hcall hlp hz1 hp1 hz hpt
      gi_wp2
      refine ⟨trivial, CallsIn.mono (CallsIn.inRound (N + 7) (callsIn_wide.2 Hcall.out)) ?_⟩
      intro e W2 h
      clear Hcall c0 f0 c1
      cases e with
      | returned v =>
        obtain ⟨h1, h2⟩ := h
        have h1' := Lib.hid h1; have H2 := Lib.hid h2; clear h1 h2
        gi_wp2
        refine ⟨_, _, run_endRound none h1'.out, ?_⟩
        exact H2.out
      | panicked chain =>
        have H := Lib.hid h; clear h
        gi_wp2
        exact ⟨rfl, H.out⟩
      | outgrown => exact h.elim
    case done =>
      intro gl W3 hi
      obtain ⟨c, D, r, h1, h2, h3, h4⟩ := hi.rd
      rw [List.drop_of_length_le (Nat.le_refl _)] at h2
      obtain ⟨f, v, s, k, m, h5, h6⟩ := HS.out.lens c D r W3 h3
      obtain ⟨z, hz⟩ := hi.line
      show wpA 18 _ _ _ _ _
      have hsz := hi.base.sz
      have hk : ∀ k, k ≠ N + 7 → ∀ o, (W3.putObj (N + 7) o).heap[k]? = W3.heap[k]? := fun k hk o => World.putObj_heap_other hk
      refine stepA (fun W => (∀ k, k ≠ N + 7 → W.heap[k]? = W3.heap[k]?) ∧ W.heap.size = W3.heap.size ∧ Below N W3 W) ⟨fun k h => hk k h _, by simp, below_putObj (Below.refl N W3) (by omega)⟩ ?_
      rintro W4 ⟨q1, q2, q3⟩
      have hb4 := hi.base.kept (W' := W4) hN (fun k hlt _ _ => q1 k (by omega)) q3
      have hz4 := (q1 (N + 1) (by omega)).trans hz
      have h64 : LensAt (fun b => N + 8 ≤ b ∧ b < W4.heap.size) W4 r.x f v s k := h6.kept (fun b hb => q1 b (by have := hb.1; omega)) (fun b hb => ⟨hb.1, by rw [q2]; exact hb.2⟩)
      have H64 := Lib.hid h64
      have h54 : ReaderB W4 (N + 3) r f v s k m := (q1 (N + 3) (by omega)).trans h5
      have Hb4 := Lib.hid hb4; have H2 := Lib.hid h2; have H54 := Lib.hid h54; have Hz4 := Lib.hid hz4
      have c3 := obj_cell hz4 0; have f3 := obj_free hz4 0
      clear hk q1 q3 hb4 h2 h54 hz4 h1 h3 h4 h5 hz hi h6 h64
      refine wpA_seq_k (fun K9 hK9 => ?_)
      go_wp2_with fail
      refine (count_any t W4).mono ?_
      rintro e w5 ⟨rfl, rfl⟩
      have hcl := lines_count t []
      have hcn : t.count 10 ≤ 20000 := by have := List.count_le_length (a := 10) (l := t); omega
      generalize hC : t.count 10 = C at *
      go_wp2_with fail
      refine stepA (fun W => PBase N w W ∧ W.heap[N + 1]? = some (.cells #[.int .i64 ((C : Int) + 1)] 3 (0, 0)) ∧ ReaderB W (N + 3) r f v s k m ∧ (∀ b, b ≠ N + 1 → W.heap[b]? = W4.heap[b]?) ∧ W4.heap.size = W.heap.size) ?_ ?_
      · have hk : ∀ b, b ≠ N + 1 → (W4.setCell ⟨N + 1, 0, none⟩ (.int .i64 ((C : Int) + 1))).heap[b]? = W4.heap[b]? := fun b hb => Below.heap_setCell _ _ _ _ (fun e => hb e)
        exact ⟨Hb4.out.kept hN (fun b _ _ h => hk b h) ((Below.refl N W4).setCell (p := ⟨N + 1, 0, none⟩) (by show N ≤ N + 1; omega) _), obj_setCell Hz4.out 0 _, (hk _ (by omega)).trans H54.out, hk, by simp⟩
      rintro W5 ⟨g1, g2, g3, g4, g5⟩
      have c5 := obj_cell g1.ptr 0
      have c9 : W5.cell? ⟨N + 3, 9, none⟩ = some (.int .i64 r.at_) := obj_cell g3 9
      obtain ⟨oa, on, oc, o1, o2⟩ := g1.tw.ord
      have hon : on = 10 := by rw [← o2.1]; rfl
      subst hon
      have G1 := Lib.hid g1; have G2 := Lib.hid g2; have G3 := Lib.hid g3; have G4 := Lib.hid g4; have O2 := Lib.hid o2
      clear g1 g2 g3 g4 o2 c3 f3 Hb4 H54 Hz4
      refine wpA_seq_k (fun K11 hK11 => ?_)
      have hdr : Below W5.heap.size W5 W5.drew := ⟨rfl, rfl, rfl, Nat.le_refl _, fun _ _ => rfl⟩
      have hl3 := lt_of_cell c9; have hl4 := lt_of_cell c5; have hl1 := lt_of_cell o1
      refine wp_region_eager 8 [(0, true), (1, true), (2, true), (3, true), (4, true), (5, true), (6, true), (7, true)] (by kernel_rfl) (by kernel_rfl) ?_
      iterate 8
        refine wpOrd_yield (v := ?_) rfl (fun _ _ _ h => leave_put (by decide) h) (by rfl) ?_ ?_
        rotate_left
        · intro x hx
          have hx' := hdr.trans (hx.mono (by simp))
          have z1 := (hx'.cell (p := ⟨N + 4, 0, none⟩) hl4).trans c5
          have z2 := (hx'.cell (p := ⟨N + 3, 9, none⟩) hl3).trans c9
          have z3 := (hx'.cell (p := ⟨1, 0, none⟩) hl1).trans o1
          go_simp
          with_reducible rfl
        try simp only [Act.put, List.setIfInBounds_toArray, List.set_cons_zero, List.set_cons_succ]
      refine wpOrd_nil rfl ?_
      have hbd : PBase N w W5.drew := G1.out.kept hN (fun b _ _ _ => rfl) (hdr.mono (by have := G1.out.sz; omega))
      have hg2 : W5.drew.heap[N + 1]? = some (.cells #[.int .i64 ((C : Int) + 1)] 3 (0, 0)) := G2.out
      have hg3 : ReaderB W5.drew (N + 3) r f v s k m := G3.out
      have hg6 : LensAt (fun b => N + 8 ≤ b ∧ b < W5.drew.heap.size) W5.drew r.x f v s k := H64.out.kept (fun b hb => G4.out b (by have := hb.1; omega)) (fun b hb => ⟨hb.1, by show b < W5.heap.size; rw [← g5]; exact hb.2⟩)
      have hrs := readS_at hlong H2.out
      have HBd := Lib.hid hbd; have HG2 := Lib.hid hg2; have HG3 := Lib.hid hg3; have HG6 := Lib.hid hg6; have HRS := Lib.hid hrs
      clear hbd hg2 hg3 hg6 hrs hl3 hl4 hl1 G1 G2 G3 G4 O2 H64 H2 c5 c9 o1 hdr g5
      generalize W5.drew = W6 at *
      by_cases h9 : r.at_ = 9
      · have h9b : (r.at_ == 9) = true := beq_iff_eq.2 h9
        have hrs := HRS.out
        rw [if_neg (by simp [h9])] at hrs
        clear h9 HRS
        have HRS := Lib.hid hrs
        clear hrs
        go_wp2_with fail
        rw [h9b]
        refine (must_yes W6).mono ?_
        rintro e w7 ⟨rfl, rfl⟩
        go_wp2_with fail
        clear h9b
        refine wpA_of_wp ?_
        have c5 := obj_cell HBd.out.ptr 0
        go_wp2_with (refine wpL_load_lensAt (.tmp 38) rfl rfl rfl HG3.out ?_)
        refine (lcheck_any r.x f v s k W6 (HG6.out.kept (fun _ _ => rfl) (fun b hb => hb.2)) ((HP.out.below HBd.out.bel).mono (by have := HBd.out.sz; omega))).mono ?_
        rintro e w7 ⟨rfl, hb7⟩
        have hsz6 := HBd.out.sz
        have hbd7 : PBase N w w7 := HBd.out.kept hN (fun b hlt _ _ => hb7.block b (by omega)) (hb7.mono (by omega))
        have hg27 := (hb7.block (N + 1) (by omega)).trans HG2.out
        have hg37 : ReaderB w7 (N + 3) r f v s k m := (hb7.block (N + 3) (by omega)).trans HG3.out
        have hg67 : LensAt (fun b => N + 8 ≤ b ∧ b < w7.heap.size) w7 r.x f v s k := HG6.out.kept (fun b hb => hb7.block b hb.2) (fun b hb => ⟨hb.1, Nat.lt_of_lt_of_le hb.2 hb7.size⟩)
        clear c5
        have HBd7 := Lib.hid hbd7; have HG27 := Lib.hid hg27; have HG37 := Lib.hid hg37; have HG67 := Lib.hid hg67
        have c5 := obj_cell hbd7.ptr 0
        clear hbd7 hg27 hg37 hg67 hb7 HBd HG2 HG3 HG6
        have hstep : ∀ (q : RedS) (f v s k : Ptr) (w8 : World), BenchB w8 N 37 q.x f v s k → w8 = w7.setCells N 0 (cells9 q.x f v s k) → (w8.heap[N + 1]? = some (.cells #[.int .i64 ((C : Int) + 1)] 3 (0, 0)) ∧ w8.heap[N + 2]? = some (.cells #[.int .i64 0] 44 (0, 0))) := fun q f v s k w8 _ e8 => by
          rw [e8]
          exact ⟨(keptOn_setCells N _ 0 w7 (N + 1) (by omega)).trans HG27.out, (keptOn_setCells N _ 0 w7 (N + 2) (by omega)).trans HBd7.out.err⟩
        have Hstep := Lib.hid hstep; clear hstep
        by_cases hv : validB r.x = true
        · have hrs := HRS.out
          rw [if_pos hv] at hrs
          rw [hv]
          have HRS2 := Lib.hid hrs
          clear hrs HRS hv
          unfold err
          go_wp2_with (first
            | (refine wpL_load_lensAt (.tmp 47) rfl rfl rfl HG37.out ?_)
            | (refine wpL_store_lens r.x f v s k HBd7.out.len rfl rfl (.tmp 2) (.tmp 48) rfl rfl rfl ?_; intro w8 h8 e8; have c1 := obj_cell (Hstep.out ⟨r.x, 0, 0⟩ f v s k w8 h8 e8).1 0; have f1 := obj_free (Hstep.out ⟨r.x, 0, 0⟩ f v s k w8 h8 e8).1 0; have c2 := obj_cell (Hstep.out ⟨r.x, 0, 0⟩ f v s k w8 h8 e8).2 0; have f2 := obj_free (Hstep.out ⟨r.x, 0, 0⟩ f v s k w8 h8 e8).2 0; have H8 := Lib.hid h8; have E8 := Lib.hid e8; clear h8 e8))
          obtain ⟨k1, k2, k3, k4, k5, k6, k7⟩ := final_of (n := 0) (e := 0) HBd7.out H8.out E8.out HG27.out
          rw [HRS2.out]
          exact leave_ret (q := ⟨r.x, 0, 0⟩) hNw k1 k2 k3 k4 (HG67.out.kept (fun b hb => k5 b hb.1) (fun b hb => ⟨by rw [k6]; exact hb.2, by have := hb.1; omega⟩)) k7 rfl rfl rfl
        · have hrs := HRS.out
          rw [if_neg hv] at hrs
          have hv' : validB r.x = false := by simpa using hv
          rw [hv']
          have HRS2 := Lib.hid hrs
          clear hrs HRS hv hv'
          unfold err
          go_wp2_with (refine wpL_store_lens lens0 ptr0 ptr0 ptr0 ptr0 HBd7.out.len rfl rfl (.tmp 2) (.tmp 43) rfl rfl rfl ?_; intro w8 h8 e8; have c1 := obj_cell (Hstep.out ⟨lens0, 0, 0⟩ ptr0 ptr0 ptr0 ptr0 w8 h8 e8).1 0; have f1 := obj_free (Hstep.out ⟨lens0, 0, 0⟩ ptr0 ptr0 ptr0 ptr0 w8 h8 e8).1 0; have c2 := obj_cell (Hstep.out ⟨lens0, 0, 0⟩ ptr0 ptr0 ptr0 ptr0 w8 h8 e8).2 0; have f2 := obj_free (Hstep.out ⟨lens0, 0, 0⟩ ptr0 ptr0 ptr0 ptr0 w8 h8 e8).2 0; have H8 := Lib.hid h8; have E8 := Lib.hid e8; clear h8 e8)
          obtain ⟨k1, k2, k3, k4, k5, k6, k7⟩ := final_of (n := 0) (e := 120) HBd7.out H8.out E8.out HG27.out
          rw [HRS2.out]
          exact leave_ret (q := ⟨lens0, 0, 120⟩) hNw k1 k2 k3 k4 (lensAt0 _ _) k7 rfl rfl rfl
      · have h9b : (r.at_ == 9) = false := beq_eq_false_iff_ne.2 h9
        have hrs := HRS.out
        rw [if_pos h9, hcl] at hrs
        clear HRS
        have HRS := Lib.hid hrs
        clear hrs h9
        go_wp2_with fail
        rw [h9b]
        refine (must_no W6).mono ?_
        rintro e w7 ⟨rfl, rfl⟩
        unfold MalS
        go_wp2_with fail
        exact leave_mal hNw rfl HBd.out HRS.out HG2.out rfl rfl rfl
    case bad =>
      intro chain W3 hb
      exact leave_bad hNw hlong hb rfl rfl rfl
end Go.Proofs.YtgohdcccfkjooaaGreatDoor
