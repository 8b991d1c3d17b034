/-
  DERIVED. Several texts in one: YsA, WinB.
-/
import Derived.Test.YthommhfppeonpaaGreatDoorKag
import Derived.Test.YthommhfppeonpaaGreatDoorKae
import Derived.Test.YthommhfppeonpaaGreatDoorJDrM
import Derived.Test.YthommhfppeonpaaGreatDoorKah
import Derived.Test.YthommhfppeonpaaGreatDoorGac
namespace Go.Proofs.YthommhfppeonpaaGreatDoor
open Go.RowKit

/-! ### Draw -/
def dT (s n : Int) : Int := if 1 ≤ n ∧ n ≤ 2147483648 then nextS s else 0
def dK (s n : Int) : Int := if 1 ≤ n ∧ n ≤ 2147483648 then pickS (nextS s) n else 0
def dE (n : Int) : Int := if 1 ≤ n ∧ n ≤ 2147483648 then 0 else 2

theorem draw_fn (s n : Int) (w : World) : Calls Tryz.prog 6 #[.int .u64 s, .int .i64 n] w (Ret3 w (.int .u64 (dT s n)) (.int .i64 (dK s n)) (.int .i64 (dE n))) := by
  unfold dT dK dE
  by_cases h : 1 ≤ n ∧ n ≤ 2147483648
  · rw [if_pos h, if_pos h, if_pos h]; exact draw_any s n w h.1 h.2
  · rw [if_neg h, if_neg h, if_neg h]; exact draw_no s n w (by omega)
theorem rdraw_fn (s n : Int) (w : World) : Calls Tryz.prog 7 #[.int .u64 s, .int .i64 n] w (Ret3 w (.int .u64 (dT s n)) (.int .i64 (dK s n)) (.int .i64 (dE n))) := by
  unfold dT dK dE
  by_cases h : 1 ≤ n ∧ n ≤ 2147483648
  · rw [if_pos h, if_pos h, if_pos h]; exact rdraw_any s n w h.1 h.2
  · rw [if_neg h, if_neg h, if_neg h]; exact rdraw_no s n w (by omega)

/-! ### Sample -/
def smpG (x : LensD) (ss : List Int) (n : Nat) (st : Int) : LensD × Int × Int :=
  if ycheckE x ss n ≠ 0 then (lens0, 0, ycheckE x ss n) else match smpN x ss st n with
    | .ok y => (y, stN st n, 0)
    | .error er => (lens0, stN st n, er)
def RetYG (w : World) (x : LensD) (ss : List Int) (n : Nat) (st : Int) (e : Ending) (w' : World) : Prop :=
  ∃ f v s k, e = .returned (.tuple #[lensV (smpG x ss n st).1 f v s k, .int .u64 (smpG x ss n st).2.1, .int .i64 (smpG x ss n st).2.2]) ∧ LensAt (fun b => b < w'.heap.size) w' (smpG x ss n st).1 f v s k ∧ Below w.heap.size w w'

theorem lens0_at (S : Nat → Prop) (w : World) : LensAt S w lens0 ptr0 ptr0 ptr0 ptr0 :=
  ⟨IRp.nil _ _ _ _ _, IRp.nil _ _ _ _ _, RR.nil _ _ _ _ _ _, RR.nil _ _ _ _ _ _, by decide, by decide, by decide, by decide, fun _ => rfl, fun _ => rfl, by decide⟩

theorem retYG {w w' : World} {x : LensD} {ss : List Int} {n : Nat} {st : Int} {e : Ending} (h : RetYS w x ss n st e w') : RetYG w x ss n st e w' := by
  obtain ⟨hb, ⟨h1, rfl⟩ | ⟨h1, y, f, v, s, k, h2, rfl, hl⟩ | ⟨h1, er, h2, hne, rfl⟩⟩ := h
  · have e : smpG x ss n st = (lens0, 0, ycheckE x ss n) := by unfold smpG; rw [if_pos h1]
    unfold RetYG; rw [e]
    exact ⟨_, _, _, _, rfl, lens0_at _ _, hb⟩
  · have e : smpG x ss n st = (y, stN st n, 0) := by unfold smpG; rw [if_neg (by omega), h2]
    unfold RetYG; rw [e]
    exact ⟨_, _, _, _, rfl, hl, hb⟩
  · have e : smpG x ss n st = (lens0, stN st n, er) := by unfold smpG; rw [if_neg (by omega), h2]
    unfold RetYG; rw [e]
    exact ⟨_, _, _, _, rfl, lens0_at _ _, hb⟩

theorem ySample_fn (x : LensD) (f v s k : Ptr) (ss : List Int) (sa : Option Addr) (n sc : Nat) (st : Int) (w : World) (hx : LensAt (fun b => b < w.heap.size) w x f v s k) (hP : Places w.heap.size w) (hs : IR w.heap.size w 4 sa n sc ss) (hn : n ≤ 1000000) :
    Calls Tryz.prog 13 #[lensV x f v s k, .slice sa n sc, .int .u64 st] w (RetYG w x ss n st) :=
  (ySample_any x f v s k ss sa n sc st w hx hP hs hn).mono fun _ _ h => retYG h
theorem rySample_fn (x : LensD) (f v s k : Ptr) (ss : List Int) (sa : Option Addr) (n sc : Nat) (st : Int) (w : World) (hx : LensAt (fun b => b < w.heap.size) w x f v s k) (hs : IR w.heap.size w 4 sa n sc ss) (hn : n ≤ 1000000) :
    Calls Tryz.prog 14 #[lensV x f v s k, .slice sa n sc, .int .u64 st] w (RetYG w x ss n st) :=
  (rySample_any x f v s k ss sa n sc st w hx hs hn).mono fun _ _ h => retYG h

/-! ### loads in regions that draw their order -/
theorem load39 {P : Program} {op : Oper} {ac : Act} {y : World} {b : Nat} {x : Dr39} {p : P39} {d : TypeDesc} (h : B39 y b x p) (hu : P.underlying 34 = some d) (hd : d.isRow = true) (hi : (P.info? 34).map (·.size) = some 17) (z : Operand) (ho : op.op = .load 34 z)
    (hx : ac.eval z = .pointer (some ⟨b, 0, none⟩)) : (execOp ac.eval op).run P y = .ok (.value (dr39V x p)) y := by
  unfold execOp
  simp only [ho, hx, Instr.loadAt, Instr.sureAddr, Sem.run_bind, Sem.run_pure, Result.andThen_ok, run_loadVar_mid y b 0 34 (cells39 x p) d h.range hu hd hi]
  rfl
theorem wpG_load_39 {ops : Array Oper} {Q : Exit → Act → World → Prop} {N i : Nat} {pu : List Nat} {fs : List (Nat × Tmp × Obj)} {C : Nat → Prop} {rest : List (Nat × Bool)} {op : Oper} {ac : Act} {w : World} (hi : ops.toList[i]? = some op) (hpu : pu.contains i = false)
    (hw : Region.wanted op (yielded ops ac.tmps) = true) {b : Nat} {x : Dr39} {p : P39} (h : ∀ y, Below w.heap.size w y → B39 y b x p) (z : Operand) (ho : op.op = .load 34 z)
    (hx : ac.eval z = .pointer (some ⟨b, 0, none⟩)) (hk : wpG Tryz.prog ops Q N pu fs C rest (ac.put op.dst (dr39V x p)) w) : wpG Tryz.prog ops Q N pu fs C ((i, true) :: rest) ac w :=
  wpG_yield hi hpu hw (fun y hy => load39 (h y hy) Tryz.underlying34 rfl Tryz.info39 z ho hx) hk
theorem wpRd_load_lens {ops : Array Oper} {Q : Exit → Act → World → Prop} {B i m : Nat} {rest : List Nat} {op : Oper} {listed : Array Bool} {ac : Act} {w : World} (hi : ops.toList[i]? = some op)
    (hw : Region.wanted op (yielded ops ac.tmps) = true) {b : Nat} {T : TypeId} {x : LensD} {f v s k : Ptr} (h : ∀ y, Below B w y → BenchB y b T x f v s k) (z : Operand) (ho : op.op = .load 48 z)
    (hx : ac.eval z = .pointer (some ⟨b, 0, none⟩)) (hk : wpRd B Tryz.prog ops Q rest m (listed.setIfInBounds i true) (ac.put op.dst (.agg #[.string x.nm, .int .i64 x.dist, .int .i64 x.pupil, .int .i64 x.stop, .int .i64 x.prim, .slice f.a f.n f.c, .slice v.a v.n v.c, .slice s.a s.n s.c, .slice k.a k.n k.c])) w) : wpRd B Tryz.prog ops Q (i :: rest) m listed ac w :=
  wpRd_yield hi hw (fun y hy => lens9_load (h y hy) Tryz.underlying48 rfl Tryz.infoLens z ho hx) hk

/-! ### what the law holds -/
structure YS (w : World) (bw ba bn : Int) (y : LensD) (f v s k : Ptr) (la : Option Addr) (ln lc : Nat) (ss : List Int) (wx : World) : Prop where
  bend : wx.heap[w.heap.size + 1]? = some (.cells #[.int .u8 bw, .int .u8 ba, .int .i64 bn] 36 (0, 0))
  lens : LensAt (fun b => b < wx.heap.size) wx y f v s k
  spr : IR wx.heap.size wx 4 la ln lc ss
  b : Below w.heap.size w wx
theorem YS.go {w : World} {bw ba bn : Int} {y : LensD} {f v s k : Ptr} {la : Option Addr} {ln lc : Nat} {ss : List Int} {wx wy : World} (h : YS w bw ba bn y f v s k la ln lc ss wx) (hb : Below wx.heap.size wx wy) : YS w bw ba bn y f v s k la ln lc ss wy :=
  ⟨(hb.block _ (lt_of_block h.bend)).trans h.bend, h.lens.go hb, h.spr.go hb, below_chain h.b hb⟩
theorem BenchB.pupil0 {w : World} {g : Nat} {T : TypeId} {x : LensD} {f v s k : Ptr} (h : BenchB w g T x f v s k) : BenchB (w.setCell ⟨g, 2, none⟩ (.int .i64 0)) g T { x with pupil := 0 } f v s k := by
  have := obj_setCell h 2 (.int .i64 0)
  exact this
theorem BenchB.conf0 {w : World} {g : Nat} {T : TypeId} {x : LensD} {f v s k : Ptr} (h : BenchB w g T x f v s k) : BenchB (w.setCell ⟨g, 8, none⟩ (.slice none 0 0)) g T { x with cf := [] } f v s ⟨none, 0, 0⟩ := by
  have := obj_setCell h 8 (.slice none 0 0)
  exact this
theorem LensAt.pupil {S : Nat → Prop} {w : World} {x : LensD} {f v s k : Ptr} (h : LensAt S w x f v s k) (z : Int) : LensAt S w { x with pupil := z } f v s k := ⟨h.fs, h.ws, h.l, h.cf, h.fn, h.wn, h.sn, h.kn, h.fc, h.wc, h.nm⟩
theorem LensAt.conf {S : Nat → Prop} {w : World} {x : LensD} {f v s k : Ptr} (h : LensAt S w x f v s k) : LensAt S w { x with cf := [] } f v s ⟨none, 0, 0⟩ := ⟨h.fs, h.ws, h.l, RR.nil _ _ _ _ _ _, h.fn, h.wn, h.sn, by decide, h.fc, h.wc, h.nm⟩

theorem index_len0 (x0 x1 x2 x3 x4 x5 x6 x7 x8 x9 x10 x11 x12 x13 x14 x15 x16 x17 x18 x19 x20 x21 x22 x23 x24 x25 x26 : Value) (w : World) : ((Sem.run Tryz.prog (Instr.index 52 (Value.agg #[x0, x1, x2, x3, x4, x5, x6, x7, x8, x9, x10, x11, x12, x13, x14, x15, x16, x17, x18, x19, x20, x21, x22, x23, x24, x25, x26]) (Value.int IntKind.i64 0)) w).andThen fun a w' => Result.ok (Next.value a) w') = Result.ok (Next.value (Value.agg #[x0, x1, x2, x3, x4, x5, x6, x7, x8])) w := by kernel_rfl
theorem index_len1 (x0 x1 x2 x3 x4 x5 x6 x7 x8 x9 x10 x11 x12 x13 x14 x15 x16 x17 x18 x19 x20 x21 x22 x23 x24 x25 x26 : Value) (w : World) : ((Sem.run Tryz.prog (Instr.index 52 (Value.agg #[x0, x1, x2, x3, x4, x5, x6, x7, x8, x9, x10, x11, x12, x13, x14, x15, x16, x17, x18, x19, x20, x21, x22, x23, x24, x25, x26]) (Value.int IntKind.i64 1)) w).andThen fun a w' => Result.ok (Next.value a) w') = Result.ok (Next.value (Value.agg #[x9, x10, x11, x12, x13, x14, x15, x16, x17])) w := by kernel_rfl
theorem index_len2 (x0 x1 x2 x3 x4 x5 x6 x7 x8 x9 x10 x11 x12 x13 x14 x15 x16 x17 x18 x19 x20 x21 x22 x23 x24 x25 x26 : Value) (w : World) : ((Sem.run Tryz.prog (Instr.index 52 (Value.agg #[x0, x1, x2, x3, x4, x5, x6, x7, x8, x9, x10, x11, x12, x13, x14, x15, x16, x17, x18, x19, x20, x21, x22, x23, x24, x25, x26]) (Value.int IntKind.i64 2)) w).andThen fun a w' => Result.ok (Next.value a) w') = Result.ok (Next.value (Value.agg #[x18, x19, x20, x21, x22, x23, x24, x25, x26])) w := by kernel_rfl
theorem upon_value2 {P : Program} {o : Oper} {a : Act} {K : Act → World → Prop} {Q : Exit → Act → World → Prop} {v : Value} {w : World} (h : K (a.put o.dst v) w) : Oper.upon P o a K Q (.ok (.value v) w) := h

end Go.Proofs.YthommhfppeonpaaGreatDoor

namespace Go.Proofs.YthommhfppeonpaaGreatDoor
open Go.RowKit

theorem flat4_get {os : List Q4} {i : Nat} {q : Q4} (h : os[i]? = some q) : (flat4 os).getD (i * 4) 0 = q.1 ∧ (flat4 os).getD (i * 4 + 1) 0 = q.2.1 ∧ (flat4 os).getD (i * 4 + 2) 0 = q.2.2.1 ∧ (flat4 os).getD (i * 4 + 3) 0 = q.2.2.2 :=
  ⟨flat4_at os i q 0 h (by omega), flat4_at os i q 1 h (by omega), flat4_at os i q 2 h (by omega), flat4_at os i q 3 h (by omega)⟩

theorem spr_diff {y : LensD} {os : List Q4} (h : SprF y os) {i j : Nat} {q r : Q4} (hi : os[i]? = some q) (hj : os[j]? = some r) (hne : i ≠ j) : ¬ (q.1 = r.1 ∧ q.2.1 = r.2.1) := by
  intro e
  obtain ⟨hil, ei⟩ := List.getElem?_eq_some_iff.1 hi
  obtain ⟨hjl, ej⟩ := List.getElem?_eq_some_iff.1 hj
  have h1 : (os.map key)[i]'(by simpa using hil) = (os.map key)[j]'(by simpa using hjl) := by
    rw [List.getElem_map, List.getElem_map, ei, ej]
    unfold key
    rw [e.1, e.2]
  exact hne ((List.getElem_inj h.nd).1 h1)

theorem spr_keys {x y : LensD} {os : List Q4} (hl : y.l = x.l) (h : SprF y os) : Keys x (flat4 os) os.length := by
  refine ⟨fun i j hi hj hne => ?_, fun i hi => ?_⟩
  · have e1 := List.getElem?_eq_getElem hi
    have e2 := List.getElem?_eq_getElem hj
    obtain ⟨a0, a1, _, _⟩ := flat4_get e1
    obtain ⟨b0, b1, _, _⟩ := flat4_get e2
    rw [a0, a1, b0, b1]
    exact spr_diff h e1 e2 hne
  · have e1 := List.getElem?_eq_getElem hi
    obtain ⟨a0, a1, _, _⟩ := flat4_get e1
    rw [a0, a1, ← hl]
    have := h.has _ (List.getElem_mem hi)
    unfold lHasB at this
    rw [Bool.and_eq_true] at this
    exact this.2
theorem spr_in {y : LensD} {os : List Q4} (h : SprF y os) : SprIn (flat4 os) os.length := by
  intro i hi
  have e1 := List.getElem?_eq_getElem hi
  obtain ⟨_, _, a2, a3⟩ := flat4_get e1
  rw [a2, a3]
  have := h.inn _ (List.getElem_mem hi)
  omega
theorem spr_check {x y : LensD} {os : List Q4} (hv : validB x = true) (hcf : x.cf = []) (hl : y.l = x.l) (h : SprF y os) (hn : os.length ≤ 12) : ycheckE x (flat4 os) os.length = 0 := by
  unfold ycheckE
  rw [if_pos hv, hcf, if_neg (by simp), if_neg (by omega), if_pos]
  rw [List.all_eq_true]
  intro i hi
  have hi := List.mem_range.1 hi
  have e1 := List.getElem?_eq_getElem hi
  obtain ⟨a0, a1, a2, a3⟩ := flat4_get e1
  have hk := (spr_keys hl h).has i hi
  have hb := h.inn _ (List.getElem_mem hi)
  have hm : memSp ((flat4 os).getD (i * 4) 0) ((flat4 os).getD (i * 4 + 1) 0) (keysOf (flat4 os) i) = false := by
    unfold memSp keysOf
    rw [List.any_eq_false]
    intro k hk2
    obtain ⟨j, hj, rfl⟩ := List.mem_map.1 hk2
    have hj := List.mem_range.1 hj
    have := (spr_keys hl h).diff i j hi (by omega) (by omega)
    simpa using this
  unfold sprGood
  rw [hm]
  unfold sprOk lHasB
  rw [hv, hk, a2, a3]
  simp
  omega

/-! ### what the law holds -/
structure WS (w : World) (b1 b7 : Nat) (x : LensD) (f v s k : Ptr) (la : Option Addr) (ln lc : Nat) (ss : List Int) (wx : World) : Prop where
  h5 : BenchB wx b1 48 x f v s k
  lens : LensAt (fun b => b < b7) wx x f v s k
  spr : IRp (fun b => b < b7) wx 4 la ln lc ss
  lt1 : b1 < b7
  lt7 : b7 < wx.heap.size
  ge7 : w.heap.size ≤ b7
  b : Below w.heap.size w wx
theorem WS.kept {w : World} {b1 b7 : Nat} {x : LensD} {f v s k : Ptr} {la : Option Addr} {ln lc : Nat} {ss : List Int} {wx wy : World} (h : WS w b1 b7 x f v s k la ln lc ss wx) (hk : KeptOn (fun b => b < b7) wx wy) (hs : b7 < wy.heap.size) (hb : Below w.heap.size w wy) : WS w b1 b7 x f v s k la ln lc ss wy :=
  ⟨(hk _ h.lt1).trans h.h5, h.lens.kept hk (fun _ h => h), h.spr.kept hk (fun _ h => h), h.lt1, hs, h.ge7, hb⟩
theorem WS.go {w : World} {b1 b7 : Nat} {x : LensD} {f v s k : Ptr} {la : Option Addr} {ln lc : Nat} {ss : List Int} {wx wy : World} (h : WS w b1 b7 x f v s k la ln lc ss wx) (hb : Below wx.heap.size wx wy) : WS w b1 b7 x f v s k la ln lc ss wy :=
  h.kept ((keptOn_below hb).mono (fun _ hh => Nat.lt_trans hh h.lt7)) (Nat.lt_of_lt_of_le h.lt7 hb.size) (below_chain h.b hb)
theorem WS.lens' {w : World} {b1 b7 : Nat} {x : LensD} {f v s k : Ptr} {la : Option Addr} {ln lc : Nat} {ss : List Int} {wx : World} (h : WS w b1 b7 x f v s k la ln lc ss wx) : LensAt (fun b => b < wx.heap.size) wx x f v s k := h.lens.kept (KeptOn.refl _ _) (fun _ hh => Nat.lt_trans hh h.lt7)
theorem WS.spr' {w : World} {b1 b7 : Nat} {x : LensD} {f v s k : Ptr} {la : Option Addr} {ln lc : Nat} {ss : List Int} {wx : World} (h : WS w b1 b7 x f v s k la ln lc ss wx) : IR wx.heap.size wx 4 la ln lc ss := h.spr.ir (fun _ hh => Nat.lt_trans hh h.lt7)

theorem lens_len3 {S : Nat → Prop} {w : World} {x : LensD} {f v s k : Ptr} (h : LensAt S w x f v s k) : ∀ (m : Nat) (y : SurfC), x.l[m]? = some y → y.zs.length = y.zs.length / 3 * 3 := by
  intro m y hy
  have hm : m < s.n := by
    have := (List.getElem?_eq_some_iff.1 hy).1
    have := h.l.1
    omega
  obtain ⟨b, off, y', cs, _, _, hy', ⟨a, n, c, _, hz, _⟩, _⟩ := h.l.at hm
  rw [hy] at hy'
  cases hy'
  have := hz.1
  omega

/-! ### what Sample gives back -/
def RetW (w : World) (z : LensD) (t er : Int) (e : Ending) (w' : World) : Prop :=
  ∃ f v s k, e = .returned (.tuple #[lensV z f v s k, .int .u64 t, .int .i64 er]) ∧ LensAt (fun b => b < w'.heap.size) w' z f v s k ∧ Below w.heap.size w w'
theorem sample_w {x z : LensD} {f v s k : Ptr} {ss : List Int} {sa : Option Addr} {n sc : Nat} {st t er : Int} {w : World} (hG : smpG x ss n st = (z, t, er)) (hx : LensAt (fun b => b < w.heap.size) w x f v s k) (hP : Places w.heap.size w) (hs : IR w.heap.size w 4 sa n sc ss) (hn : n ≤ 1000000) :
    Calls Tryz.prog 13 #[lensV x f v s k, .slice sa n sc, .int .u64 st] w (RetW w z t er) := by
  refine (ySample_fn x f v s k ss sa n sc st w hx hP hs hn).mono fun e w' h => ?_
  unfold RetYG at h
  rw [hG] at h
  exact h
theorem smpN_ne {x : LensD} {ss : List Int} {st : Int} : ∀ {n : Nat} {er : Int}, smpN x ss st n = .error er → er ≠ 0
  | 0, er, h => by cases h
  | n + 1, er, h => by
    rw [smpN] at h
    cases hp : smpN x ss st n with
    | error e => rw [hp] at h; cases h; exact smpN_ne hp
    | ok u =>
      rw [hp] at h
      simp only at h
      split at h
      · cases h
      · rename_i h0; cases h; exact h0
theorem smp_ways {x : LensD} {ss : List Int} {n : Nat} {st : Int} (h : ycheckE x ss n = 0) : ∃ z er, smpG x ss n st = (z, stN st n, er) ∧ ((er = 0 ∧ smpN x ss st n = .ok z) ∨ (er ≠ 0 ∧ z.l = [])) := by
  unfold smpG
  rw [if_neg (by omega)]
  cases hs : smpN x ss st n with
  | ok y => exact ⟨y, 0, rfl, Or.inl ⟨rfl, rfl⟩⟩
  | error er => exact ⟨lens0, er, rfl, Or.inr ⟨smpN_ne hs, rfl⟩⟩

/-! ### what Set gives back -/
def RetSW (w : World) (b7 : Nat) (z : LensD) (i p va : Int) (e : Ending) (w' : World) : Prop :=
  ∃ z' e' f v s k, e = .returned (.tuple #[lensV z' f v s k, .int .i64 e']) ∧ LensAt (fun b => b ≠ b7 ∧ b < w'.heap.size) w' z' f v s k ∧ Below w.heap.size w w' ∧ (e' ≠ 0 ∨ (e' = 0 ∧ lsetE z i p va = 0 ∧ z' = lsetX z i p va))
theorem lset_w (z : LensD) (f v s k : Ptr) (i p va : Int) (b7 : Nat) (w : World) (h7 : b7 < w.heap.size) (hx : LensAt (fun b => b < w.heap.size) w z f v s k) (hP : Places w.heap.size w) :
    Calls Tryz.prog 17 #[lensV z f v s k, .int .i64 i, .int .i64 p, .int .i64 va] w (RetSW w b7 z i p va) := by
  refine (lSet_any z f v s k i p va w hx hP).mono ?_
  rintro e w' (⟨h0, rfl, hb⟩ | ⟨h0, f', v', s', k', rfl, hl, hb⟩)
  · exact ⟨lens0, _, _, _, _, _, rfl, lens0_at _ _, hb, Or.inl h0⟩
  · exact ⟨_, 0, f', v', s', k', rfl, hl.kept (KeptOn.refl _ _) (fun b h => ⟨by have := h.1; omega, h.2⟩), hb, Or.inr ⟨rfl, h0, rfl⟩⟩

end Go.Proofs.YthommhfppeonpaaGreatDoor
