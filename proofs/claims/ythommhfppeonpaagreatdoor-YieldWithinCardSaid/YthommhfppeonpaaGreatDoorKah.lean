/-
  DERIVED. Several texts in one: DrK, DrL, DrN, DrO, OpA, OpB, OpC, WinA.
-/
import Derived.Test.YthommhfppeonpaaGreatDoorJDrJ
import Derived.Test.YthommhfppeonpaaGreatDoorKaf
import Derived.Test.YthommhfppeonpaaGreatDoorKae
import Derived.ArgAppend
import Derived.Test.YthommhfppeonpaaGreatDoorGaa
import Derived.Deep.Slices
import Derived.Test.YthommhfppeonpaaGreatDoorKab
import Derived.LaidMore
import Derived.Stop.Joined
import Derived.MakeChecks
import Derived.Maps.Keyed
namespace Go.Proofs.YthommhfppeonpaaGreatDoor
open Go.RowKit

structure OffD where
  place : Int
  low : Int
  wide : Int
def OffR : Rep OffD := fun _ _ x cs => cs = [.int .u16 x.place, .int .i16 x.low, .int .u16 x.wide] ∧ u16In x.place ∧ i16In x.low ∧ u16In x.wide
theorem offOk : RepOk 3 OffR where
  len := by rintro S w x cs ⟨rfl, _⟩; rfl
  kept := by rintro S T w w' x cs h _ _; exact h
  one := by rintro S w x cs ⟨rfl, _⟩ v hv; simp only [List.mem_cons, List.not_mem_nil, or_false] at hv; rcases hv with rfl | rfl | rfl <;> rfl

/-- a draft -/
structure Dr39 where
  good : GoodD
  any : DrL
  odd : Bool
  offs : List OffD
/-- where its lists lie -/
structure P39 where
  gf : Ptr
  gv : Ptr
  s : Ptr
  f : Ptr
  v : Ptr
  k : Ptr
  l : Ptr

structure Dr39At (S : Nat → Prop) (w : World) (x : Dr39) (p : P39) : Prop where
  good : GoodAt S w x.good p.gf p.gv
  any : DrLAt S w x.any p.s p.f p.v p.k
  l : RR OffR 3 S w p.l.a p.l.n p.l.c x.offs
theorem Dr39At.kept {S T : Nat → Prop} {w w' : World} {x : Dr39} {p : P39} (h : Dr39At S w x p) (hk : KeptOn S w w') (hs : ∀ b, S b → T b) : Dr39At T w' x p :=
  ⟨h.good.kept hk hs, h.any.kept hk hs, h.l.kept offOk hk hs⟩
theorem Dr39At.go {w w' : World} {x : Dr39} {p : P39} (h : Dr39At (fun b => b < w.heap.size) w x p) (hb : Below w.heap.size w w') : Dr39At (fun b => b < w'.heap.size) w' x p :=
  h.kept (keptOn_below hb) (fun _b h => Nat.lt_of_lt_of_le h hb.size)

def cells39 (x : Dr39) (p : P39) : List Value := cellsG x.good p.gf p.gv ++ cellsDL x.any p.s p.f p.v p.k ++ [.bool x.odd, .slice p.l.a p.l.n p.l.c]
abbrev dr39V (x : Dr39) (p : P39) : Value := .agg #[.bool x.good.dbl, .int .i8 x.good.bend, .int .u8 x.good.size, .int .u8 x.good.stop, .slice p.gf.a p.gf.n p.gf.c, .slice p.gv.a p.gv.n p.gv.c,
  .slice p.s.a p.s.n p.s.c, .int .u8 x.any.stop, .int .u16 x.any.far, .int .u8 x.any.pupil, .slice p.f.a p.f.n p.f.c, .slice p.v.a p.v.n p.v.c, .int .u8 x.any.prim, .int .i16 x.any.image, .slice p.k.a p.k.n p.k.c, .bool x.odd, .slice p.l.a p.l.n p.l.c]
def B39 (w : World) (g : Nat) (x : Dr39) (p : P39) : Prop := w.heap[g]? = some (.cells (cells39 x p).toArray 34 (0, 0))
theorem B39.lt {w : World} {g : Nat} {x : Dr39} {p : P39} (h : B39 w g x p) : g < w.heap.size := lt_of_block h
theorem B39.go {w w' : World} {g : Nat} {x : Dr39} {p : P39} (h : B39 w g x p) (hb : Below w.heap.size w w') : B39 w' g x p := (hb.block g h.lt).trans h
theorem B39.range {w : World} {g : Nat} {x : Dr39} {p : P39} (h : B39 w g x p) : w.rangeAt g 0 (cells39 x p) := by
  intro j v hv
  rw [obj_cell h]
  simpa using hv
theorem B39.rangeG {w : World} {g : Nat} {x : Dr39} {p : P39} (h : B39 w g x p) : w.rangeAt g 0 (cellsG x.good p.gf p.gv) := by
  intro j v hv
  have hj : j < 6 := (List.getElem?_eq_some_iff.1 hv).1
  refine h.range j v ?_
  unfold cells39
  rw [List.append_assoc, List.getElem?_append_left hj]
  exact hv
theorem B39.rangeL {w : World} {g : Nat} {x : Dr39} {p : P39} (h : B39 w g x p) : w.rangeAt g 6 (cellsDL x.any p.s p.f p.v p.k) := by
  intro j v hv
  have hj : j < 9 := (List.getElem?_eq_some_iff.1 hv).1
  have := h.range (6 + j) v (by
    unfold cells39
    rw [List.getElem?_append_left (by show 6 + j < 15; omega), List.getElem?_append_right (by show 6 ≤ 6 + j; omega)]
    rw [show 6 + j - (cellsG x.good p.gf p.gv).length = j from by show 6 + j - 6 = j; omega]
    exact hv)
  rw [Nat.zero_add] at this
  exact this
theorem B39.new (w : World) (x : Dr39) (p : P39) : B39 (w.alloc (.cells (cells39 x p).toArray 34)) w.heap.size x p := heap_alloc_new w _

theorem Tryz.info39 : (Tryz.prog.info? 34).map (·.size) = some 17 := by kernel_rfl
theorem Tryz.infoGood : (Tryz.prog.info? 25).map (·.size) = some 6 := by kernel_rfl
theorem wpL_load_39 {ops : Array Oper} {rest : List Oper} {op : Oper} {ac : Act} {w : World} {Q : Exit → Act → World → Prop} {b : Nat} {x : Dr39} {p : P39} (h : B39 w b x p) (hgd : op.guard = none) (y : Operand) (ho : op.op = .load 34 y)
    (hx : ac.eval y = .pointer (some ⟨b, 0, none⟩)) (hk : wpList Tryz.prog ops Q rest (ac.put op.dst (dr39V x p)) w) : wpList Tryz.prog ops Q (op :: rest) ac w :=
  wpList_load_mid hgd 34 y ho b 0 hx (cells39 x p) _ h.range Tryz.underlying34 rfl Tryz.info39 hk
theorem wpL_load_good {ops : Array Oper} {rest : List Oper} {op : Oper} {ac : Act} {w : World} {Q : Exit → Act → World → Prop} {b o : Nat} {x : GoodD} {f v : Ptr} (h : w.rangeAt b o (cellsG x f v)) (hgd : op.guard = none) (y : Operand) (ho : op.op = .load 25 y)
    (hx : ac.eval y = .pointer (some ⟨b, o, none⟩)) (hk : wpList Tryz.prog ops Q rest (ac.put op.dst (goodV x f v)) w) : wpList Tryz.prog ops Q (op :: rest) ac w :=
  wpList_load_mid hgd 25 y ho b o hx (cellsG x f v) _ h Tryz.underlying25 rfl Tryz.infoGood hk

/-- the surfaces of its lens, as a function -/
def lens39Of (x : Dr39) : List SurfC := if x.odd = true then listOf x.any else goodOf x.good

set_option maxRecDepth 100000 in
set_option maxHeartbeats 3200000 in
theorem lens39_any (x : Dr39) (p : P39) (w : World) (hx : Dr39At (fun b => b < w.heap.size) w x p) :
    Calls Tryz.prog 8 #[dr39V x p] w (RetGL (lens39Of x) w) := by
  have Hx := Lib.hid hx; clear hx
  obtain ⟨e1, e2⟩ := heap_two w (.cells (cells39 x p).toArray 34) (.cells #[.string emptyS, .int .i64 0, .int .i64 0, .int .i64 0, .int .i64 0, .slice none 0 0, .slice none 0 0, .slice none 0 0, .slice none 0 0] 48)
  have hb := below_two (w := w) (.cells (cells39 x p).toArray 34) (.cells #[.string emptyS, .int .i64 0, .int .i64 0, .int .i64 0, .int .i64 0, .slice none 0 0, .slice none 0 0, .slice none 0 0, .slice none 0 0] 48)
  have E1 := Lib.hid e1; have E2 := Lib.hid e2; have Hb := Lib.hid hb
  clear e1 e2 hb
  go_enter Tryz.func8, Tryz.ntmps8
  go_upto_region 1 with fail
  refine step_world (fun wx => B39 wx w.heap.size x p ∧ wx.heap[w.heap.size + 1]? = some (.cells #[.string emptyS, .int .i64 0, .int .i64 0, .int .i64 0, .int .i64 0, .slice none 0 0, .slice none 0 0, .slice none 0 0, .slice none 0 0] 48 (0, 0)) ∧ Below w.heap.size w wx) ⟨E1.out, E2.out, Hb.out⟩ ?_
  clear E1 E2 Hb
  rintro w1 ⟨h1, h2, hb⟩
  have hl1 := h1.lt
  have hl2 := lt_of_block h2
  have c15 : w1.cell? ⟨w.heap.size, 15, none⟩ = some (.bool x.odd) := (obj_cell h1 15).trans rfl
  have Hx1 := Lib.hid (Hx.out.go hb)
  have H1 := Lib.hid h1; have H2 := Lib.hid h2; have Hb := Lib.hid hb
  clear h1 h2 hb
  cases ho : x.odd
  all_goals
    rw [ho] at c15
    have Hodd := Lib.hid ho
    go_wp2_with (first
      | (refine wpL_load_drl H1.out.rangeL rfl (.tmp 5) rfl rfl ?_)
      | (refine wpL_load_good H1.out.rangeG rfl (.tmp 8) rfl rfl ?_)
      | (go_at_call 22; refine (dlens_any x.any p.s p.f p.v p.k _ Hx1.out.any).mono ?_; rintro e w2 ⟨y, f, v, s, k, rfl, hla, hval, hyl, hdist, hpup, hb2⟩; have Hla := Lib.hid hla; have Hval := Lib.hid hval; have Hyl := Lib.hid hyl; have Hb2 := Lib.hid hb2; have M2 := Lib.hid ((hb2.block _ hl2).trans H2.out); clear hla hval hyl hdist hpup hb2)
      | (go_at_call 23; refine (glens_any x.good p.gf p.gv _ Hx1.out.good).mono ?_; rintro e w2 ⟨y, f, v, s, k, rfl, hla, hval, hyl, hb2⟩; have Hla := Lib.hid hla; have Hval := Lib.hid hval; have Hyl := Lib.hid hyl; have Hb2 := Lib.hid hb2; have M2 := Lib.hid ((hb2.block _ hl2).trans H2.out); clear hla hval hyl hb2)
      | (refine wpL_store_lens y f v s k M2.out rfl rfl (.tmp 2) (.tmp 7) rfl rfl rfl ?_; intro w3 h3 e3; have H3 := Lib.hid h3; have E3 := Lib.hid e3; clear h3 e3)
      | (refine wpL_store_lens y f v s k M2.out rfl rfl (.tmp 2) (.tmp 10) rfl rfl rfl ?_; intro w3 h3 e3; have H3 := Lib.hid h3; have E3 := Lib.hid e3; clear h3 e3))
    refine bodyPost_ret (ret_lens rfl rfl H3.out) rfl ?_
    have hk3 : KeptOn (fun b => b ≠ w.heap.size + 1) w2 w3 := by rw [E3.out]; exact keptOn_setCells _ _ _ _
    have hs3 : w3.heap.size = w2.heap.size := by rw [E3.out, size_setCells]
    refine ⟨y, f, v, s, k, rfl, Hla.out.kept (hk3.mono (fun b h => by have := h.1; have := Hb.out.size; omega)) (fun b h => ⟨by have := h.1; have := Hb.out.size; omega, by rw [hs3]; exact h.2⟩), Hval.out, (by rw [Hyl.out]; unfold lens39Of; rw [Hodd.out]; rfl), ?_⟩
    rw [E3.out]; exact below_setCells (Nat.le_succ _) _ _ (below_chain Hb.out Hb2.out)

end Go.Proofs.YthommhfppeonpaaGreatDoor

namespace Go.Proofs.YthommhfppeonpaaGreatDoor
open Go.RowKit

abbrev Q4 := Int × Int × Int × Int
def f4 (q : Q4) : List Int := [q.1, q.2.1, q.2.2.1, q.2.2.2]
def flat4 (l : List Q4) : List Int := (l.map f4).flatten
def key (q : Q4) : Int × Int := (q.1, q.2.1)

theorem flat4_len : ∀ (l : List Q4), (flat4 l).length = l.length * 4
  | [] => rfl
  | q :: l => by
    have := flat4_len l
    unfold flat4 at *
    rw [List.map_cons, List.flatten_cons, List.length_append, this, List.length_cons]
    show 4 + _ = _; omega
theorem flat4_app (a b : List Q4) : flat4 (a ++ b) = flat4 a ++ flat4 b := by unfold flat4; rw [List.map_append, List.flatten_append]
theorem flat4_one (q : Q4) : flat4 [q] = [q.1, q.2.1, q.2.2.1, q.2.2.2] := rfl
theorem flat4_at : ∀ (l : List Q4) (i : Nat) (q : Q4) (j : Nat), l[i]? = some q → j < 4 → (flat4 l).getD (i * 4 + j) 0 = (f4 q).getD j 0
  | [], i, q, j, h, _ => by cases h
  | p :: l, 0, q, j, h, hj => by
    cases h
    unfold flat4
    rw [List.map_cons, List.flatten_cons, Nat.zero_mul, Nat.zero_add]
    exact getD_snoc (show j < 4 from hj)
  | p :: l, i + 1, q, j, h, hj => by
    have := flat4_at l i q j h hj
    unfold flat4 at *
    rw [List.map_cons, List.flatten_cons, show (i + 1) * 4 + j = 4 + (i * 4 + j) by omega]
    rw [getD_snocR (m := 4) rfl]
    exact this
theorem flat4_take (l : List Q4) (k : Nat) : (flat4 l).take (k * 4) = flat4 (l.take k) := by
  by_cases hk : k ≤ l.length
  · have e : flat4 l = flat4 (l.take k) ++ flat4 (l.drop k) := by rw [← flat4_app, List.take_append_drop]
    rw [e, List.take_append_of_le_length (by rw [flat4_len, List.length_take]; omega), List.take_of_length_le (by rw [flat4_len, List.length_take]; omega)]
  · rw [List.take_of_length_le (by rw [flat4_len]; omega), List.take_of_length_le (l := l) (by omega)]
theorem flat4_drop (l : List Q4) (k : Nat) : (flat4 l).drop (k * 4) = flat4 (l.drop k) := by
  by_cases hk : k ≤ l.length
  · have e : flat4 l = flat4 (l.take k) ++ flat4 (l.drop k) := by rw [← flat4_app, List.take_append_drop]
    have hl : (flat4 (l.take k)).length = k * 4 := by rw [flat4_len, List.length_take]; omega
    rw [e, ← hl, List.drop_left]
  · rw [List.drop_of_length_le (by rw [flat4_len]; omega), List.drop_of_length_le (l := l) (by omega)]; rfl

theorem irp_take4 {S : Nat → Prop} {w : World} {a : Option Addr} {n c : Nat} {l : List Q4} (h : IRp S w 4 a n c (flat4 l)) {k : Nat} (hk : k ≤ n) : IRp S w 4 a k c (flat4 (l.take k)) := by
  have hl := h.1
  rw [flat4_len] at hl
  refine ⟨by rw [flat4_len, List.length_take]; omega, Nat.le_trans hk h.2.1, fun h0 => ?_⟩
  obtain ⟨b, off, e, hb, hc⟩ := h.2.2 (by omega)
  refine ⟨b, off, e, hb, fun j hj => ?_⟩
  rw [hc j (by omega), ← flat4_take]
  simp only [List.getD_eq_getElem?_getD, List.getElem?_take]
  rw [if_pos hj]
theorem irp_drop4 {S : Nat → Prop} {w : World} {b off n c c' : Nat} {l : List Q4} (h : IRp S w 4 (some ⟨b, off, none⟩) n c (flat4 l)) {k : Nat} (hk : k ≤ n) (hc' : n - k ≤ c') : IRp S w 4 (some ⟨b, off + k * 4, none⟩) (n - k) c' (flat4 (l.drop k)) := by
  have hl := h.1
  rw [flat4_len] at hl
  refine ⟨by rw [flat4_len, List.length_drop]; omega, hc', fun h0 => ?_⟩
  obtain ⟨b', off', e, hb, hc⟩ := h.2.2 (by omega)
  cases e
  refine ⟨b, off + k * 4, rfl, hb, fun j hj => ?_⟩
  have := hc (k * 4 + j) (by omega)
  rw [Nat.add_assoc, this, ← flat4_drop]
  simp only [List.getD_eq_getElem?_getD, List.getElem?_drop]

theorem Tryz.infoSpread4 : (Tryz.prog.info? 61).map (fun i => (i.zero, i.size, i.bytes)) = some (some (.agg #[.int .i64 0, .int .i64 0, .int .i64 0, .int .i64 0]), 4, 32) := by kernel_rfl

/-- one record appended: whose the row's block is then -/
theorem wpList_append_sp {ops : Array Oper} {rest : List Oper} {o : Oper} {a : Act} {Q : Exit → Act → World → Prop} {w : World} (hgd : o.guard = none) (s x : Operand)
    (ho : o.op = .call { callee := .builtin .append, args := #[s, x], argTypes := #[50, 50] }) (base : Nat) (v : Value) (l : List Q4) (q : Q4) {g : Nat}
    (hs : a.eval s = v) (hown : w.ownsRow base 61 4 v l.length ((flat4 l).map (Value.int .i64))) (hx : a.eval x = .slice (some ⟨g, 0, none⟩) 1 1) (hg : w.heap[g]? = some (.cells #[.int .i64 q.1, .int .i64 q.2.1, .int .i64 q.2.2.1, .int .i64 q.2.2.2] 61 (0, 0))) (hlen : l.length ≤ 1000) (hbase : base ≤ w.heap.size)
    (h : ∀ g cap w', w'.ownsRow base 61 4 (.slice (some ⟨g, 0, none⟩) (l.length + 1) cap) (l.length + 1) ((flat4 (l ++ [q])).map (Value.int .i64)) → Below base w w' → KeptOn (fun b => b < w.heap.size ∧ v.ownBlock ≠ some b) w w' → (v.ownBlock = some g ∨ g = w.heap.size) → g < w'.heap.size → w.heap.size ≤ w'.heap.size → wpList Tryz.prog ops Q rest (a.put o.dst (.slice (some ⟨g, 0, none⟩) (l.length + 1) cap)) w') :
    wpList Tryz.prog ops Q (o :: rest) a w := by
  obtain ⟨i, hi1, hi2, hi3, hi4⟩ := info_of Tryz.infoSpread4
  refine wpList_append_lies w hgd s x 50 ho base 61 i _ 4 32 Tryz.underlying50 hi1 hi2 hi3 hi4 rfl (by omega) v l.length _ hs hown
    ⟨g, 0, none⟩ 1 1 [.int .i64 q.1, .int .i64 q.2.1, .int .i64 q.2.2.1, .int .i64 q.2.2.2] hx rfl (World.news_of_block (cs := #[.int .i64 q.1, .int .i64 q.2.1, .int .i64 q.2.2.1, .int .i64 q.2.2.2]) (t := 61) (fr := (0, 0)) hg) (by simp [Value.oneCell'])
    (by omega) (by unfold maxLen; omega) (by omega) hbase _ rfl ?_
  intro g' cap' w' h1 h2 h3 h4
  refine h g' cap' w' (by rw [flat4_app, List.map_append]; exact h1) ((Below.refl _ _).grown h2 hbase (fun k hk => (hown.lt k hk).1)) ((keptOn_grown h2).mono (fun b hb => hb)) h3 h4 h2.size

/-- what spreads are -/
structure SprF (y : LensD) (os : List Q4) : Prop where
  nd : (os.map key).Nodup
  has : ∀ q ∈ os, lHasB y q.1 q.2.1 = true
  inn : ∀ q ∈ os, -1000000 ≤ q.2.2.1 ∧ q.2.2.1 ≤ q.2.2.2 ∧ q.2.2.2 ≤ 1000000

/-- .. in the making: those taken, and those left -/
structure SprM (y : LensD) (os all : List Q4) : Prop where
  nd : ((os ++ all).map key).Nodup
  hasO : ∀ q ∈ os, lHasB y q.1 q.2.1 = true
  hasA : ∀ q ∈ all, lHasB y q.1 q.2.1 = true
  inn : ∀ q ∈ os, -1000000 ≤ q.2.2.1 ∧ q.2.2.1 ≤ q.2.2.2 ∧ q.2.2.2 ≤ 1000000
theorem SprM.fin {y : LensD} {os all : List Q4} (h : SprM y os all) : SprF y os := by
  refine ⟨?_, h.hasO, h.inn⟩
  have := h.nd
  rw [List.map_append] at this
  exact (List.nodup_append.1 this).1
theorem SprM.next {y : LensD} {os all : List Q4} (h : SprM y os all) {k : Nat} {q : Q4} (hq : all[k]? = some q) {lo hi : Int} (hb : -1000000 ≤ lo ∧ lo ≤ hi ∧ hi ≤ 1000000) : SprM y (os ++ [(q.1, q.2.1, lo, hi)]) (all.take k ++ all.drop (k + 1)) := by
  obtain ⟨hk, e⟩ := List.getElem?_eq_some_iff.1 hq
  have ea : all = all.take k ++ q :: all.drop (k + 1) := by
    have := List.take_append_drop k all
    rw [List.drop_eq_getElem_cons hk, e] at this
    exact this.symm
  refine ⟨?_, ?_, ?_, ?_⟩
  · have hp : ((os ++ [(q.1, q.2.1, lo, hi)]) ++ (all.take k ++ all.drop (k + 1))).map key |>.Perm ((os ++ all).map key) := by
      rw [show (os ++ all).map key = (os ++ (all.take k ++ q :: all.drop (k + 1))).map key by rw [← ea]]
      simp only [List.map_append, List.map_cons, List.map_nil, List.append_assoc]
      refine List.Perm.append_left _ ?_
      show (key q :: (List.map key (List.take k all) ++ List.map key (List.drop (k + 1) all))).Perm _
      exact List.perm_middle.symm
    exact hp.nodup_iff.2 h.nd
  · intro p hp
    rcases List.mem_append.1 hp with hp | hp
    · exact h.hasO p hp
    · obtain rfl := List.mem_singleton.1 hp
      exact h.hasA q (List.mem_of_getElem? hq)
  · intro p hp
    rcases List.mem_append.1 hp with hp | hp
    · exact h.hasA p (List.mem_of_mem_take hp)
    · exact h.hasA p (List.mem_of_mem_drop hp)
  · intro p hp
    rcases List.mem_append.1 hp with hp | hp
    · exact h.inn p hp
    · obtain rfl := List.mem_singleton.1 hp; exact hb

/-- those that the lens has, in order -/
structure SprA (y : LensD) (i p : Int) (all : List Q4) : Prop where
  nd : (all.map key).Nodup
  has : ∀ q ∈ all, lHasB y q.1 q.2.1 = true
  bef : ∀ q ∈ all, q.1 < i ∨ (q.1 = i ∧ q.2.1 < p)
theorem SprA.next {y : LensD} {i p : Int} {all : List Q4} (h : SprA y i p all) (hh : lHasB y i p = true) : SprA y i (p + 1) (all ++ [(i, p, 0, 0)]) := by
  refine ⟨?_, ?_, ?_⟩
  · rw [List.map_append, List.nodup_append]
    refine ⟨h.nd, by simp, ?_⟩
    intro a ha b hb
    obtain ⟨q, hq, rfl⟩ := List.mem_map.1 ha
    obtain rfl : b = (i, p) := by simpa [key] using hb
    intro e
    have := h.bef q hq
    unfold key at e
    cases e
    omega
  · intro q hq
    rcases List.mem_append.1 hq with hq | hq
    · exact h.has q hq
    · obtain rfl := List.mem_singleton.1 hq; exact hh
  · intro q hq
    rcases List.mem_append.1 hq with hq | hq
    · have := h.bef q hq; omega
    · obtain rfl := List.mem_singleton.1 hq
      right; exact ⟨rfl, by show p < p + 1; omega⟩
theorem SprA.skip {y : LensD} {i p : Int} {all : List Q4} (h : SprA y i p all) : SprA y i (p + 1) all := ⟨h.nd, h.has, fun q hq => by have := h.bef q hq; omega⟩
theorem SprA.line {y : LensD} {i p : Int} {all : List Q4} (h : SprA y i p all) : SprA y (i + 1) 1 all := ⟨h.nd, h.has, fun q hq => by have := h.bef q hq; omega⟩

/-- what Spreads gives back -/
def RetSpr (L : List SurfC) (w : World) (e : Ending) (w' : World) : Prop :=
  ∃ a n c y os, y.l = L ∧ e = .returned (.slice a n c) ∧ IRp (fun b => w.heap.size ≤ b ∧ b < w'.heap.size) w' 4 a n c (flat4 os) ∧ (a = none → c = 0) ∧ n ≤ 5 ∧ SprF y os ∧ Below w.heap.size w w'

end Go.Proofs.YthommhfppeonpaaGreatDoor

namespace Go.Proofs.YthommhfppeonpaaGreatDoor
open Go.RowKit

theorem lit_cells {w : World} {gl : Nat} {T : TypeId} {cs : List Value} (h : w.heap[gl]? = some (.cells cs.toArray T (0, 0))) : ∀ j u, cs[j]? = some u → w.cell? ((⟨gl, 0, none⟩ : Addr).add j) = some u :=
  World.news_of_block (cs := cs.toArray) (t := T) (fr := (0, 0)) h

theorem ok_slice_inj {g g' n n' c c' : Nat} {w w' : World} (h : (Result.ok (Value.slice (some ⟨g, 0, none⟩) n c) w : Result Value) = .ok (Value.slice (some ⟨g', 0, none⟩) n' c') w') : g = g' := by cases h; rfl
theorem ok_world_inj {α : Type} {v v' : α} {w w' : World} (h : (Result.ok v w : Result α) = .ok v' w') : w = w' := by cases h; rfl

/-- one record appended to a row of the call's own; the old block's cells stay -/
theorem wpList_append_keep {ops : Array Oper} {rest : List Oper} {o : Oper} {a : Act} {Q : Exit → Act → World → Prop} {w : World} (hgd : o.guard = none) (s x : Operand)
    (ho : o.op = .call { callee := .builtin .append, args := #[s, x], argTypes := #[50, 50] }) (base : Nat) (g n cap : Nat) (xs : List Int) (q0 q1 q2 q3 : Int) {gl : Nat}
    (hs : a.eval s = .slice (some ⟨g, 0, none⟩) n cap) (hown : w.ownsRow base 61 4 (.slice (some ⟨g, 0, none⟩) n cap) n (xs.map (Value.int .i64))) (hx : a.eval x = .slice (some ⟨gl, 0, none⟩) 1 1) (hg : w.heap[gl]? = some (.cells #[.int .i64 q0, .int .i64 q1, .int .i64 q2, .int .i64 q3] 61 (0, 0))) (hlen : n ≤ 1000) (hbase : base ≤ w.heap.size)
    (h : ∀ g' cap' w', w'.ownsRow base 61 4 (.slice (some ⟨g', 0, none⟩) (n + 1) cap') (n + 1) ((xs ++ [q0, q1, q2, q3]).map (Value.int .i64)) → Below base w w' → KeptOn (fun b => b < w.heap.size ∧ g ≠ b) w w' → (∀ j, j < n * 4 → w'.cell? ⟨g, j, none⟩ = w.cell? ⟨g, j, none⟩) → w.heap.size ≤ w'.heap.size → wpList Tryz.prog ops Q rest (a.put o.dst (.slice (some ⟨g', 0, none⟩) (n + 1) cap')) w') :
    wpList Tryz.prog ops Q (o :: rest) a w := by
  obtain ⟨i, hi1, hi2, hi3, hi4⟩ := info_of Tryz.infoSpread4
  have hlc := lit_cells (cs := [.int .i64 q0, .int .i64 q1, .int .i64 q2, .int .i64 q3]) hg
  obtain ⟨g', cap', w', hr, h2, h3, h4, h5⟩ := run_append_lies (P := Tryz.prog) w 50 o.type base 61 i _ 4 32 Tryz.underlying50 hi1 hi2 hi3 hi4 rfl (by omega) _ n _ hown
    ⟨gl, 0, none⟩ 1 1 [.int .i64 q0, .int .i64 q1, .int .i64 q2, .int .i64 q3] rfl hlc (by simp [Value.oneCell']) (by omega) (by unfold maxLen; omega) (by omega) hbase _ rfl
  have hob : (Value.slice (some ⟨g, 0, none⟩) n cap).ownBlock = some g := rfl
  have hkeep : ∀ j, j < n * 4 → w'.cell? ⟨g, j, none⟩ = w.cell? ⟨g, j, none⟩ := by
    by_cases hroom : n + 1 ≤ cap
    · obtain ⟨cur, hcur, hcs⟩ : ∃ cur : Array Value, w.heap[g]? = some (.cells cur 61 (0, 0)) ∧ cur.size = cap * 4 := by
        rcases hown.2 with ⟨e, _⟩ | ⟨g2, cap2, cur, e, _, hc, _, _, hcs, _⟩
        · cases e
        · cases e; exact ⟨cur, hc, hcs⟩
      have hr2 := run_append_room (P := Tryz.prog) w 50 o.type 61 i Tryz.underlying50 hi1 g n cap cur hcur ⟨gl, 0, none⟩ 1 1 [.int .i64 q0, .int .i64 q1, .int .i64 q2, .int .i64 q3] (by rw [hi3]; rfl) hlc (by simp [Value.oneCell']) hroom (by rw [hi3, hcs]; simp; omega)
      obtain rfl := ok_slice_inj (hr.symm.trans hr2)
      intro j hj
      have a1 := World.ownsRow.cellAt h2 j (by omega)
      have a2 := World.ownsRow.cellAt hown j hj
      rw [a1, a2, List.getElem?_append_left (by rw [hown.1]; exact hj)]
    · obtain ⟨v'', w'', hr2, _, hgr⟩ := run_append_arg_grows (P := Tryz.prog) w 50 o.type 61 i _ 4 32 Tryz.underlying50 hi1 hi2 hi3 hi4 rfl (by omega) ⟨g, 0, none⟩ n cap (xs.map (Value.int .i64)) hown.1 (World.ownsRow.cells hown rfl)
        ⟨gl, 0, none⟩ 1 1 [.int .i64 q0, .int .i64 q1, .int .i64 q2, .int .i64 q3] rfl hlc (by omega) (by unfold maxLen; omega) (by omega)
      obtain rfl := ok_world_inj (hr.symm.trans hr2)
      intro j hj
      have hlt := (hown.lt g hob).2
      exact (keptOn_grown hgr).cell (p := ⟨g, j, none⟩) ⟨hlt, by simp⟩
  refine wpList_plain hgd fun K hK => ?_
  unfold Oper.wp
  simp [execOp, ho, resolve, invoke, builtin, hs, hx, hr, Result.andThen]
  refine hK _ _ (h g' cap' w' (by rw [List.map_append]; exact h2) ((Below.refl _ _).grown h3 hbase (fun k hk => (hown.lt k hk).1)) ((keptOn_grown h3).mono (fun b hb => ⟨hb.1, by rw [hob]; simpa using hb.2⟩)) hkeep h3.size)

/-- what Of gives back -/
def RetOf (w : World) (e : Ending) (w' : World) : Prop :=
  ∃ a n c ss, e = .returned (.slice a n c) ∧ IRp (fun b => w.heap.size ≤ b ∧ b < w'.heap.size) w' 4 a n c ss ∧ n ≤ 1000 ∧ Below w.heap.size w w'

theorem map_set (xs : List Int) (j : Nat) (z : Int) : (xs.map (Value.int .i64)).set j (.int .i64 z) = (xs.set j z).map (Value.int .i64) := by rw [List.map_set]

end Go.Proofs.YthommhfppeonpaaGreatDoor

namespace Go.Proofs.YthommhfppeonpaaGreatDoor
open Go.RowKit

def slen : Value → Nat
  | .slice _ n _ => n
  | _ => 0

set_option maxRecDepth 100000 in
set_option maxHeartbeats 6400000 in
theorem bendof_any (what at' nn : Int) (hw : u8In what) (ha : u8In at') (ss : List Int) (sa : Option Addr) (n sc : Nat) (w : World) (hs : IR w.heap.size w 4 sa n sc ss) (hn : n ≤ 12) (hsc : sa = none → sc = 0) :
    Calls Tryz.prog 10 #[.agg #[.int .u8 what, .int .u8 at', .int .i64 nn], .slice sa n sc] w (RetOf w) := by
  have hg0 := heap_alloc_new w (.cells #[.int .u8 what, .int .u8 at', .int .i64 nn] 36)
  have hb0 := (Below.refl w.heap.size w).alloc (Nat.le_refl _) (.cells #[.int .u8 what, .int .u8 at', .int .i64 nn] 36)
  have Hg0 := Lib.hid hg0; have Hb0 := Lib.hid hb0; have Hs := Lib.hid hs; have Hsc := Lib.hid hsc
  clear hg0 hb0 hs hsc
  unfold u8In at hw ha
  go_enter Tryz.func10, Tryz.ntmps10
  go_upto_region 1 with fail
  refine step_world (fun wx => wx.heap[w.heap.size]? = some (.cells #[.int .u8 what, .int .u8 at', .int .i64 nn] 36 (0, 0)) ∧ Below w.heap.size w wx) ⟨Hg0.out, Hb0.out⟩ ?_
  clear Hg0 Hb0
  rintro w1 ⟨h1, hb⟩
  have hl1 := lt_of_block h1
  have H1 := Lib.hid h1; have Hb := Lib.hid hb
  clear h1 hb
  go_upto_region 3 with (refine wpList_append_irs Tryz.underlying50 Tryz.infoSpread4 rfl (by omega) (by omega) rfl (.tmp 7) (.tmp 8) rfl w1.heap.size (.slice none 0 0) 0 [] rfl ⟨rfl, Or.inl ⟨rfl, rfl⟩⟩ (fun b => b < w1.heap.size) sa n sc ss rfl (IR.irp (Hs.out.go Hb.out) (fun _ h => h)) Hsc.out (by omega) (Nat.le_refl _) ?_; intro v7 w7 hown7 hgrow7; have Hown7 := Lib.hid hown7; have Hb7 := Lib.hid ((Below.refl w1.heap.size w1).grown hgrow7 (Nat.le_refl _) (fun k hk => by cases hk)); clear hown7 hgrow7)
  have hown7 := Hown7.out
  rw [Nat.zero_add, List.nil_append] at hown7
  have c0 := ((obj_cell ((Hb7.out.block _ hl1).trans H1.out) 0).trans rfl : w7.cell? ⟨w.heap.size, 0, none⟩ = some (.int .u8 what))
  have c1 := ((obj_cell ((Hb7.out.block _ hl1).trans H1.out) 1).trans rfl : w7.cell? ⟨w.heap.size, 1, none⟩ = some (.int .u8 at'))
  have c2 := ((obj_cell ((Hb7.out.block _ hl1).trans H1.out) 2).trans rfl : w7.cell? ⟨w.heap.size, 2, none⟩ = some (.int .i64 nn))
  have Hbw := Lib.hid (below_chain Hb.out Hb7.out)
  have hsz := Hbw.out.size
  have hsz1 := Hb7.out.size
  have hl7 : w.heap.size < w7.heap.size := by omega
  have Ho := Lib.hid hown7
  clear hown7 Hown7 H1 Hb Hb7 Hs Hsc
  by_cases hn0 : n = 0
  · subst hn0
    obtain ⟨oa, oc, rfl⟩ := owns_slice Ho.out
    go_wp2
    go_ret
    refine ⟨_, _, _, [nn, at', 0, 0], rfl, irp_blk (heap_alloc_new w7 _) ⟨by omega, by simp⟩ rfl rfl, by omega, below_chain Hbw.out (below_al (Below.refl _ _))⟩
  · obtain ⟨g, cap, rfl, hg1, hg2⟩ := World.ownsRow.form Ho.out (by omega)
    obtain ⟨k, ek, hk⟩ : ∃ k : Nat, at' % (n : Int) = (k : Int) ∧ k < n := by
      have h0 := Int.emod_nonneg at' (by omega : (n : Int) ≠ 0)
      have h1 := Int.emod_lt_of_pos at' (by omega : (0 : Int) < (n : Int))
      exact ⟨(at' % (n : Int)).toNat, by omega, by omega⟩
    have hlen := Ho.out.1
    rw [List.length_map] at hlen
    have hcell : ∀ j, j < n * 4 → w7.cell? ⟨g, j, none⟩ = some (.int .i64 (ss.getD j 0)) := by
      intro j hj
      rw [World.ownsRow.cellAt Ho.out j hj, List.getElem?_map, List.getElem?_eq_getElem (by omega)]
      simp [List.getD_eq_getElem?_getD, show j < ss.length by omega]
    have k0 := hcell (k * 4) (by omega); have k1 := hcell (k * 4 + 1) (by omega); have k2 := hcell (k * 4 + 2) (by omega); have k3 := hcell (k * 4 + 3) (by omega)
    have f0 := World.ownsRow.frozenAt Ho.out (k * 4); have f1 := World.ownsRow.frozenAt Ho.out (k * 4 + 1); have f2 := World.ownsRow.frozenAt Ho.out (k * 4 + 2); have f3 := World.ownsRow.frozenAt Ho.out (k * 4 + 3)
    generalize ss.getD (k * 4) 0 = p0 at *
    generalize ss.getD (k * 4 + 1) 0 = p1 at *
    generalize ss.getD (k * 4 + 2) 0 = p2 at *
    generalize ss.getD (k * 4 + 3) 0 = p3 at *
    clear hcell hlen
    obtain ⟨m6, em, hm0, hm1⟩ : ∃ m : Int, what % 6 = m ∧ 0 ≤ m ∧ m < 6 := ⟨_, rfl, Int.emod_nonneg _ (by omega), Int.emod_lt_of_pos _ (by omega)⟩
    have hways : m6 = 0 ∨ m6 = 1 ∨ m6 = 2 ∨ m6 = 3 ∨ m6 = 4 ∨ m6 = 5 := by omega
    have hput : ∀ j, RetOf w (.returned (.slice (some ⟨g, 0, none⟩) n cap)) (w7.setCell ⟨g, j, none⟩ (.int .i64 nn)) := fun j => by
      obtain ⟨ho, hgr⟩ := World.ownsRow.stored Ho.out j (.int .i64 nn)
      rw [map_set] at ho
      obtain ⟨a', c', e1, -, h2⟩ := own_irp ho
      cases e1
      exact ⟨_, n, _, _, rfl, h2.kept (KeptOn.refl _ _) (fun b h => ⟨by have := h.1; omega, h.2⟩), by omega, Hbw.out.setCell (p := ⟨g, j, none⟩) (by show w.heap.size ≤ g; omega) _⟩
    have Hput := Lib.hid hput
    clear hput hm0 hm1
    rcases hways with rfl | rfl | rfl | rfl | rfl | rfl
    · go_wp2
      go_ret
      exact Hput.out _
    · go_wp2
      go_ret
      exact Hput.out _
    · go_wp2
      go_ret
      exact Hput.out _
    · go_wp2
      go_ret
      exact Hput.out _
    · go_wp2_with (refine wpList_append_irs Tryz.underlying50 Tryz.infoSpread4 rfl (by omega) (by omega) rfl (.tmp 82) (.tmp 86) rfl w1.heap.size _ n ss rfl (Ho.out.alloc _) (fun _ => True) _ 1 1 [p0, p1, p2, p3] rfl (irp_new rfl rfl rfl) (fun e => by cases e) (by omega) (by simp; omega) ?_; intro v8 w8 hown8 hgrow8; have Hown8 := Lib.hid hown8; have Hb8 := Lib.hid ((Hbw.out.alloc hsz (.cells #[.int .i64 p0, .int .i64 p1, .int .i64 p2, .int .i64 p3] 61)).grown hgrow8 (by simp; omega) (fun k hk => by have := (Ho.out.lt k hk).1; omega)); clear hown8 hgrow8)
      go_ret
      obtain ⟨a', c', e1, -, h2⟩ := own_irp Hown8.out
      subst e1
      exact ⟨_, n + 1, _, _, rfl, h2.kept (KeptOn.refl _ _) (fun b h => ⟨by have := h.1; omega, h.2⟩), by omega, Hb8.out⟩
    · go_wp2_with fail
      have hn0b : ((n : Int) == 0) = false := by simp; omega
      simp only [ek, em, hn0b]
      go_loopw [5] (fun ov wr => ∃ (m : Nat) (g' cap' : Nat) (xs : List Int), ov = .slice (some ⟨g', 0, none⟩) m cap' ∧ n ≤ m ∧ m ≤ 13 ∧ wr.ownsRow w1.heap.size 61 4 ov m (xs.map (Value.int .i64)) ∧ wr.cell? ⟨g, k * 4, none⟩ = some (.int .i64 p0) ∧ wr.cell? ⟨g, k * 4 + 1, none⟩ = some (.int .i64 p1) ∧ wr.cell? ⟨g, k * 4 + 2, none⟩ = some (.int .i64 p2) ∧ wr.cell? ⟨g, k * 4 + 3, none⟩ = some (.int .i64 p3) ∧ g < wr.heap.size ∧ Below w1.heap.size w7 wr) (fun ov _ => 13 - slen ov)
      case atStart => exact ⟨n, g, cap, ss, rfl, Nat.le_refl _, by omega, Ho.out, k0, k1, k2, k3, hg2, Below.mono (Below.refl w7.heap.size w7) (by omega)⟩
      case round =>
        clear k0 k1 k2 k3 f0 f1 f2 f3 c0 c1 c2
        obtain ⟨m, g', cap', xs, rfl, hm, hm13, ho, k0, k1, k2, k3, hgr, hbr⟩ := hrel
        have Ho2 := Lib.hid ho; have Hbr := Lib.hid hbr
        have hszr := hbr.size
        clear ho hbr
        by_cases hlt : m < 13
        · go_wp2_with (refine wpList_append_keep rfl (.tmp 31) (.tmp 35) rfl w1.heap.size g' m cap' xs p0 p1 p2 p3 rfl (Ho2.out.alloc _) rfl (heap_alloc_new wr _) (by omega) (by simp; omega) ?_; intro g8 cap8 w8 hown8 hb8 hk8 hc8 hs8; have Hown8 := Lib.hid hown8; have Hb8 := Lib.hid hb8; have Hk8 := Lib.hid hk8; have Hc8 := Lib.hid hc8; have Hs8 := Lib.hid hs8; clear hown8 hb8 hk8 hc8 hs8)
          have hcells : ∀ j v, j < n * 4 → wr.cell? ⟨g, j, none⟩ = some v → w8.cell? ⟨g, j, none⟩ = some v := by
            intro j v hj hv
            have ha : (wr.alloc (.cells #[.int .i64 p0, .int .i64 p1, .int .i64 p2, .int .i64 p3] 61)).cell? ⟨g, j, none⟩ = some v := (Below.cell ((Below.refl wr.heap.size wr).alloc (Nat.le_refl _) _) (p := ⟨g, j, none⟩) hgr).trans hv
            by_cases hgg : g' = g
            · subst hgg
              exact (Hc8.out j (by omega)).trans ha
            · exact (Hk8.out.cell (p := ⟨g, j, none⟩) ⟨by simp; omega, hgg⟩).trans ha
          have k0' := hcells (k * 4) _ (by omega) k0; have k1' := hcells (k * 4 + 1) _ (by omega) k1; have k2' := hcells (k * 4 + 2) _ (by omega) k2; have k3' := hcells (k * 4 + 3) _ (by omega) k3
          have K0 := Lib.hid k0'; have K1 := Lib.hid k1'; have K2 := Lib.hid k2'; have K3 := Lib.hid k3'
          have hs8 := Hs8.out
          rw [size_alloc] at hs8
          clear hcells k0 k1 k2 k3 k0' k1' k2' k3'
          go_roundw
          case rel => exact ⟨m + 1, g8, cap8, _, rfl, by omega, by omega, Hown8.out, K0.out, K1.out, K2.out, K3.out, by omega, (Hbr.out.alloc (by omega) _).trans Hb8.out⟩
          case measure => simp [slen]; omega
        · obtain ⟨a', c', e1, -, h2⟩ := own_irp Ho2.out
          cases e1
          have H2 := Lib.hid h2
          clear h2
          go_wp2
          go_ret
          exact ⟨_, m, _, xs, rfl, H2.out.kept (KeptOn.refl _ _) (fun b h => ⟨by have := h.1; omega, h.2⟩), by omega, Hbw.out.trans (Hbr.out.mono (by omega))⟩

end Go.Proofs.YthommhfppeonpaaGreatDoor

namespace Go.Proofs.YthommhfppeonpaaGreatDoor
open Go.ChangeShapes Go.WideShapes Go.ChangeAt Go.RowKit

section
variable {P : Program} {H : Type} {enc : TypeId × Value → H} {w : World} {base : Nat} {sp : Nat → Bool} {held : Bool} {t e : TypeId} {cs : List Value}

/-- the cells can be read as the type says -/
def Rd (enc : TypeId × Value → H) (P : Program) (w : World) (base : Nat) (sp : Nat → Bool) (held : Bool) (t : TypeId) (cs : List Value) : Prop := ∃ fuel x, DataW.trod enc P w base sp held fuel t cs = some x

theorem rd_int {k : IntKind} (ht : P.underlying t = some (.int k)) (h : Rd enc P w base sp held t cs) : ∃ n, cs = [.int k n] ∧ k.min ≤ n ∧ n ≤ k.max := by
  obtain ⟨fuel, x, h⟩ := h
  obtain ⟨n, rfl, _, hw⟩ := DataW.trod_int ht h
  exact ⟨n, rfl, by simpa [Lit.wf] using hw⟩
theorem rd_bool (ht : P.underlying t = some .bool) (h : Rd enc P w base sp held t cs) : ∃ b, cs = [.bool b] := by
  obtain ⟨fuel, x, h⟩ := h
  obtain ⟨b, rfl, _⟩ := DataW.trod_bool ht h
  exact ⟨b, rfl⟩
theorem rd_len {fs : Array Field} (ht : P.underlying t = some (.struct fs)) (h : Rd enc P w base sp held t cs) : cs.length = P.cellsOf t := by
  obtain ⟨fuel, x, h⟩ := h
  obtain ⟨_, _, _, _, hl, _⟩ := DataW.trod_struct ht h
  exact hl
theorem rd_field {fs : Array Field} {ty off n : Nat} (ht : P.underlying t = some (.struct fs)) (h : Rd enc P w base sp held t cs) (i : Nat) (hf : (fs[i]?).map (fun f => (f.type, f.offset)) = some (ty, off)) (hn : P.cellsOf ty = n) :
    Rd enc P w base sp held ty ((cs.drop off).take n) := by
  obtain ⟨fuel, x, h⟩ := h
  obtain ⟨xs, m, _, _, hl, hx, hfs⟩ := DataW.trod_struct ht h
  obtain ⟨f, hfi, hfe⟩ := Option.map_eq_some_iff.1 hf
  cases hfe
  have := hfs i f hfi
  have hi : i < xs.length := by
    rw [hx]
    exact (Array.getElem?_eq_some_iff.1 hfi).1
  rw [List.getElem?_eq_getElem hi, hn] at this
  exact ⟨m, _, this⟩
theorem rd_arr {k : IntKind} {n : Nat} (ht : P.underlying t = some (.array n e)) (he : P.underlying e = some (.int k)) (hce : P.cellsOf e = 1) (hct : P.cellsOf t = n) (h : Rd enc P w base sp held t cs) :
    ∀ i, i < n → ∃ z, cs[i]? = some (.int k z) ∧ k.min ≤ z ∧ z ≤ k.max := by
  obtain ⟨fuel, x, h⟩ := h
  obtain ⟨xs, m, _, _, hl, hx, hel⟩ := DataW.trod_array ht h
  intro i hi
  have h1 := hel i hi
  rw [hce, Nat.mul_one, List.getElem?_eq_getElem (by omega)] at h1
  obtain ⟨z, e1, h2⟩ := rd_int he ⟨m, _, h1⟩
  refine ⟨z, ?_, h2⟩
  have : ((cs.drop i).take 1)[0]? = some (.int k z) := by rw [e1]; rfl
  rw [List.getElem?_take, if_pos (by omega), List.getElem?_drop, Nat.add_zero] at this
  exact this

theorem cell_spot {a : Addr} {v : Value} (h : w.cell? a = some v) : a = ⟨a.block, a.off, none⟩ ∧ a.block < w.heap.size := by
  unfold World.cell? at h
  split at h
  · rename_i c _ _ hb
    split at h
    · cases h
    · rename_i hs
      refine ⟨?_, lt_of_block hb⟩
      obtain ⟨b, o, s⟩ := a
      cases s with
      | none => rfl
      | some s => simp at hs
  · cases h

/-- a slice: where it lies, and its elements -/
theorem rd_slice {m : Nat} (ht : P.underlying t = some (.slice e)) (hm : P.cellsOf e = m) (h0 : 0 < m) (h : Rd enc P w base sp held t cs) :
    ∃ a n c, cs = [.slice a n c] ∧ (a = none → n = 0 ∧ c = 0) ∧ n ≤ c ∧
      (0 < n → ∃ b off, a = some ⟨b, off, none⟩ ∧ b < w.heap.size ∧ ∀ i, i < n → ∃ cs', cs'.length = m ∧ Rd enc P w base sp held e cs' ∧ w.rangeAt b (off + i * m) cs') := by
  obtain ⟨fuel, x, h⟩ := h
  rcases DataW.trod_slice ht h with ⟨rfl, _⟩ | ⟨a, len, cap, elems, rest, n, _, rfl, _, hb, hl, hcm, hlen, hel, _, _⟩
  · exact ⟨none, 0, 0, rfl, fun _ => ⟨rfl, rfl⟩, Nat.le_refl _, fun h => absurd h (by omega)⟩
  · refine ⟨some a, len, cap, rfl, fun e => by (exact absurd e (by simp)), hl, fun hpos => ?_⟩
    have each : ∀ i, i < len → ∃ cs', w.cells? base (a.add (i * m)) m = some cs' ∧ Rd enc P w base sp held e cs' := by
      intro i hi
      have h1 := hel i hi
      rw [List.getElem?_eq_getElem (by omega), hm] at h1
      obtain ⟨cs', h2, h3⟩ := Option.bind_eq_some_iff.1 h1
      exact ⟨cs', h2, n, _, h3⟩
    obtain ⟨cs0, hc0, _⟩ := each 0 hpos
    obtain ⟨_, hl0, hcell0⟩ := World.cells?_some hc0
    have hc00 := hcell0 0 h0
    rw [List.getElem?_eq_getElem (by omega)] at hc00
    rw [Nat.zero_mul] at hc00
    have ha0 : (a.add 0).add 0 = a := by simp [Addr.add]
    rw [ha0] at hc00
    obtain ⟨ea, hlt⟩ := cell_spot hc00
    refine ⟨a.block, a.off, by rw [← ea], hlt, fun i hi => ?_⟩
    obtain ⟨cs', hc, hr⟩ := each i hi
    obtain ⟨_, hl', hcell⟩ := World.cells?_some hc
    refine ⟨cs', hl', hr, fun j v hv => ?_⟩
    have hj : j < m := by have := (List.getElem?_eq_some_iff.1 hv).1; omega
    have := hcell j hj
    rw [hv] at this
    rw [← this]
    rw [ea, Addr.add_lit, Addr.add_lit]

theorem list_of {α : Type} {p : Nat → α → Prop} : ∀ n : Nat, (∀ i, i < n → ∃ x, p i x) → ∃ l : List α, l.length = n ∧ ∀ i x, l[i]? = some x → p i x
  | 0, _ => ⟨[], rfl, fun i x h => by simp at h⟩
  | n + 1, h => by
    obtain ⟨l, hl, hp⟩ := list_of n (fun i hi => h i (by omega))
    obtain ⟨x, hx⟩ := h n (by omega)
    refine ⟨l ++ [x], by simp [hl], fun i y hy => ?_⟩
    by_cases hi : i < n
    · rw [List.getElem?_append_left (by omega)] at hy
      exact hp i y hy
    · rw [List.getElem?_append_right (by omega)] at hy
      have : i = n := by
        have := (List.getElem?_eq_some_iff.1 hy).1
        simp at this; omega
      subst this
      rw [hl, Nat.sub_self] at hy
      cases hy
      exact hx

/-- a slice of records -/
theorem rd_row {α : Type} {R : Rep α} {m : Nat} (ht : P.underlying t = some (.slice e)) (hm : P.cellsOf e = m) (h0 : 0 < m) (hR : ∀ cs', cs'.length = m → Rd enc P w base sp held e cs' → ∃ x, R (fun b => b < w.heap.size) w x cs') (h : Rd enc P w base sp held t cs) :
    ∃ (p : Ptr) (l : List α), cs = [.slice p.a p.n p.c] ∧ RR R m (fun b => b < w.heap.size) w p.a p.n p.c l := by
  obtain ⟨a, n, c, rfl, hn, hnc, hpos⟩ := rd_slice ht hm h0 h
  by_cases hn0 : 0 < n
  · obtain ⟨b, off, rfl, hlt, hel⟩ := hpos hn0
    obtain ⟨l, hl, hp⟩ := list_of (p := fun i x => ∃ cs', R (fun b => b < w.heap.size) w x cs' ∧ w.rangeAt b (off + i * m) cs') n (fun i hi => by
      obtain ⟨cs', h1, h2, h3⟩ := hel i hi
      obtain ⟨x, hx⟩ := hR cs' h1 h2
      exact ⟨x, cs', hx, h3⟩)
    exact ⟨⟨some ⟨b, off, none⟩, n, c⟩, l, rfl, hl, hnc, fun _ => ⟨b, off, rfl, hlt, hp⟩⟩
  · obtain rfl : n = 0 := by omega
    exact ⟨⟨a, 0, c⟩, [], rfl, RR.nil _ _ _ _ _ _⟩

/-- a slice of bytes -/
theorem rd_bytes (ht : P.underlying t = some (.slice e)) (he : P.underlying e = some (.int .u8)) (hm : P.cellsOf e = 1) (h : Rd enc P w base sp held t cs) :
    ∃ (p : Ptr) (zs : List Int), cs = [.slice p.a p.n p.c] ∧ BR (fun b => b < w.heap.size) w p.a p.n p.c zs := by
  obtain ⟨a, n, c, rfl, hn, hnc, hpos⟩ := rd_slice ht hm (by omega) h
  by_cases hn0 : 0 < n
  · obtain ⟨b, off, rfl, hlt, hel⟩ := hpos hn0
    obtain ⟨l, hl, hp⟩ := list_of (p := fun i (x : Int) => w.cell? ⟨b, off + i, none⟩ = some (.int .u8 x) ∧ 0 ≤ x ∧ x ≤ 255) n (fun i hi => by
      obtain ⟨cs', h1, h2, h3⟩ := hel i hi
      obtain ⟨z, rfl, hz0, hz1⟩ := rd_int he h2
      have := h3 0 _ rfl
      rw [Nat.mul_one, Nat.add_zero] at this
      refine ⟨z, this, ?_, ?_⟩
      · simpa [IntKind.min, IntKind.signed, IntKind.bits] using hz0
      · simpa [IntKind.max, IntKind.signed, IntKind.bits] using hz1)
    refine ⟨⟨some ⟨b, off, none⟩, n, c⟩, l, rfl, hl, hnc, fun j hj => ⟨b, off, rfl, hlt, ?_⟩⟩
    have hj : j < n := hj
    have hjl : l[j]? = some (l.getD j 0) := by rw [List.getD_eq_getElem?_getD, List.getElem?_eq_getElem (by omega)]; rfl
    exact hp j _ hjl
  · obtain rfl : n = 0 := by omega
    exact ⟨⟨a, 0, c⟩, [], rfl, rfl, hnc, fun j hj => absurd (show j < 0 from hj) (by omega)⟩

end
end Go.Proofs.YthommhfppeonpaaGreatDoor

namespace Go.Proofs.YthommhfppeonpaaGreatDoor
open Go.ChangeShapes Go.WideShapes Go.ChangeAt Go.RowKit

section
variable {P : Program} {H : Type} {enc : TypeId × Value → H} {w : World} {base : Nat} {sp : Nat → Bool} {held : Bool} {t e : TypeId} {c : Value} {cs : List Value}
theorem rd_u8 (ht : P.underlying t = some (.int .u8)) (h : Rd enc P w base sp held t [c]) : ∃ z, c = .int .u8 z ∧ u8In z := by
  obtain ⟨z, e, h0, h1⟩ := rd_int ht h
  refine ⟨z, by simpa using e, ?_⟩
  simp [IntKind.min, IntKind.max, IntKind.signed, IntKind.bits] at h0 h1
  unfold u8In; omega
theorem rd_au8 {n : Nat} (ht : P.underlying t = some (.array n e)) (he : P.underlying e = some (.int .u8)) (hce : P.cellsOf e = 1) (hct : P.cellsOf t = n) (h : Rd enc P w base sp held t cs) (i : Nat) (hi : i < n) : ∃ z, cs[i]? = some (.int .u8 z) ∧ u8In z := by
  obtain ⟨z, e, h0, h1⟩ := rd_arr ht he hce hct h i hi
  refine ⟨z, e, ?_⟩
  simp [IntKind.min, IntKind.max, IntKind.signed, IntKind.bits] at h0 h1
  unfold u8In; omega
theorem rd_i8 (ht : P.underlying t = some (.int .i8)) (h : Rd enc P w base sp held t [c]) : ∃ z, c = .int .i8 z ∧ i8In z := by
  obtain ⟨z, e, h0, h1⟩ := rd_int ht h
  refine ⟨z, by simpa using e, ?_⟩
  simp [IntKind.min, IntKind.max, IntKind.signed, IntKind.bits] at h0 h1
  unfold i8In; omega
theorem rd_ai8 {n : Nat} (ht : P.underlying t = some (.array n e)) (he : P.underlying e = some (.int .i8)) (hce : P.cellsOf e = 1) (hct : P.cellsOf t = n) (h : Rd enc P w base sp held t cs) (i : Nat) (hi : i < n) : ∃ z, cs[i]? = some (.int .i8 z) ∧ i8In z := by
  obtain ⟨z, e, h0, h1⟩ := rd_arr ht he hce hct h i hi
  refine ⟨z, e, ?_⟩
  simp [IntKind.min, IntKind.max, IntKind.signed, IntKind.bits] at h0 h1
  unfold i8In; omega
theorem rd_i16 (ht : P.underlying t = some (.int .i16)) (h : Rd enc P w base sp held t [c]) : ∃ z, c = .int .i16 z ∧ i16In z := by
  obtain ⟨z, e, h0, h1⟩ := rd_int ht h
  refine ⟨z, by simpa using e, ?_⟩
  simp [IntKind.min, IntKind.max, IntKind.signed, IntKind.bits] at h0 h1
  unfold i16In; omega
theorem rd_ai16 {n : Nat} (ht : P.underlying t = some (.array n e)) (he : P.underlying e = some (.int .i16)) (hce : P.cellsOf e = 1) (hct : P.cellsOf t = n) (h : Rd enc P w base sp held t cs) (i : Nat) (hi : i < n) : ∃ z, cs[i]? = some (.int .i16 z) ∧ i16In z := by
  obtain ⟨z, e, h0, h1⟩ := rd_arr ht he hce hct h i hi
  refine ⟨z, e, ?_⟩
  simp [IntKind.min, IntKind.max, IntKind.signed, IntKind.bits] at h0 h1
  unfold i16In; omega
theorem rd_u16 (ht : P.underlying t = some (.int .u16)) (h : Rd enc P w base sp held t [c]) : ∃ z, c = .int .u16 z ∧ u16In z := by
  obtain ⟨z, e, h0, h1⟩ := rd_int ht h
  refine ⟨z, by simpa using e, ?_⟩
  simp [IntKind.min, IntKind.max, IntKind.signed, IntKind.bits] at h0 h1
  unfold u16In; omega
theorem rd_au16 {n : Nat} (ht : P.underlying t = some (.array n e)) (he : P.underlying e = some (.int .u16)) (hce : P.cellsOf e = 1) (hct : P.cellsOf t = n) (h : Rd enc P w base sp held t cs) (i : Nat) (hi : i < n) : ∃ z, cs[i]? = some (.int .u16 z) ∧ u16In z := by
  obtain ⟨z, e, h0, h1⟩ := rd_arr ht he hce hct h i hi
  refine ⟨z, e, ?_⟩
  simp [IntKind.min, IntKind.max, IntKind.signed, IntKind.bits] at h0 h1
  unfold u16In; omega
end

variable {H : Type} {enc : TypeId × Value → H} {w : World} {base : Nat} {sp : Nat → Bool} {held : Bool} {cs : List Value}

theorem rd_drs (h : Rd enc Tryz.prog w base sp held 126 cs) : ∃ x, DrSR (fun b => b < w.heap.size) w x cs := by
  have hl : cs.length = 22 := (rd_len Tryz.underlying126 h).trans (by kernel_rfl)
  match cs, hl with
  | [c0, c1, c2, c3, c4, c5, c6, c7, c8, c9, c10, c11, c12, c13, c14, c15, c16, c17, c18, c19, c20, c21], _ =>
    obtain ⟨kind, rfl, rkind⟩ := rd_u8 Tryz.underlying5 (rd_field Tryz.underlying126 h 0 (ty := 5) (off := 0) (n := 1) rfl (by kernel_rfl))
    obtain ⟨v0, ev0, rv0⟩ := rd_ai16 Tryz.underlying121 Tryz.underlying28 (by kernel_rfl) (by kernel_rfl) (rd_field Tryz.underlying126 h 1 (ty := 121) (off := 1) (n := 2) rfl (by kernel_rfl)) 0 (by omega)
    obtain rfl : c1 = .int .i16 v0 := by simpa using ev0
    obtain ⟨v1, ev1, rv1⟩ := rd_ai16 Tryz.underlying121 Tryz.underlying28 (by kernel_rfl) (by kernel_rfl) (rd_field Tryz.underlying126 h 1 (ty := 121) (off := 1) (n := 2) rfl (by kernel_rfl)) 1 (by omega)
    obtain rfl : c2 = .int .i16 v1 := by simpa using ev1
    obtain ⟨k0, ek0, rk0⟩ := rd_ai16 Tryz.underlying121 Tryz.underlying28 (by kernel_rfl) (by kernel_rfl) (rd_field Tryz.underlying126 h 2 (ty := 121) (off := 3) (n := 2) rfl (by kernel_rfl)) 0 (by omega)
    obtain rfl : c3 = .int .i16 k0 := by simpa using ek0
    obtain ⟨k1, ek1, rk1⟩ := rd_ai16 Tryz.underlying121 Tryz.underlying28 (by kernel_rfl) (by kernel_rfl) (rd_field Tryz.underlying126 h 2 (ty := 121) (off := 3) (n := 2) rfl (by kernel_rfl)) 1 (by omega)
    obtain rfl : c4 = .int .i16 k1 := by simpa using ek1
    obtain ⟨h0, eh0, rh0⟩ := rd_ai8 Tryz.underlying122 Tryz.underlying22 (by kernel_rfl) (by kernel_rfl) (rd_field Tryz.underlying126 h 3 (ty := 122) (off := 5) (n := 4) rfl (by kernel_rfl)) 0 (by omega)
    obtain rfl : c5 = .int .i8 h0 := by simpa using eh0
    obtain ⟨h1, eh1, rh1⟩ := rd_ai8 Tryz.underlying122 Tryz.underlying22 (by kernel_rfl) (by kernel_rfl) (rd_field Tryz.underlying126 h 3 (ty := 122) (off := 5) (n := 4) rfl (by kernel_rfl)) 1 (by omega)
    obtain rfl : c6 = .int .i8 h1 := by simpa using eh1
    obtain ⟨h2, eh2, rh2⟩ := rd_ai8 Tryz.underlying122 Tryz.underlying22 (by kernel_rfl) (by kernel_rfl) (rd_field Tryz.underlying126 h 3 (ty := 122) (off := 5) (n := 4) rfl (by kernel_rfl)) 2 (by omega)
    obtain rfl : c7 = .int .i8 h2 := by simpa using eh2
    obtain ⟨h3, eh3, rh3⟩ := rd_ai8 Tryz.underlying122 Tryz.underlying22 (by kernel_rfl) (by kernel_rfl) (rd_field Tryz.underlying126 h 3 (ty := 122) (off := 5) (n := 4) rfl (by kernel_rfl)) 3 (by omega)
    obtain rfl : c8 = .int .i8 h3 := by simpa using eh3
    obtain ⟨p0, ep0, rp0⟩ := rd_ai8 Tryz.underlying123 Tryz.underlying22 (by kernel_rfl) (by kernel_rfl) (rd_field Tryz.underlying126 h 4 (ty := 123) (off := 9) (n := 2) rfl (by kernel_rfl)) 0 (by omega)
    obtain rfl : c9 = .int .i8 p0 := by simpa using ep0
    obtain ⟨p1, ep1, rp1⟩ := rd_ai8 Tryz.underlying123 Tryz.underlying22 (by kernel_rfl) (by kernel_rfl) (rd_field Tryz.underlying126 h 4 (ty := 123) (off := 9) (n := 2) rfl (by kernel_rfl)) 1 (by omega)
    obtain rfl : c10 = .int .i8 p1 := by simpa using ep1
    obtain ⟨order, rfl, rorder⟩ := rd_i8 Tryz.underlying22 (rd_field Tryz.underlying126 h 5 (ty := 22) (off := 11) (n := 1) rfl (by kernel_rfl))
    obtain ⟨thick, rfl, rthick⟩ := rd_i16 Tryz.underlying28 (rd_field Tryz.underlying126 h 6 (ty := 28) (off := 12) (n := 1) rfl (by kernel_rfl))
    obtain ⟨glass, rfl, rglass⟩ := rd_u8 Tryz.underlying5 (rd_field Tryz.underlying126 h 7 (ty := 5) (off := 13) (n := 1) rfl (by kernel_rfl))
    obtain ⟨semi, rfl, rsemi⟩ := rd_u8 Tryz.underlying5 (rd_field Tryz.underlying126 h 8 (ty := 5) (off := 14) (n := 1) rfl (by kernel_rfl))
    obtain ⟨hole, rfl, rhole⟩ := rd_u8 Tryz.underlying5 (rd_field Tryz.underlying126 h 9 (ty := 5) (off := 15) (n := 1) rfl (by kernel_rfl))
    obtain ⟨b0, eb0, rb0⟩ := rd_ai8 Tryz.underlying124 Tryz.underlying22 (by kernel_rfl) (by kernel_rfl) (rd_field Tryz.underlying126 h 10 (ty := 124) (off := 16) (n := 5) rfl (by kernel_rfl)) 0 (by omega)
    obtain rfl : c16 = .int .i8 b0 := by simpa using eb0
    obtain ⟨b1, eb1, rb1⟩ := rd_ai8 Tryz.underlying124 Tryz.underlying22 (by kernel_rfl) (by kernel_rfl) (rd_field Tryz.underlying126 h 10 (ty := 124) (off := 16) (n := 5) rfl (by kernel_rfl)) 1 (by omega)
    obtain rfl : c17 = .int .i8 b1 := by simpa using eb1
    obtain ⟨b2, eb2, rb2⟩ := rd_ai8 Tryz.underlying124 Tryz.underlying22 (by kernel_rfl) (by kernel_rfl) (rd_field Tryz.underlying126 h 10 (ty := 124) (off := 16) (n := 5) rfl (by kernel_rfl)) 2 (by omega)
    obtain rfl : c18 = .int .i8 b2 := by simpa using eb2
    obtain ⟨b3, eb3, rb3⟩ := rd_ai8 Tryz.underlying124 Tryz.underlying22 (by kernel_rfl) (by kernel_rfl) (rd_field Tryz.underlying126 h 10 (ty := 124) (off := 16) (n := 5) rfl (by kernel_rfl)) 3 (by omega)
    obtain rfl : c19 = .int .i8 b3 := by simpa using eb3
    obtain ⟨b4, eb4, rb4⟩ := rd_ai8 Tryz.underlying124 Tryz.underlying22 (by kernel_rfl) (by kernel_rfl) (rd_field Tryz.underlying126 h 10 (ty := 124) (off := 16) (n := 5) rfl (by kernel_rfl)) 4 (by omega)
    obtain rfl : c20 = .int .i8 b4 := by simpa using eb4
    obtain ⟨pfilms, lfilms, efilms, rfilms⟩ := rd_bytes Tryz.underlying23 Tryz.underlying5 (by kernel_rfl) (rd_field Tryz.underlying126 h 11 (ty := 23) (off := 21) (n := 1) rfl (by kernel_rfl))
    obtain rfl : c21 = .slice pfilms.a pfilms.n pfilms.c := by simpa using efilms
    exact ⟨⟨kind, v0, v1, k0, k1, h0, h1, h2, h3, p0, p1, order, thick, glass, semi, hole, b0, b1, b2, b3, b4, lfilms⟩, _, _, _, rfl, rfilms, ⟨rkind, rv0, rv1, rk0, rk1, rh0, rh1, rh2, rh3, rp0, rp1, rorder, rthick, rglass, rsemi, rhole, rb0, rb1, rb2, rb3, rb4⟩⟩

theorem rd_put (h : Rd enc Tryz.prog w base sp held 168 cs) : ∃ x, PutR (fun b => b < w.heap.size) w x cs := by
  have hl : cs.length = 3 := (rd_len Tryz.underlying168 h).trans (by kernel_rfl)
  match cs, hl with
  | [c0, c1, c2], _ =>
    obtain ⟨s, rfl, rs⟩ := rd_u8 Tryz.underlying5 (rd_field Tryz.underlying168 h 0 (ty := 5) (off := 0) (n := 1) rfl (by kernel_rfl))
    obtain ⟨q, rfl, rq⟩ := rd_u8 Tryz.underlying5 (rd_field Tryz.underlying168 h 1 (ty := 5) (off := 1) (n := 1) rfl (by kernel_rfl))
    obtain ⟨v, rfl, rv⟩ := rd_i16 Tryz.underlying28 (rd_field Tryz.underlying168 h 2 (ty := 28) (off := 2) (n := 1) rfl (by kernel_rfl))
    exact ⟨⟨s, q, v⟩, rfl, rs, rq, rv⟩

theorem rd_puts (h : Rd enc Tryz.prog w base sp held 166 cs) : ∃ x, PutsR (fun b => b < w.heap.size) w x cs := by
  obtain ⟨p, l, rfl, hr⟩ := rd_row (m := 3) Tryz.underlying166 (by kernel_rfl) (by omega) (fun cs2 hc2 h2 => rd_put h2) h
  exact ⟨l, _, _, _, rfl, hr⟩

theorem rd_off (h : Rd enc Tryz.prog w base sp held 76 cs) : ∃ x, OffR (fun b => b < w.heap.size) w x cs := by
  have hl : cs.length = 3 := (rd_len Tryz.underlying76 h).trans (by kernel_rfl)
  match cs, hl with
  | [c0, c1, c2], _ =>
    obtain ⟨s, rfl, rs⟩ := rd_u16 Tryz.underlying27 (rd_field Tryz.underlying76 h 0 (ty := 27) (off := 0) (n := 1) rfl (by kernel_rfl))
    obtain ⟨q, rfl, rq⟩ := rd_i16 Tryz.underlying28 (rd_field Tryz.underlying76 h 1 (ty := 28) (off := 1) (n := 1) rfl (by kernel_rfl))
    obtain ⟨v, rfl, rv⟩ := rd_u16 Tryz.underlying27 (rd_field Tryz.underlying76 h 2 (ty := 27) (off := 2) (n := 1) rfl (by kernel_rfl))
    exact ⟨⟨s, q, v⟩, rfl, rs, rq, rv⟩

theorem rd_drl (h : Rd enc Tryz.prog w base sp held 31 cs) : ∃ x s f v k, cs = cellsDL x s f v k ∧ DrLAt (fun b => b < w.heap.size) w x s f v k := by
  have hl : cs.length = 9 := (rd_len Tryz.underlying31 h).trans (by kernel_rfl)
  match cs, hl with
  | [c0, c1, c2, c3, c4, c5, c6, c7, c8], _ =>
    obtain ⟨ps, ls, es, rs⟩ := rd_row (m := 22) Tryz.underlying26 (by kernel_rfl) (by omega) (fun cs2 hc2 h2 => rd_drs h2) (rd_field Tryz.underlying31 h 0 (ty := 26) (off := 0) (n := 1) rfl (by kernel_rfl))
    obtain rfl : c0 = .slice ps.a ps.n ps.c := by simpa using es
    obtain ⟨stop, rfl, rstop⟩ := rd_u8 Tryz.underlying5 (rd_field Tryz.underlying31 h 1 (ty := 5) (off := 1) (n := 1) rfl (by kernel_rfl))
    obtain ⟨far, rfl, rfar⟩ := rd_u16 Tryz.underlying27 (rd_field Tryz.underlying31 h 2 (ty := 27) (off := 2) (n := 1) rfl (by kernel_rfl))
    obtain ⟨pupil, rfl, rpupil⟩ := rd_u8 Tryz.underlying5 (rd_field Tryz.underlying31 h 3 (ty := 5) (off := 3) (n := 1) rfl (by kernel_rfl))
    obtain ⟨pf, lf, ef, rf⟩ := rd_bytes Tryz.underlying23 Tryz.underlying5 (by kernel_rfl) (rd_field Tryz.underlying31 h 4 (ty := 23) (off := 4) (n := 1) rfl (by kernel_rfl))
    obtain rfl : c4 = .slice pf.a pf.n pf.c := by simpa using ef
    obtain ⟨pv, lv, ev, rv⟩ := rd_bytes Tryz.underlying23 Tryz.underlying5 (by kernel_rfl) (rd_field Tryz.underlying31 h 5 (ty := 23) (off := 5) (n := 1) rfl (by kernel_rfl))
    obtain rfl : c5 = .slice pv.a pv.n pv.c := by simpa using ev
    obtain ⟨prim, rfl, rprim⟩ := rd_u8 Tryz.underlying5 (rd_field Tryz.underlying31 h 6 (ty := 5) (off := 6) (n := 1) rfl (by kernel_rfl))
    obtain ⟨image, rfl, rimage⟩ := rd_i16 Tryz.underlying28 (rd_field Tryz.underlying31 h 7 (ty := 28) (off := 7) (n := 1) rfl (by kernel_rfl))
    obtain ⟨pk, lk, ek, rk⟩ := rd_row (m := 1) Tryz.underlying29 (by kernel_rfl) (by omega) (fun cs2 hc2 h2 => rd_puts h2) (rd_field Tryz.underlying31 h 8 (ty := 29) (off := 8) (n := 1) rfl (by kernel_rfl))
    obtain rfl : c8 = .slice pk.a pk.n pk.c := by simpa using ek
    exact ⟨⟨ls, stop, far, pupil, lf, lv, prim, image, lk⟩, ps, pf, pv, pk, rfl, ⟨rs, rf, rv, rk, rstop, rfar, rpupil, rprim, rimage⟩⟩

theorem rd_good (h : Rd enc Tryz.prog w base sp held 25 cs) : ∃ x f v, cs = cellsG x f v ∧ GoodAt (fun b => b < w.heap.size) w x f v := by
  have hl : cs.length = 6 := (rd_len Tryz.underlying25 h).trans (by kernel_rfl)
  match cs, hl with
  | [c0, c1, c2, c3, c4, c5], _ =>
    obtain ⟨dbl, edbl⟩ := rd_bool Tryz.underlying4 (rd_field Tryz.underlying25 h 0 (ty := 4) (off := 0) (n := 1) rfl (by kernel_rfl))
    obtain rfl : c0 = .bool dbl := by simpa using edbl
    obtain ⟨bend, rfl, rbend⟩ := rd_i8 Tryz.underlying22 (rd_field Tryz.underlying25 h 1 (ty := 22) (off := 1) (n := 1) rfl (by kernel_rfl))
    obtain ⟨size, rfl, rsize⟩ := rd_u8 Tryz.underlying5 (rd_field Tryz.underlying25 h 2 (ty := 5) (off := 2) (n := 1) rfl (by kernel_rfl))
    obtain ⟨stop, rfl, rstop⟩ := rd_u8 Tryz.underlying5 (rd_field Tryz.underlying25 h 3 (ty := 5) (off := 3) (n := 1) rfl (by kernel_rfl))
    obtain ⟨pf, lf, ef, rf⟩ := rd_bytes Tryz.underlying23 Tryz.underlying5 (by kernel_rfl) (rd_field Tryz.underlying25 h 4 (ty := 23) (off := 4) (n := 1) rfl (by kernel_rfl))
    obtain rfl : c4 = .slice pf.a pf.n pf.c := by simpa using ef
    obtain ⟨pv, lv, ev, rv⟩ := rd_bytes Tryz.underlying23 Tryz.underlying5 (by kernel_rfl) (rd_field Tryz.underlying25 h 5 (ty := 23) (off := 5) (n := 1) rfl (by kernel_rfl))
    obtain rfl : c5 = .slice pv.a pv.n pv.c := by simpa using ev
    exact ⟨⟨dbl, bend, size, stop, lf, lv⟩, pf, pv, rfl, ⟨rf, rv, rbend, rsize, rstop⟩⟩

theorem rd_39 (h : Rd enc Tryz.prog w base sp held 34 cs) : ∃ x p, cs = cells39 x p ∧ Dr39At (fun b => b < w.heap.size) w x p := by
  have hl : cs.length = 17 := (rd_len Tryz.underlying34 h).trans (by kernel_rfl)
  match cs, hl with
  | [c0, c1, c2, c3, c4, c5, c6, c7, c8, c9, c10, c11, c12, c13, c14, c15, c16], _ =>
    have sG := rd_good (cs := [c0, c1, c2, c3, c4, c5]) (rd_field Tryz.underlying34 h 0 (ty := 25) (off := 0) (n := 6) rfl (by kernel_rfl))
    have sL := rd_drl (cs := [c6, c7, c8, c9, c10, c11, c12, c13, c14]) (rd_field Tryz.underlying34 h 1 (ty := 31) (off := 6) (n := 9) rfl (by kernel_rfl))
    obtain ⟨odd, eodd⟩ := rd_bool Tryz.underlying4 (rd_field Tryz.underlying34 h 2 (ty := 4) (off := 15) (n := 1) rfl (by kernel_rfl))
    obtain rfl : c15 = .bool odd := by simpa using eodd
    obtain ⟨pl, ll, el, rl⟩ := rd_row (m := 3) Tryz.underlying32 (by kernel_rfl) (by omega) (fun cs2 hc2 h2 => rd_off h2) (rd_field Tryz.underlying34 h 3 (ty := 32) (off := 16) (n := 1) rfl (by kernel_rfl))
    obtain rfl : c16 = .slice pl.a pl.n pl.c := by simpa using el
    obtain ⟨xg, gf, gv, eg, rg⟩ := sG
    obtain ⟨xl, s, f, v, k, el, rl'⟩ := sL
    refine ⟨⟨xg, xl, odd, ll⟩, ⟨gf, gv, s, f, v, k, pl⟩, ?_, ⟨rg, rl', rl⟩⟩
    show [c0, c1, c2, c3, c4, c5] ++ [c6, c7, c8, c9, c10, c11, c12, c13, c14] ++ [.bool odd, .slice pl.a pl.n pl.c] = _
    rw [eg, el]; rfl

theorem rd_bend (h : Rd enc Tryz.prog w base sp held 36 cs) : ∃ a b n : Int, cs = [.int .u8 a, .int .u8 b, .int .i64 n] ∧ u8In a ∧ u8In b := by
  have hl : cs.length = 3 := (rd_len Tryz.underlying36 h).trans (by kernel_rfl)
  match cs, hl with
  | [c0, c1, c2], _ =>
    obtain ⟨a, rfl, ra⟩ := rd_u8 Tryz.underlying5 (rd_field Tryz.underlying36 h 0 (ty := 5) (off := 0) (n := 1) rfl (by kernel_rfl))
    obtain ⟨b, rfl, rb⟩ := rd_u8 Tryz.underlying5 (rd_field Tryz.underlying36 h 1 (ty := 5) (off := 1) (n := 1) rfl (by kernel_rfl))
    obtain ⟨n, e, _⟩ := rd_int Tryz.underlying3 (rd_field Tryz.underlying36 h 2 (ty := 3) (off := 2) (n := 1) rfl (by kernel_rfl))
    obtain rfl : c2 = .int .i64 n := by simpa using e
    exact ⟨a, b, n, rfl, ra, rb⟩

end Go.Proofs.YthommhfppeonpaaGreatDoor

namespace Go.Proofs.YthommhfppeonpaaGreatDoor
open Go.ChangeShapes Go.WideShapes Go.ChangeAt Go.RowKit Go.WideElems Go.Maps

theorem gPlaces : Tryz.prog.globalNamed "monocle/surface.places" = some 0 := by kernel_rfl
theorem tPlaces : (Tryz.prog.globals[0]?).map (·.type) = some 196 := by kernel_rfl
abbrev laid1 : List (String × DataW Unit) := [("monocle/surface.places", Rows.laid_monocle_surface_places)]

theorem val_slice {P : Program} {e : TypeId} {v : Value} {a : Option Addr} {n c : Nat} {d : TypeId} (he : P.underlying e = some (.slice d)) (hf : v.formed P e = true) (hc : v.cells.toList = [.slice a n c]) : v = .slice a n c := by
  cases v <;> simp_all [Value.formed, Value.cells]

theorem isKeyI {P : Program} {k : TypeId} (hk : P.underlying k = some (.int .i64)) {v : Value} {l : Lit} (h : keyOf P k v = some l) : MapKept.IsKey (.int .i64) v := by
  rw [keyOf_int hk] at h
  obtain ⟨d, hd, h1, _⟩ := mapKey_isKey h
  rw [hk] at hd
  cases hd
  exact h1

theorem lits_inj {H : Type} : ∀ {xs ys : List Int}, (lits (H := H) .i64 xs) = lits .i64 ys → xs = ys
  | [], [], _ => rfl
  | [], _ :: _, h => by cases h
  | _ :: _, [], h => by cases h
  | x :: xs, y :: ys, h => by
    unfold lits at h
    simp only [List.map_cons, List.cons.injEq, DataW.lit.injEq, Lit.int.injEq, true_and] at h
    obtain ⟨rfl, h2⟩ := h
    have := lits_inj (H := H) (xs := xs) (ys := ys) h2
    rw [this]

theorem okv_inj {a b : Value} {w w' : World} (h : (Result.ok a w : Result Value) = .ok b w') : a = b := by cases h; rfl

set_option maxRecDepth 100000 in
theorem places_of_laid {W : World} (h : laidMetH Tryz.prog laid1 W) : Places W.heap.size W := by
  rw [MakeChecks.laidMetH_plain _ _ _ (by kernel_rfl)] at h
  obtain ⟨ps, ⟨g0, t0, cs0, f0, p0, q0, hg0, ht0, hv0, hd0, _, _⟩, _, _⟩ := h
  obtain rfl := Option.some.inj (gPlaces.symm.trans hg0)
  obtain rfl := Option.some.inj (tPlaces.symm.trans ht0)
  have zero : (zeroValue 108).run Tryz.prog W = .ok (.slice none 0 0) W := by kernel_rfl
  rcases WideElems.open_map Tryz.underlying196 hd0 with ⟨_, hx⟩ | ⟨bm, es, clock, m, _, hcs, hb, _, F, hx⟩
  · cases hx
  simp only [Prod.mk.injEq] at hx
  have hcell : W.cell? ⟨0, 0, none⟩ = some (.map (some bm)) := by
    have := World.var?_cell hg0 hv0 0
    rw [Array.eq_one_of_toList hcs] at this
    simpa using this
  have h0l := (cell_spot hcell).2
  refine ⟨bm, hcell, Nat.lt_of_le_of_lt (Nat.zero_le _) h0l, lt_of_block hb, es, clock, hb, ?_⟩
  have each : ∀ k : Int, (Lit.int .i64 k).wf = true → ∀ zs : List Int, (Rows.laid_monocle_surface_places (H := Unit)).atKey (.int .i64 k) .nil = .slice (lits .i64 zs) [] → ∃ i a n c, Instr.findNow (.int .i64) (.int .i64 k) es.toList 0 = some (some (i, .slice a n c)) ∧ IR W.heap.size W 1 a n c zs := by
    intro k hwf zs hat0
    have hkey := keyOf_int_mk (P := Tryz.prog) Tryz.underlying3 hwf
    rcases fit_look (w := W) false (int_keyed Tryz.underlying3) Tryz.underlying196 zero hb F hkey with ⟨_, _, hat⟩ | ⟨e0, y, hmem, hk0, hrun, hR, hat, _⟩
    · have := hat .nil
      rw [← hx.1, hat0] at this
      cases this
    · have hy := hat .nil
      rw [← hx.1, hat0] at hy
      rcases MapKept.findNow_spec (isKeyI Tryz.underlying3 hkey) es.toList 0 (fun x hx => by
        obtain ⟨l, hl⟩ := F.keys x hx
        exact isKeyI Tryz.underlying3 hl) with ⟨_, hno⟩ | ⟨j, e1, hf, _, hk1⟩
      · exact absurd hk0 (hno e0 hmem)
      · have hrun1 := run_lookup_any Tryz.underlying196 Tryz.underlying3 hb hf
        have hv : e1.val = e0.val := by
          have := hrun1.symm.trans hrun
          simp only [Bool.false_eq_true, if_false] at this
          exact okv_inj this
        unfold elemAt at hR
        split at hR
        · rename_i hform
          rcases open_ints Tryz.underlying108 Tryz.underlying3 (by kernel_rfl) hR with ⟨_, rfl⟩ | ⟨a, len, cap, xs, hcs1, _, hlc, _, hxl, rfl, hcell1, _⟩
          · cases hy
          · have hv0' := val_slice Tryz.underlying108 hform hcs1
            simp only [DataW.slice.injEq] at hy
            have h1 := lits_inj hy.1
            have h2 : xs.drop len = [] := by
              have := hy.2
              unfold lits at this
              exact List.map_eq_nil_iff.1 this.symm
            have hxs : xs = zs := by
              have := List.take_append_drop len xs
              rw [h2, List.append_nil] at this
              exact this.symm.trans h1.symm
            subst hxs
            have hlen : xs.length = len := by
              have ha : xs.length ≤ len := by
                rw [List.drop_eq_nil_iff] at h2; exact h2
              have hb' : len ≤ xs.length := by rw [hxl]; split <;> omega
              omega
            refine ⟨0 + j, some a, len, cap, by rw [hf, hv, hv0'], by rw [hlen, Nat.mul_one], hlc, fun hpos => ?_⟩
            have h00 := hcell1 0 (by omega)
            have ha0 : a.add 0 = a := by simp [Addr.add]
            rw [ha0] at h00
            obtain ⟨ea, hlt⟩ := cell_spot h00
            refine ⟨a.block, a.off, by rw [← ea], hlt, fun j hj => ?_⟩
            have := hcell1 j (by omega)
            rw [ea, Addr.add_lit] at this
            exact this
        · cases hR
  intro k h1 h4
  have hk : k = 1 ∨ k = 2 ∨ k = 3 ∨ k = 4 := by omega
  rcases hk with rfl | rfl | rfl | rfl
  · exact each 1 rfl [1, 2, 5, 6, 7, 8, 10] rfl
  · exact each 2 rfl [1, 2, 3, 4, 10] rfl
  · exact each 3 rfl [11, 12, 13, 14, 15] rfl
  · exact each 4 rfl [1, 10] rfl

end Go.Proofs.YthommhfppeonpaaGreatDoor

namespace Go.Proofs.YthommhfppeonpaaGreatDoor
open Go.RowKit

/-! ### one surface -/
theorem get_put_same {s : Surf} {p v : Int} (h1 : 1 ≤ p) (h2 : p ≤ 17) : (s.put p v).get p = v := by
  rcases ways17 h1 h2 with rfl | rfl | rfl | rfl | rfl | rfl | rfl | rfl | rfl | rfl | rfl | rfl | rfl | rfl | rfl | rfl | rfl <;> rfl
theorem get_put_other {s : Surf} {p q v : Int} (h1 : 1 ≤ p) (h2 : p ≤ 17) (hq : ¬ q = p) : (s.put p v).get q = s.get q := by
  rcases ways17 h1 h2 with rfl | rfl | rfl | rfl | rfl | rfl | rfl | rfl | rfl | rfl | rfl | rfl | rfl | rfl | rfl | rfl | rfl <;>
  · unfold Surf.get
    simp only [if_neg hq]
    rfl
theorem get_put {s : Surf} {p q v : Int} (h1 : 1 ≤ p) (h2 : p ≤ 17) : (s.put p v).get q = if q = p then v else s.get q := by
  by_cases hq : q = p
  · subst hq; rw [if_pos rfl, get_put_same h1 h2]
  · rw [if_neg hq, get_put_other h1 h2 hq]

/-- what no parameter names -/
def sameB (s s' : Surf) : Prop := s.kind = s'.kind ∧ s.order = s'.order ∧ s.glass = s'.glass ∧ s.hole = s'.hole
theorem put_sameB {s : Surf} {p v : Int} (h1 : 1 ≤ p) (h2 : p ≤ 17) : sameB s (s.put p v) := by
  rcases ways17 h1 h2 with rfl | rfl | rfl | rfl | rfl | rfl | rfl | rfl | rfl | rfl | rfl | rfl | rfl | rfl | rfl | rfl | rfl <;>
  exact ⟨rfl, rfl, rfl, rfl⟩
theorem surf_extP {s s' : Surf} (hb : sameB s s') (hg : ∀ p, 1 ≤ p → p ≤ 17 → s.get p = s'.get p) : s = s' := by
  obtain ⟨k, c, cn, cx, cnx, a0, a1, a2, a3, p0, p1, o, t, gl, se, ho, dx, dy, ax, ay, az⟩ := s
  obtain ⟨k', c', cn', cx', cnx', a0', a1', a2', a3', p0', p1', o', t', gl', se', ho', dx', dy', ax', ay', az'⟩ := s'
  obtain ⟨rfl, rfl, rfl, rfl⟩ := hb
  have e1 : c = c' := hg 1 (by omega) (by omega)
  have e2 : cn = cn' := hg 2 (by omega) (by omega)
  have e3 : cx = cx' := hg 3 (by omega) (by omega)
  have e4 : cnx = cnx' := hg 4 (by omega) (by omega)
  have e5 : a0 = a0' := hg 5 (by omega) (by omega)
  have e6 : a1 = a1' := hg 6 (by omega) (by omega)
  have e7 : a2 = a2' := hg 7 (by omega) (by omega)
  have e8 : a3 = a3' := hg 8 (by omega) (by omega)
  have e9 : t = t' := hg 9 (by omega) (by omega)
  have e10 : se = se' := hg 10 (by omega) (by omega)
  have e11 : dx = dx' := hg 11 (by omega) (by omega)
  have e12 : dy = dy' := hg 12 (by omega) (by omega)
  have e13 : ax = ax' := hg 13 (by omega) (by omega)
  have e14 : ay = ay' := hg 14 (by omega) (by omega)
  have e15 : az = az' := hg 15 (by omega) (by omega)
  have e16 : p0 = p0' := hg 16 (by omega) (by omega)
  have e17 : p1 = p1' := hg 17 (by omega) (by omega)
  subst e1 e2 e3 e4 e5 e6 e7 e8 e9 e10 e11 e12 e13 e14 e15 e16 e17
  rfl
theorem ok_get {s : Surf} {zs : List Int} {n : Nat} (hz : zs.length = n * 3) (h : okS s zs n = true) {p : Int} (h1 : 1 ≤ p) (h2 : p ≤ 17) : -1000000000 ≤ s.get p ∧ s.get p ≤ 1000000000 := by
  rw [← right_eq s zs n hz] at h
  unfold rightB smallB' smallC smallA outB at h
  simp at h
  rcases ways17 h1 h2 with rfl | rfl | rfl | rfl | rfl | rfl | rfl | rfl | rfl | rfl | rfl | rfl | rfl | rfl | rfl | rfl | rfl <;>
  · simp [Surf.get]; omega
theorem sameB_hasB {s s' : Surf} (h : sameB s s') (p : Int) : hasB s p = hasB s' p := by
  unfold hasB; rw [h.1, h.2.1]

/-! ### lists of surfaces -/
structure SimL (l l' : List SurfC) : Prop where
  len : l.length = l'.length
  each : ∀ (k : Nat) (y y' : SurfC), l[k]? = some y → l'[k]? = some y' → y.zs = y'.zs ∧ sameB y.s y'.s
theorem SimL.refl (l : List SurfC) : SimL l l := ⟨rfl, fun k y y' h h' => by rw [h] at h'; cases h'; exact ⟨rfl, rfl, rfl, rfl, rfl⟩⟩
theorem SimL.trans {a b c : List SurfC} (h1 : SimL a b) (h2 : SimL b c) : SimL a c := by
  refine ⟨h1.len.trans h2.len, fun k y y' hy hy' => ?_⟩
  have hk : k < b.length := by
    have := (List.getElem?_eq_some_iff.1 hy).1
    have := h1.len; omega
  obtain ⟨e1, b1⟩ := h1.each k y b[k] hy (List.getElem?_eq_getElem hk)
  obtain ⟨e2, b2⟩ := h2.each k b[k] y' (List.getElem?_eq_getElem hk) hy'
  exact ⟨e1.trans e2, b1.1.trans b2.1, b1.2.1.trans b2.2.1, b1.2.2.1.trans b2.2.2.1, b1.2.2.2.trans b2.2.2.2⟩
theorem list_ext {l l' : List SurfC} (h : SimL l l') (hg : ∀ (j q : Int), 0 ≤ j → j < l.length → 1 ≤ q → q ≤ 17 → getAt l j q = getAt l' j q) : l = l' := by
  refine List.ext_getElem h.len fun k hk hk' => ?_
  have hy := List.getElem?_eq_getElem hk
  have hy' := List.getElem?_eq_getElem hk'
  obtain ⟨ez, eb⟩ := h.each k _ _ hy hy'
  have es : l[k].s = l'[k].s := surf_extP eb fun p h1 h2 => by
    have := hg k p (by omega) (by omega) h1 h2
    unfold getAt at this
    rw [Int.toNat_natCast, hy, hy'] at this
    exact this
  cases hx : l[k]; cases hx' : l'[k]
  rw [hx, hx'] at ez es
  simp only at ez es
  rw [ez, es]

theorem putB_at {l : List SurfC} {i p v : Int} (h : putB l i p v = true) : ∃ (k : Nat) (y : SurfC), i = (k : Int) ∧ l[k]? = some y ∧ 1 ≤ p ∧ p ≤ 17 ∧ putL l i p v = l.set k ⟨y.s.put p v, y.zs⟩ ∧ lhasB l i p = true := by
  have h0 := h
  unfold putB at h0
  rw [Bool.and_eq_true] at h0
  obtain ⟨k, y, rfl, hk, hy, _, hb⟩ := lhasB_at h0.1
  have hr := hasB_range hb
  refine ⟨k, y, rfl, hy, hr.1, hr.2, ?_, h0.1⟩
  unfold putL
  rw [Int.toNat_natCast, hy]
  show (if putB l k p v = true then _ else _) = _
  rw [if_pos h]
theorem putL_sim {l : List SurfC} {i p v : Int} (h : putB l i p v = true) : SimL l (putL l i p v) := by
  obtain ⟨k, y, rfl, hy, h1, h2, e, _⟩ := putB_at h
  rw [e]
  refine ⟨by simp, fun m z z' hz hz' => ?_⟩
  rw [List.getElem?_set] at hz'
  split at hz'
  · rename_i hkm
    subst hkm
    split at hz'
    · rw [hy] at hz; cases hz; cases hz'
      exact ⟨rfl, put_sameB h1 h2⟩
    · cases hz'
  · rw [hz] at hz'; cases hz'
    exact ⟨rfl, rfl, rfl, rfl, rfl⟩
theorem putL_get {l : List SurfC} {i p v : Int} (h : putB l i p v = true) {j q : Int} (hj0 : 0 ≤ j) (hj : j < l.length) : getAt (putL l i p v) j q = if j = i ∧ q = p then v else getAt l j q := by
  obtain ⟨k, y, rfl, hy, h1, h2, e, _⟩ := putB_at h
  rw [e]
  obtain ⟨m, rfl⟩ : ∃ m : Nat, j = (m : Int) := ⟨j.toNat, by omega⟩
  unfold getAt
  rw [Int.toNat_natCast, List.getElem?_set]
  by_cases hkm : k = m
  · subst hkm
    rw [if_pos rfl, if_pos (by omega), hy]
    show (y.s.put p v).get q = _
    rw [get_put h1 h2]
    by_cases hq : q = p
    · rw [if_pos hq, if_pos ⟨rfl, hq⟩]
    · rw [if_neg hq, if_neg (fun hh => hq hh.2)]
  · rw [if_neg hkm, if_neg (fun hh => hkm (by have := hh.1; omega))]

/-! ### lenses -/
/-- as the lens x, but for its surfaces, which are alike -/
structure SimX (x z : LensD) : Prop where
  eq : z = { x with l := z.l }
  l : SimL x.l z.l
theorem lset_ok {z : LensD} {i p v : Int} (h : lsetE z i p v = 0) : validB z = true ∧ putB z.l i p v = true ∧ validB (lsetX z i p v) = true := by
  unfold lsetE at h
  split at h
  · split at h
    · rename_i h1 h2; exact ⟨h1, h2.1, h2.2⟩
    · cases h
  · cases h
theorem SimX.set {x z : LensD} (h : SimX x z) {i p v : Int} (hs : lsetE z i p v = 0) : SimX x (lsetX z i p v) := by
  obtain ⟨_, hp, _⟩ := lset_ok hs
  refine ⟨?_, h.l.trans (putL_sim hp)⟩
  have := h.eq
  unfold lsetX
  rw [this]

/-- the first k spreads have been set back -/
structure Win (x : LensD) (ss : List Int) (st : Int) (n k : Nat) (z : LensD) : Prop where
  sim : SimX x z
  ok : validB z = true
  at' : ∀ m, k ≤ m → m < n → getAt z.l (ss.getD (m * 4) 0) (ss.getD (m * 4 + 1) 0) = IntKind.i64.wrap (getAt x.l (ss.getD (m * 4) 0) (ss.getD (m * 4 + 1) 0) + offAt ss st m)
  other : ∀ (j q : Int), 0 ≤ j → j < x.l.length → 1 ≤ q → q ≤ 17 → (∀ m, k ≤ m → m < n → ¬ (ss.getD (m * 4) 0 = j ∧ ss.getD (m * 4 + 1) 0 = q)) → getAt z.l j q = getAt x.l j q

/-- the spreads name different parameters, which the lens has -/
structure Keys (x : LensD) (ss : List Int) (n : Nat) : Prop where
  diff : ∀ i j, i < n → j < n → i ≠ j → ¬ (ss.getD (i * 4) 0 = ss.getD (j * 4) 0 ∧ ss.getD (i * 4 + 1) 0 = ss.getD (j * 4 + 1) 0)
  has : ∀ i, i < n → lhasB x.l (ss.getD (i * 4) 0) (ss.getD (i * 4 + 1) 0) = true

theorem Keys.in' {x : LensD} {ss : List Int} {n : Nat} (h : Keys x ss n) {i : Nat} (hi : i < n) : 0 ≤ ss.getD (i * 4) 0 ∧ ss.getD (i * 4) 0 < x.l.length ∧ 1 ≤ ss.getD (i * 4 + 1) 0 ∧ ss.getD (i * 4 + 1) 0 ≤ 17 := by
  obtain ⟨k, y, e, hk, _, _, hb⟩ := lhasB_at (h.has i hi)
  have := hasB_range hb
  omega

/-- behind the sample: none has been set back -/
theorem win_start {x : LensD} {ss : List Int} {st : Int} {n : Nat} (hx : validB x = true) (hK : Keys x ss n) : ∀ (k : Nat) (y : LensD), k ≤ n → smpN x ss st k = .ok y →
    SimX x y ∧ validB y = true ∧ (∀ m, m < k → getAt y.l (ss.getD (m * 4) 0) (ss.getD (m * 4 + 1) 0) = IntKind.i64.wrap (getAt x.l (ss.getD (m * 4) 0) (ss.getD (m * 4 + 1) 0) + offAt ss st m)) ∧
      ∀ (j q : Int), 0 ≤ j → j < x.l.length → (∀ m, m < k → ¬ (ss.getD (m * 4) 0 = j ∧ ss.getD (m * 4 + 1) 0 = q)) → getAt y.l j q = getAt x.l j q
  | 0, y, _, h => by
    cases h
    exact ⟨⟨rfl, SimL.refl _⟩, hx, fun m hm => absurd hm (by omega), fun _ _ _ _ _ => rfl⟩
  | k + 1, y, hk, h => by
    rw [smpN] at h
    cases hp : smpN x ss st k with
    | error e => rw [hp] at h; cases h
    | ok u =>
      rw [hp] at h
      simp only at h
      split at h
      · rename_i h0
        cases h
        obtain ⟨s1, _, a1, o1⟩ := win_start hx hK k u (by omega) hp
        obtain ⟨_, hpb, hv⟩ := lset_ok h0
        have hlen := s1.l.len
        refine ⟨s1.set h0, hv, fun m hm => ?_, fun j q hj0 hj hno => ?_⟩
        · obtain ⟨i0, i1, _, _⟩ := hK.in' (i := m) (by omega)
          show getAt (putL u.l _ _ _) _ _ = _
          rw [putL_get hpb i0 (by omega)]
          by_cases e : m = k
          · subst e; rw [if_pos ⟨rfl, rfl⟩]
          · rw [if_neg (hK.diff m k (by omega) (by omega) e)]
            exact a1 m (by omega)
        · show getAt (putL u.l _ _ _) _ _ = _
          rw [putL_get hpb hj0 (by omega), if_neg (fun hh => hno k (by omega) ⟨hh.1.symm, hh.2.symm⟩)]
          exact o1 j q hj0 hj (fun m hm => hno m (by omega))
      · cases h
theorem win_0 {x : LensD} {ss : List Int} {st : Int} {n : Nat} {y : LensD} (hx : validB x = true) (hK : Keys x ss n) (h : smpN x ss st n = .ok y) : Win x ss st n 0 y := by
  obtain ⟨s, v, a, o⟩ := win_start hx hK n y (Nat.le_refl _) h
  exact ⟨s, v, fun m _ hm => a m hm, fun j q hj0 hj _ _ hno => o j q hj0 hj (fun m hm => hno m (by omega) hm)⟩
theorem Win.next {x : LensD} {ss : List Int} {st : Int} {n k : Nat} {z : LensD} (h : Win x ss st n k z) (hK : Keys x ss n) (hk : k < n) (hs : lsetE z (ss.getD (k * 4) 0) (ss.getD (k * 4 + 1) 0) (getAt x.l (ss.getD (k * 4) 0) (ss.getD (k * 4 + 1) 0)) = 0) :
    Win x ss st n (k + 1) (lsetX z (ss.getD (k * 4) 0) (ss.getD (k * 4 + 1) 0) (getAt x.l (ss.getD (k * 4) 0) (ss.getD (k * 4 + 1) 0))) := by
  obtain ⟨_, hpb, hv⟩ := lset_ok hs
  have hlen := h.sim.l.len
  refine ⟨h.sim.set hs, hv, fun m hm hmn => ?_, fun j q hj0 hj h1 h2 hno => ?_⟩
  · obtain ⟨i0, i1, _, _⟩ := hK.in' hmn
    show getAt (putL z.l _ _ _) _ _ = _
    rw [putL_get hpb i0 (by omega), if_neg (hK.diff m k hmn hk (by omega))]
    exact h.at' m (by omega) hmn
  · show getAt (putL z.l _ _ _) _ _ = _
    rw [putL_get hpb hj0 (by omega)]
    by_cases e : j = ss.getD (k * 4) 0 ∧ q = ss.getD (k * 4 + 1) 0
    · rw [if_pos e, e.1, e.2]
    · rw [if_neg e]
      refine h.other j q hj0 hj h1 h2 fun m hm hmn hh => ?_
      by_cases em : m = k
      · subst em; exact e ⟨hh.1.symm, hh.2.symm⟩
      · exact hno m (by omega) hmn hh
theorem Win.fin {x : LensD} {ss : List Int} {st : Int} {n : Nat} {z : LensD} (h : Win x ss st n n z) : z = x := by
  have hl : x.l = z.l := list_ext h.sim.l fun j q hj0 hj h1 h2 => (h.other j q hj0 hj h1 h2 fun m hm hmn => absurd hm (by omega)).symm
  rw [h.sim.eq, ← hl]

theorem bad_ok {l : List SurfC} (h : badB l = false) {k : Nat} {y : SurfC} (hy : l[k]? = some y) : okC y = true := by
  have := List.any_eq_false.1 h y (List.mem_of_getElem? hy)
  simpa using this
theorem lhasB_sim {l l' : List SurfC} (hs : SimL l l') (hok : badB l' = false) {i p : Int} (h : lhasB l i p = true) : lhasB l' i p = true := by
  obtain ⟨k, y, rfl, hk, hy, _, hb⟩ := lhasB_at h
  have hk' : k < l'.length := by have := hs.len; omega
  have hy' := List.getElem?_eq_getElem hk'
  obtain ⟨_, eb⟩ := hs.each k y _ hy hy'
  have hoc := bad_ok hok hy'
  unfold lhasB at h ⊢
  rw [Bool.and_eq_true, Bool.and_eq_true] at h ⊢
  rw [← hs.len]
  refine ⟨⟨h.1.1, ?_⟩, h.2⟩
  unfold hasX
  rw [Int.toNat_natCast, hy']
  show hasC _ _ _ _ = true
  unfold hasC
  unfold okC at hoc
  rw [hoc, ← sameB_hasB eb, hb]; rfl

/-- what is read on the way -/
theorem Win.reads {x : LensD} {ss : List Int} {st : Int} {n k : Nat} {z : LensD} (h : Win x ss st n k z) (hx : validB x = true) (hZ : ∀ (k : Nat) (y : SurfC), x.l[k]? = some y → y.zs.length = y.zs.length / 3 * 3) (hK : Keys x ss n) (hin : SprIn ss n) (hk : k < n) :
    lgetE x (ss.getD (k * 4) 0) (ss.getD (k * 4 + 1) 0) = 0 ∧ lgetE z (ss.getD (k * 4) 0) (ss.getD (k * 4 + 1) 0) = 0 ∧
      (-1000000000 ≤ getAt x.l (ss.getD (k * 4) 0) (ss.getD (k * 4 + 1) 0) ∧ getAt x.l (ss.getD (k * 4) 0) (ss.getD (k * 4 + 1) 0) ≤ 1000000000) ∧
      ∃ o, getAt z.l (ss.getD (k * 4) 0) (ss.getD (k * 4 + 1) 0) = getAt x.l (ss.getD (k * 4) 0) (ss.getD (k * 4 + 1) 0) + o ∧ ss.getD (k * 4 + 2) 0 ≤ o ∧ o ≤ ss.getD (k * 4 + 3) 0 ∧ -1000000 ≤ o ∧ o ≤ 1000000 := by
  have hh := hK.has k hk
  obtain ⟨m, y, e, hm, hy, hok, hb⟩ := lhasB_at hh
  have hr := hasB_range hb
  have hg : getAt x.l (ss.getD (k * 4) 0) (ss.getD (k * 4 + 1) 0) = y.s.get (ss.getD (k * 4 + 1) 0) := by
    unfold getAt; rw [e, Int.toNat_natCast, hy]
  have hbd : -1000000000 ≤ y.s.get (ss.getD (k * 4 + 1) 0) ∧ y.s.get (ss.getD (k * 4 + 1) 0) ≤ 1000000000 := by
    exact ok_get (hZ m y hy) hok hr.1 hr.2
  refine ⟨by unfold lgetE; rw [if_pos hx, if_pos hh], ?_, by rw [hg]; exact hbd, offAt ss st k, ?_, ?_⟩
  · unfold lgetE
    obtain ⟨_, _, _, _, hs, _⟩ := valid_parts h.ok
    have hbad : badB z.l = false := by
      unfold surfacesB at hs
      simp only [Bool.and_eq_true] at hs
      simpa using hs.1.1.2
    rw [if_pos h.ok, if_pos (lhasB_sim h.sim.l hbad hh)]
  · rw [h.at' k (Nat.le_refl _) hk, hg]
    have h3 := hin k hk
    have hp := pickS_range (stN st k) (ss.getD (k * 4 + 3) 0 - ss.getD (k * 4 + 2) 0 + 1) (by omega)
    have : offAt ss st k = ss.getD (k * 4 + 2) 0 + pickS (nextS (stN st k)) (ss.getD (k * 4 + 3) 0 - ss.getD (k * 4 + 2) 0 + 1) := rfl
    exact IntWalk.i64_in _ (by omega)
  · have h3 := hin k hk
    have hp := pickS_range (stN st k) (ss.getD (k * 4 + 3) 0 - ss.getD (k * 4 + 2) 0 + 1) (by omega)
    have : offAt ss st k = ss.getD (k * 4 + 2) 0 + pickS (nextS (stN st k)) (ss.getD (k * 4 + 3) 0 - ss.getD (k * 4 + 2) 0 + 1) := rfl
    omega

end Go.Proofs.YthommhfppeonpaaGreatDoor
