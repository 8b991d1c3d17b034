/-
  DERIVED. What values read as in a world: slices of ints, blocks that the call itself made; how such facts are carried.
-/
import Derived.Test.YtkfkdkoohnfgaaaRows
import Derived.Test.YtkfkdkoohnfgaaaNum
import Derived.Test.YtkfkdkoohnfgaaaRegion
import Derived.WalkKit
import Derived.WalkSpells
import Derived.WalkLawsBesides
import Derived.BigQuiet
import Derived.Lib.Hide
import Derived.OwnWalk
import Derived.OneCell
import Derived.Laws.CopyOwn
import Derived.Laws.AppendOwnNone
import Derived.Deep.QuietTactic
import Derived.Deep.RegionWith
namespace Go.Proofs.Ytkfkdkoohnfgaaa
open Go.RowKit

/-- the slot (a, n, c) reads as the ints zs; its block is below N -/
def SL (N : Nat) (w : World) (a : Option Addr) (n c : Nat) (zs : List Int) : Prop :=
  n = zs.length ∧ n ≤ c ∧ (0 < n → ∃ b off, a = some ⟨b, off, none⟩ ∧ b < N ∧ ∀ j, j < n → w.cell? ⟨b, off + j, none⟩ = some (.int .i64 (zs.getD j 0)))

theorem SL.len {N w a n c zs} (h : SL N w a n c zs) : n = zs.length := h.1
theorem SL.at {N w a n c zs} (h : SL N w a n c zs) (hn : 0 < n) : ∃ b off, a = some ⟨b, off, none⟩ ∧ b < N ∧ ∀ j, j < n → w.cell? ⟨b, off + j, none⟩ = some (.int .i64 (zs.getD j 0)) := h.2.2 hn
theorem SL.cap {N w a n c zs} (h : SL N w a n c zs) : n ≤ c := h.2.1
theorem SL.below {N M w w' a n c zs} (h : SL N w a n c zs) (hb : Below M w w') (hN : N ≤ M) : SL N w' a n c zs :=
  ⟨h.1, h.2.1, fun hn => let ⟨b, off, e, hlt, hc⟩ := h.2.2 hn; ⟨b, off, e, hlt, fun j hj => (hb.cell (p := ⟨b, off + j, none⟩) (Nat.lt_of_lt_of_le hlt hN)).trans (hc j hj)⟩⟩
theorem SL.mono {N M w a n c zs} (h : SL N w a n c zs) (hN : N ≤ M) : SL M w a n c zs :=
  ⟨h.1, h.2.1, fun hn => let ⟨b, off, e, hlt, hc⟩ := h.2.2 hn; ⟨b, off, e, Nat.lt_of_lt_of_le hlt hN, hc⟩⟩
/-- carried to the world behind a call -/
theorem SL.on {N w w' a n c zs} (h : SL N w a n c zs) (hb : Below N w w') : SL w'.heap.size w' a n c zs ∨ N > w'.heap.size := by
  by_cases hN : N ≤ w'.heap.size
  · exact Or.inl ((h.below hb (Nat.le_refl _)).mono hN)
  · exact Or.inr (by omega)
theorem SL.go {w w' a n c zs} (h : SL w.heap.size w a n c zs) (hb : Below w.heap.size w w') : SL w'.heap.size w' a n c zs :=
  (h.below hb (Nat.le_refl _)).mono hb.size
theorem SL.nil (N : Nat) (w : World) (a : Option Addr) (c : Nat) : SL N w a 0 c [] := ⟨rfl, Nat.zero_le _, fun h => absurd h (by omega)⟩
theorem SL.pre {N w a n c zs} (h : SL N w a n c zs) {k : Nat} (hk : k ≤ n) : SL N w a k c (zs.take k) :=
  ⟨by rw [List.length_take, ← h.1, Nat.min_eq_left hk], Nat.le_trans hk h.2.1, fun hn => let ⟨b, off, e, hlt, hc⟩ := h.2.2 (by omega); ⟨b, off, e, hlt, fun j hj => by rw [getD_take hj]; exact hc j (by omega)⟩⟩

/-- a block whose first cells are these values, free to be written -/
def Cells (w : World) (g : Nat) (cs : List Value) (t : TypeId) : Prop := ∃ rest : List Value, w.heap[g]? = some (.cells (cs ++ rest).toArray t (0, 0))

theorem Cells.lt {w g cs t} (h : Cells w g cs t) : g < w.heap.size := let ⟨_, h⟩ := h; lt_of_block h
theorem Cells.cell {w g cs t} (h : Cells w g cs t) {j : Nat} (hj : j < cs.length) : w.cell? ⟨g, j, none⟩ = some cs[j] := by
  obtain ⟨r, h⟩ := h; simp [World.cell?, h, List.getElem?_append_left hj, List.getElem?_eq_getElem hj]
theorem Cells.free {w g cs t} (h : Cells w g cs t) (j : Nat) : w.frozen? ⟨g, j, none⟩ = false := by
  obtain ⟨r, h⟩ := h; simp [World.frozen?, h]
theorem Cells.below {w w' g cs t B} (h : Cells w g cs t) (hb : Below B w w') (hg : g < B) : Cells w' g cs t := let ⟨r, h⟩ := h; ⟨r, (hb.block g hg).trans h⟩
theorem Cells.set {w g cs t} (h : Cells w g cs t) (j : Nat) (hj : j < cs.length) (v : Value) : Cells (w.setCell ⟨g, j, none⟩ v) g (cs.set j v) t := by
  have hlt := h.lt
  obtain ⟨r, h⟩ := h
  have h' : w.heap[g] = .cells (cs ++ r).toArray t (0, 0) := by simpa [Array.getElem?_eq_getElem hlt] using h
  refine ⟨r, ?_⟩
  show (w.heap.modify g _)[g]? = _
  rw [Array.getElem?_eq_getElem (by simpa using hlt), Array.getElem_modify_self, h']
  simp [hj]
theorem Cells.other {w g cs t} (h : Cells w g cs t) (p : Addr) (hp : p.block ≠ g) (v : Value) : Cells (w.setCell p v) g cs t :=
  let ⟨r, h⟩ := h; ⟨r, by rw [Below.heap_setCell _ _ _ _ (fun e => hp e.symm)]; exact h⟩
theorem Cells.drew {w g cs t} (h : Cells w g cs t) (k : Nat) : Cells (w.drewN k) g cs t := h
theorem Cells.pre {w g cs t} {ds : List Value} (h : Cells w g (cs ++ ds) t) : Cells w g cs t := let ⟨r, h⟩ := h; ⟨ds ++ r, by rw [← List.append_assoc]; exact h⟩

/-- a block whose first cells are these ints, free to be written -/
def Blk (w : World) (g : Nat) (zs : List Int) : Prop := Cells w g (zs.map (Value.int .i64)) 3

theorem Blk.lt {w g zs} (h : Blk w g zs) : g < w.heap.size := Cells.lt h
theorem Blk.cell {w g zs} (h : Blk w g zs) {j : Nat} (hj : j < zs.length) : w.cell? ⟨g, j, none⟩ = some (.int .i64 (zs.getD j 0)) := by
  have := Cells.cell h (j := j) (by simpa using hj)
  simpa [List.getD_eq_getElem?_getD, List.getElem?_eq_getElem hj] using this
theorem Blk.free {w g zs} (h : Blk w g zs) (j : Nat) : w.frozen? ⟨g, j, none⟩ = false := Cells.free h j
theorem Blk.below {w w' g zs B} (h : Blk w g zs) (hb : Below B w w') (hg : g < B) : Blk w' g zs := Cells.below h hb hg
theorem Blk.set {w g zs} (h : Blk w g zs) (j : Nat) (hj : j < zs.length) (v : Int) : Blk (w.setCell ⟨g, j, none⟩ (.int .i64 v)) g (zs.set j v) := by
  have := Cells.set h j (by simpa using hj) (.int .i64 v)
  unfold Blk; rw [List.map_set]; exact this
theorem Blk.sl {w g zs} (h : Blk w g zs) {c : Nat} (hc : zs.length ≤ c) : SL w.heap.size w (some ⟨g, 0, none⟩) zs.length c zs :=
  ⟨rfl, hc, fun _ => ⟨g, 0, rfl, h.lt, fun j hj => by rw [Nat.zero_add]; exact h.cell hj⟩⟩
theorem Blk.drew {w g zs} (h : Blk w g zs) (k : Nat) : Blk (w.drewN k) g zs := h

theorem below_drewN {B : Nat} {a w : World} (h : Below B a w) (n : Nat) : Below B a (w.drewN n) := h.trans ⟨rfl, rfl, rfl, Nat.le_refl _, fun _ _ => rfl⟩

theorem below_undrew {B : Nat} {w w' : World} {k : Nat} (h : Below B (w.drewN k) w') : Below B w w' := ⟨h.os, h.tape, h.output, h.size, h.block⟩

/-- behind a call: all old cells read as before -/
theorem bcells {w w' : World} (hb : Below w.heap.size w w') : (∀ b o, b < w.heap.size → w'.cell? ⟨b, o, none⟩ = w.cell? ⟨b, o, none⟩) ∧ (∀ b o, b < w.heap.size → w'.frozen? ⟨b, o, none⟩ = w.frozen? ⟨b, o, none⟩) :=
  ⟨fun b o h => hb.cell (p := ⟨b, o, none⟩) h, fun b o h => hb.frozen (p := ⟨b, o, none⟩) h⟩

/-- the slot lies in no block below B -/
def Fresh (B : Nat) (a : Option Addr) (n : Nat) : Prop := ∀ b off, a = some ⟨b, off, none⟩ → 0 < n → B ≤ b

theorem Fresh.ofNone (B : Nat) (n : Nat) : Fresh B none n := fun b off e => by cases e
theorem Fresh.zero (B : Nat) (a : Option Addr) : Fresh B a 0 := fun b off _ h => absurd h (by omega)
theorem Fresh.mk {B g off : Nat} (h : B ≤ g) (n : Nat) : Fresh B (some ⟨g, off, none⟩) n := fun b o e _ => by cases e; exact h
theorem Fresh.mono {B B' : Nat} {a : Option Addr} {n : Nat} (h : Fresh B a n) (hB : B' ≤ B) : Fresh B' a n := fun b off e h0 => Nat.le_trans hB (h b off e h0)

/-- a slice that lies elsewhere stays as it is where a cell is written -/
theorem SL.setCell {N : Nat} {w : World} {a : Option Addr} {n c : Nat} {zs : List Int} (h : SL N w a n c zs) (p : Addr) (u : Value) (hne : ∀ b off, a = some ⟨b, off, Option.none⟩ → 0 < n → b ≠ p.block) : SL N (w.setCell p u) a n c zs := by
  refine ⟨h.1, h.2.1, fun h0 => ?_⟩
  obtain ⟨b, off, e, hlt, hc⟩ := h.2.2 h0
  have hb := hne b off e h0
  exact ⟨b, off, e, hlt, fun j hj => by rw [World.cell?_setCell_other _ _ _ _ (fun e => hb (congrArg Addr.block e).symm)]; exact hc j hj⟩

/-- a call that gives back a slice of ints, and changes nothing that was there -/
def RetS (w : World) (zs : List Int) (e : Ending) (w' : World) : Prop :=
  ∃ a n c, e = .returned (.slice a n c) ∧ SL w'.heap.size w' a n c zs ∧ Below w.heap.size w w' ∧ Fresh w.heap.size a n

/-- a call that only reads (and draws) and gives back v -/
def RetQ (w : World) (v : Value) (e : Ending) (w' : World) : Prop := e = .returned v ∧ ∃ k, w' = w.drewN k

/-- a call that gives back v, and changes nothing that was there -/
def RetB (w : World) (v : Value) (e : Ending) (w' : World) : Prop := e = .returned v ∧ Below w.heap.size w w'

theorem Try.infoInt : (Try.prog.info? 3).map (fun i => (i.zero, i.size, i.bytes)) = some (some (.int .i64 0), 1, 8) := by kernel_rfl

theorem info_of {t : TypeId} {z : Value} {s b : Nat} (h : (Try.prog.info? t).map (fun i => (i.zero, i.size, i.bytes)) = some (some z, s, b)) :
    ∃ i, Try.prog.info? t = some i ∧ i.zero = some z ∧ i.size = s ∧ i.bytes = b := by
  cases hi : Try.prog.info? t with
  | none => rw [hi] at h; cases h
  | some i => rw [hi] at h; simp at h; exact ⟨i, rfl, h.1, h.2.1, h.2.2⟩

theorem madeInts (n : Nat) : madeCells (Value.int .i64 0).cells n = ((List.replicate n (0 : Int)).map (Value.int .i64)).toArray := by
  apply Array.ext
  · simp [madeCells]
  · intro i h1 h2
    simp [madeCells, Value.cells, Nat.mod_one]

theorem wpList_make_ints {w : World} {ops : Array Oper} {rest : List Oper} {o : Oper} {a : Act} {Q : Exit → Act → World → Prop}
    (hg : o.guard = none) (l c : Operand) (t : TypeId) (hop : o.op = Op.makeSlice t l c) (ht : Try.prog.underlying t = some (.slice 3))
    (L : Int) (n : Nat) (hl : a.eval l = .int .i64 L) (hc : a.eval c = .int .i64 L) (hL : L = (n : Int)) (hn : n ≤ 10000000000000)
    (hK : ∀ w', Blk w' w.heap.size (List.replicate n 0) → Below w.heap.size w w' → wpList Try.prog ops Q rest (a.put o.dst (.slice (some ⟨w.heap.size, 0, none⟩) n n)) w') :
    wpList Try.prog ops Q (o :: rest) a w := by
  refine wpList_plain hg fun K hK' => ?_
  obtain ⟨i, hi, hz, hs, hb⟩ := info_of Try.infoInt
  subst hL
  have hr := run_make (P := Try.prog) w t 3 i _ ht hi hz .i64 .i64 (n : Int) (n : Int) (by omega) (by omega) (by rw [hb]; omega) (by omega)
  rw [hs, Int.toNat_natCast, Nat.mul_one, madeInts] at hr
  unfold Oper.wp
  simp [execOp, hop, hl, hc, hr, Result.andThen]
  refine hK' _ _ (hK _ ?_ ((Below.refl _ _).alloc (Nat.le_refl _) _))
  refine ⟨[], ?_⟩
  rw [heap_alloc_new]
  simp

/-- the first ones of a list, put over those of another -/
def over (cs zs : List Int) : List Int := cs ++ zs.drop cs.length

theorem wpList_copy_ints {w : World} {ops : Array Oper} {rest : List Oper} {o : Oper} {a : Act} {Q : Exit → Act → World → Prop} (hgd : o.guard = none) (d s : Operand) (dT sT : TypeId)
    (ho : o.op = .call { callee := .builtin .copy, args := #[d, s], argTypes := #[dT, sT] }) (hu : Try.prog.underlying dT = some (.slice 3))
    (g : Nat) (dLen dCap : Nat) (sp : Option Addr) (sLen sCap : Nat) (hd : a.eval d = .slice (some ⟨g, 0, none⟩) dLen dCap) (hs : a.eval s = .slice sp sLen sCap)
    (N : Nat) (xs zs : List Int) (hx : SL N w sp sLen sCap xs) (hz : Blk w g zs) (hlz : dLen = zs.length) (hle : xs.length ≤ zs.length) (B : Nat) (w0 : World) (hb : Below B w0 w) (hBg : B ≤ g)
    (h : ∀ w', Blk w' g (over xs zs) → Below B w0 w' → wpList Try.prog ops Q rest (a.put o.dst (goInt xs.length)) w') :
    wpList Try.prog ops Q (o :: rest) a w := by
  have hsz : (Try.prog.info? 3).map (·.size) = some 1 := by obtain ⟨i, hi, _, hs, _⟩ := info_of Try.infoInt; rw [hi]; simp [hs]
  have hlen : (xs.map (Value.int .i64)).length = Nat.min sLen dLen := by
    rw [List.length_map, hlz]; show _ = min _ _; have := hx.len; omega
  obtain ⟨r, hz⟩ := hz
  refine wpList_copy_splice hgd d s dT sT ho 3 hu hsz _ _ dLen dCap sLen sCap hd hs g 0 (zs.map (Value.int .i64) ++ r) 3 hz (xs.map (Value.int .i64)) hlen ?_ (by simp; omega) (by simp [Value.oneCell']) B w0 hb hBg ?_
  · intro hp
    refine ⟨rfl, ?_⟩
    obtain ⟨b, off, rfl, _, hc⟩ := hx.2.2 (by have := hx.len; simp at hp; omega)
    refine ⟨_, rfl, fun j v hj => ?_⟩
    have hjl : j < xs.length := by
      apply Decidable.byContradiction; intro hcon
      rw [List.getElem?_eq_none (by simp; omega)] at hj; cases hj
    rw [List.getElem?_map, List.getElem?_eq_getElem hjl] at hj
    simp at hj; subst hj
    have := hc j (by have := hx.len; omega)
    rw [List.getD_eq_getElem?_getD, List.getElem?_eq_getElem hjl] at this
    unfold Addr.add
    by_cases h0 : j = 0
    · subst h0; simpa using this
    · simpa [h0] using this
  · intro w' hw' hb'
    have e : (xs.map (Value.int .i64)).length = xs.length := by simp
    rw [e]
    refine h w' ?_ hb'
    have := hw'.out
    refine ⟨r, ?_⟩
    rw [this]
    have e2 : xs.length - zs.length = 0 := by omega
    simp [splice, over, List.map_drop, List.drop_append, e2]

/-- what the call owns as a row, read as a block -/
theorem owns_cells {w : World} {base : Nat} {t : TypeId} {size : Nat} {v : Value} {n : Nat} {xs : List Value} (h : w.ownsRow base t size v n xs) :
    xs.length = n * size ∧ ((v = .slice none 0 0 ∧ n = 0) ∨ ∃ g cap, v = .slice (some ⟨g, 0, none⟩) n cap ∧ base ≤ g ∧ n ≤ cap ∧ Cells w g xs t) := by
  refine ⟨h.1, h.2.imp id ?_⟩
  rintro ⟨g, cap, cur, rfl, hb, hh, hc, _, _, ht⟩
  refine ⟨g, cap, rfl, hb, hc, cur.toList.drop (n * size), ?_⟩
  rw [hh, ← ht, List.take_append_drop]

theorem Below.of_grown {w w' : World} {row : Option Nat} (hg : w.grownBy w' row) (hr : ∀ k, row = some k → w.heap.size ≤ k) : Below w.heap.size w w' :=
  (Below.refl _ _).grown hg (Nat.le_refl _) hr

/-- append, the first one the call's own (or nil), the second one any slice that reads as these cells -/
theorem wpList_append_cells {w : World} {ops : Array Oper} {rest : List Oper} {o : Oper} {a : Act} {Q : Exit → Act → World → Prop} (hgd : o.guard = none) (s x : Operand) (t : TypeId)
    (ho : o.op = .call { callee := .builtin .append, args := #[s, x], argTypes := #[t, t] })
    (base : Nat) (e : TypeId) (z : Value) (size bytes : Nat) (ht : Try.prog.underlying t = some (.slice e)) (hi : (Try.prog.info? e).map (fun i => (i.zero, i.size, i.bytes)) = some (some z, size, bytes))
    (hzs : z.cells.size = size) (hsz : 0 < size)
    (v : Value) (n : Nat) (xs : List Value) (hs : a.eval s = v) (hown : w.ownsRow base e size v n xs)
    (sp : Option Addr) (m c : Nat) (news : List Value) (hx : a.eval x = .slice sp m c) (hl : news.length = m * size)
    (hnews : 0 < m → ∃ b off, sp = some ⟨b, off, none⟩ ∧ ∀ j u, news[j]? = some u → w.cell? ⟨b, off + j, none⟩ = some u) (h1 : ∀ u ∈ news, u.oneCell' = true)
    (hmn : sp = none → m = 0 ∧ c = 0) (hb : (n + m) * bytes ≤ 140737488355328) (hb2 : n + m ≤ 140737488355328) (hbase : base ≤ w.heap.size)
    (h : ∀ v' w', w'.ownsRow base e size v' (n + m) (xs ++ news) → w.grownBy w' v.ownBlock → wpList Try.prog ops Q rest (a.put o.dst v') w') :
    wpList Try.prog ops Q (o :: rest) a w := by
  obtain ⟨i, hi1, hi2, hi3, hi4⟩ := info_of hi
  cases sp with
  | none =>
    obtain ⟨rfl, rfl⟩ := hmn rfl
    obtain rfl : news = [] := List.eq_nil_of_length_eq_zero (by simpa using hl)
    refine wpList_append_own_none hgd s x t ho base e i size ht hi1 v n xs hs hown hx ?_
    exact h v w (by simpa using hown) ⟨rfl, rfl, rfl, Nat.le_refl _, fun _ _ _ => rfl⟩
  | some ad =>
    refine wpList_append_own w hgd s x t ho base e i z size bytes ht hi1 hi2 hi3 hi4 hzs hsz v n xs hs hown ad m c news hx hl ?_ h1 (by unfold maxLen; omega) hb hbase (fun v' w' h2 h3 _ => h v' w' h2 h3)
    intro j u hj
    by_cases hm : 0 < m
    · obtain ⟨b, off, he, hc⟩ := hnews hm
      obtain rfl := Option.some.inj he
      have := hc j u hj
      unfold Addr.add
      by_cases h0 : j = 0
      · subst h0; simpa using this
      · simpa [h0] using this
    · have : news.length = 0 := by rw [hl, show m = 0 by omega]; simp
      rw [List.eq_nil_of_length_eq_zero this] at hj; simp at hj

/-- append of ints -/
theorem wpList_append_ints {w : World} {ops : Array Oper} {rest : List Oper} {o : Oper} {a : Act} {Q : Exit → Act → World → Prop} (hgd : o.guard = none) (s x : Operand) (t : TypeId)
    (ho : o.op = .call { callee := .builtin .append, args := #[s, x], argTypes := #[t, t] }) (ht : Try.prog.underlying t = some (.slice 3))
    (base : Nat) (v : Value) (n : Nat) (zs : List Int) (hs : a.eval s = v) (hown : w.ownsRow base 3 1 v n (zs.map (Value.int .i64)))
    (N : Nat) (sp : Option Addr) (m c : Nat) (xs : List Int) (hx : a.eval x = .slice sp m c) (hsl : SL N w sp m c xs) (hmn : sp = none → c = 0)
    (hb : n + m ≤ 10000000000000) (hbase : base ≤ w.heap.size)
    (h : ∀ v' w', w'.ownsRow base 3 1 v' (n + m) ((zs ++ xs).map (Value.int .i64)) → w.grownBy w' v.ownBlock → wpList Try.prog ops Q rest (a.put o.dst v') w') :
    wpList Try.prog ops Q (o :: rest) a w := by
  refine wpList_append_cells hgd s x t ho base 3 (.int .i64 0) 1 8 ht Try.infoInt (by simp [Value.cells]) (by omega) v n _ hs hown sp m c (xs.map (Value.int .i64)) hx (by simp [hsl.len]) ?_ (by simp [Value.oneCell']) ?_ (by omega) (by omega) hbase ?_
  · intro hm
    obtain ⟨b, off, e, _, hc⟩ := hsl.2.2 hm
    refine ⟨b, off, e, fun j u hj => ?_⟩
    have hjl : j < xs.length := by
      apply Decidable.byContradiction; intro hcon
      rw [List.getElem?_eq_none (by simp; omega)] at hj; cases hj
    have := hc j (by have := hsl.len; omega)
    rw [List.getElem?_map, List.getElem?_eq_getElem hjl] at hj
    simp at hj; subst hj
    rw [this, List.getD_eq_getElem?_getD, List.getElem?_eq_getElem hjl]; rfl
  · intro e
    refine ⟨?_, hmn e⟩
    apply Decidable.byContradiction; intro hcon
    obtain ⟨b, off, e2, _⟩ := hsl.2.2 (by omega)
    rw [e] at e2; cases e2
  · intro v' w' h2 h3
    rw [← List.map_append] at h2
    exact h v' w' h2 h3

/-- the block that was laid ahead of a call, behind it -/
theorem kept_new {w w1 : World} {cs : Array Value} {t : TypeId} (hb : Below (w.alloc (.cells cs t)).heap.size (w.alloc (.cells cs t)) w1) :
    (∀ i, w1.cell? ⟨w.heap.size, i, none⟩ = cs[i]?) ∧ (∀ i, w1.frozen? ⟨w.heap.size, i, none⟩ = false) ∧ w.heap.size < w1.heap.size := by
  have hs : (w.alloc (.cells cs t)).heap.size = w.heap.size + 1 := by simp
  refine ⟨fun i => ?_, fun i => ?_, by have := hb.size; omega⟩
  · rw [hb.cell (p := ⟨w.heap.size, i, none⟩) (by simp)]
    exact World.cell?_alloc_at _ _ _ _ rfl
  · rw [hb.frozen (p := ⟨w.heap.size, i, none⟩) (by simp)]
    exact World.frozen?_alloc_at _ _ _ _ rfl
theorem below_alloc {w w1 : World} {o : Obj} (hb : Below (w.alloc o).heap.size (w.alloc o) w1) : Below w.heap.size w w1 :=
  ((Below.refl _ _).alloc (Nat.le_refl _) _).trans (hb.mono (by simp))
theorem SL.alloc {w : World} {a n c zs} (h : SL w.heap.size w a n c zs) (o : Obj) : SL (w.alloc o).heap.size (w.alloc o) a n c zs :=
  h.go ((Below.refl _ _).alloc (Nat.le_refl _) _)

theorem SL.one (w : World) (x : Int) (t : TypeId) : SL (w.alloc (.cells #[.int .i64 x] t)).heap.size (w.alloc (.cells #[.int .i64 x] t)) (some ⟨w.heap.size, 0, none⟩) 1 1 [x] :=
  ⟨rfl, Nat.le_refl _, fun _ => ⟨w.heap.size, 0, rfl, by simp, fun j hj => by
    obtain rfl : j = 0 := by omega
    exact World.cell?_alloc_at _ _ _ _ rfl⟩⟩
/-- a row of the call's own is a slice -/
theorem owns_slice {w : World} {base : Nat} {t : TypeId} {size : Nat} {v : Value} {n : Nat} {xs : List Value} (h : w.ownsRow base t size v n xs) : ∃ a c, v = .slice a n c := by
  rcases h.2 with ⟨rfl, rfl⟩ | ⟨g, cap, cur, rfl, _⟩
  · exact ⟨_, _, rfl⟩
  · exact ⟨_, _, rfl⟩
theorem owns_sl {w : World} {base : Nat} {t : TypeId} {a : Option Addr} {n c : Nat} {zs : List Int} (h : w.ownsRow base t 1 (.slice a n c) n (zs.map (Value.int .i64))) : SL w.heap.size w a n c zs := by
  have hl := h.1
  simp at hl
  rcases (owns_cells h).2 with ⟨e, rfl⟩ | ⟨g, cap, e, _, hc, hcs⟩
  · cases List.eq_nil_of_length_eq_zero hl
    exact SL.nil _ _ _ _
  · injection e with e1 e2 e3
    subst e1 e3
    refine ⟨hl.symm, hc, fun _ => ⟨g, 0, rfl, hcs.lt, fun j hj => ?_⟩⟩
    rw [Nat.zero_add, hcs.cell (by simp; omega)]
    simp [List.getD_eq_getElem?_getD, List.getElem?_eq_getElem (show j < zs.length by omega)]

/-- a block that is older than the row stays as it is while the row grows -/
theorem grown_old {w w' : World} {o : Obj} {base : Nat} {t : TypeId} {size : Nat} {v : Value} {n : Nat} {xs : List Value} (hown : w.ownsRow base t size v n xs) (hg : (w.alloc o).grownBy w' v.ownBlock)
    {b : Nat} (hb : b < base) (hbase : base ≤ w.heap.size) : w'.heap[b]? = w.heap[b]? := by
  rw [hg.block b (by simp; omega) (fun e => by have := (hown.lt b e.symm).1; omega), Below.heap_alloc _ _ _ (by omega)]
theorem grown_below {w0 w w' : World} {o : Obj} {base B : Nat} {t : TypeId} {size : Nat} {v : Value} {n : Nat} {xs : List Value} (hb : Below B w0 w) (hown : w.ownsRow base t size v n xs) (hg : (w.alloc o).grownBy w' v.ownBlock)
    (hB : B ≤ base) (hbase : base ≤ w.heap.size) : Below B w0 w' :=
  (hb.alloc (by omega) o).grown hg (by simp; omega) (fun k hk => by have := (hown.lt k hk).1; omega)

theorem obj_setCell {w : World} {b : Nat} {cs : Array Value} {t : TypeId} (h : w.heap[b]? = some (.cells cs t (0, 0))) (i : Nat) (u : Value) :
    (w.setCell ⟨b, i, none⟩ u).heap[b]? = some (.cells (cs.setIfInBounds i u) t (0, 0)) := by
  have hlt := lt_of_block h
  have h' : w.heap[b] = .cells cs t (0, 0) := by simpa [Array.getElem?_eq_getElem hlt] using h
  show (w.heap.modify b _)[b]? = _
  rw [Array.getElem?_eq_getElem (by simpa using hlt), Array.getElem_modify_self, h']
  rfl
theorem obj_other {w : World} {b : Nat} {o : Obj} (h : w.heap[b]? = some o) (p : Addr) (hp : p.block ≠ b) (u : Value) : (w.setCell p u).heap[b]? = some o :=
  (Below.heap_setCell _ _ _ _ (fun e => hp e.symm)).trans h

/-- a call that gives back a slice of ints in memory of its own -/
def RetOwn (w : World) (zs : List Int) (e : Ending) (w' : World) : Prop :=
  ∃ v, e = .returned v ∧ ((v = .slice none 0 0 ∧ zs = []) ∨ ∃ g c, v = .slice (some ⟨g, 0, none⟩) zs.length c ∧ zs.length ≤ c ∧ w.heap.size ≤ g ∧ Blk w' g zs) ∧ Below w.heap.size w w'

end Go.Proofs.Ytkfkdkoohnfgaaa
