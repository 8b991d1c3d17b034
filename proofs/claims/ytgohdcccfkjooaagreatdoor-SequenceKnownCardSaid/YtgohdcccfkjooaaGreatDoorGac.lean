/-
  DERIVED. Several texts in one: SurfF, Recs, RegionK, SurfG, SurfH.
-/
import Derived.Test.YtgohdcccfkjooaaGreatDoorHSurfL
import Derived.Deep.AppendLies
import Derived.Test.YtgohdcccfkjooaaGreatDoorGaa
import Derived.WalkKit
import Derived.OrdersHeld
import Derived.StillTail
import Derived.ChangeKeysEq
namespace Go.Proofs.YtgohdcccfkjooaaGreatDoor
open Go.RowKit

/-- kept: the surface; its coating is that of the argument, or none -/
def RetKept (w : World) (s : Surf) (a : Option Addr) (n c : Nat) (e : Ending) (w' : World) : Prop :=
  ∃ a' n' c', RetSurf w (keptS s) a' n' c' e w' ∧ ((s.kind ≤ 2 ∧ a' = a ∧ n' = n ∧ c' = c) ∨ (2 < s.kind ∧ a' = none ∧ n' = 0 ∧ c' = 0))

theorem kept_any (s : Surf) (a : Option Addr) (n c : Nat) (w : World) (h1 : 1 ≤ s.kind) (h2 : s.kind ≤ 4) : Calls Tryz.prog 202 #[.agg #[.int .i64 s.kind, .int .i64 s.curv, .int .i64 s.conic, .int .i64 s.curvX, .int .i64 s.conicX, .int .i64 s.a0, .int .i64 s.a1, .int .i64 s.a2, .int .i64 s.a3, .int .i64 s.p0, .int .i64 s.p1, .int .i64 s.order, .int .i64 s.thick, .string s.glass, .int .i64 s.semi, .int .i64 s.hole, .int .i64 s.dx, .int .i64 s.dy, .int .i64 s.ax, .int .i64 s.ay, .int .i64 s.az, .slice a n c]] w (RetKept w s a n c) := by
  have : s.kind = 1 ∨ s.kind = 2 ∨ s.kind = 3 ∨ s.kind = 4 := by omega
  rcases this with h | h | h | h
  · by_cases h0 : s.order = 0
    · exact (kept_1a s a n c w h h0).mono fun e w' hr => ⟨a, n, c, hr, Or.inl ⟨by omega, rfl, rfl, rfl⟩⟩
    · cases hm : isMirror s.glass with
      | true => exact (kept_1b s a n c w h h0 hm).mono fun e w' hr => ⟨a, n, c, hr, Or.inl ⟨by omega, rfl, rfl, rfl⟩⟩
      | false => exact (kept_1c s a n c w h h0 hm).mono fun e w' hr => ⟨a, n, c, hr, Or.inl ⟨by omega, rfl, rfl, rfl⟩⟩
  · exact (kept_2 s a n c w h).mono fun e w' hr => ⟨a, n, c, hr, Or.inl ⟨by omega, rfl, rfl, rfl⟩⟩
  · exact (kept_3 s a n c w h).mono fun e w' hr => ⟨none, 0, 0, hr, Or.inr ⟨by omega, rfl, rfl, rfl⟩⟩
  · exact (kept_4 s a n c w h).mono fun e w' hr => ⟨none, 0, 0, hr, Or.inr ⟨by omega, rfl, rfl, rfl⟩⟩

theorem heap_setCells {b : Nat} {T : TypeId} : ∀ (vs pre old post : List Value) (w : World), old.length = vs.length → w.heap[b]? = some (.cells (pre ++ old ++ post).toArray T (0, 0)) → (w.setCells b pre.length vs).heap[b]? = some (.cells (pre ++ vs ++ post).toArray T (0, 0))
  | [], pre, old, post, w, hl, h => by
    obtain rfl : old = [] := List.length_eq_zero_iff.1 hl
    exact h
  | v :: vs, pre, old, post, w, hl, h => by
    match old, hl with
    | o :: old, hl =>
      have h1 := obj_setCell h pre.length v
      rw [List.setIfInBounds_toArray, List.append_assoc, List.set_append, if_neg (by omega), Nat.sub_self] at h1
      simp only [List.cons_append, List.set_cons_zero] at h1
      have h2 := heap_setCells (T := T) vs (pre ++ [v]) old post (w.setCell ⟨b, pre.length, none⟩ v) (by simpa using hl) (by rw [h1]; simp)
      simp only [List.length_append, List.length_singleton] at h2
      show ((w.setCell ⟨b, pre.length, none⟩ v).setCells b (pre.length + 1) vs).heap[b]? = _
      rw [h2]; simp
theorem heap_setAll {b : Nat} {T : TypeId} {vs : List Value} {cs : Array Value} {w : World} (h : w.heap[b]? = some (.cells cs T (0, 0))) (hl : cs.size = vs.length) : (w.setCells b 0 vs).heap[b]? = some (.cells vs.toArray T (0, 0)) := by
  have := heap_setCells vs [] cs.toList [] w (by simpa using hl) (by simpa using h)
  simpa using this
theorem below_setCells {B b : Nat} (hb : B ≤ b) : ∀ (vs : List Value) (o : Nat) {w w' : World}, Below B w w' → Below B w (w'.setCells b o vs)
  | [], _, _, _, h => h
  | v :: vs, o, _, _, h => below_setCells hb vs (o + 1) (h.setCell (p := ⟨b, o, none⟩) hb v)

/-- the fields of a surface, as Same compares them -/
def fieldsV (s : Surf) : List Value := [.int .i64 s.kind, .int .i64 s.curv, .int .i64 s.conic, .int .i64 s.curvX, .int .i64 s.conicX, .int .i64 s.order, .int .i64 s.thick, .int .i64 s.semi, .int .i64 s.hole, .int .i64 s.dx, .int .i64 s.dy, .int .i64 s.ax, .int .i64 s.ay, .int .i64 s.az, .int .i64 0, .int .i64 0,
  .int .i64 s.a0, .int .i64 s.a1, .int .i64 s.a2, .int .i64 s.a3, .int .i64 s.p0, .int .i64 s.p1, .string s.glass]

theorem Tryz.infoFields : (Tryz.prog.info? 317).map (·.size) = some 23 := by kernel_rfl
theorem size_alloc (w : World) (o : Obj) : (w.alloc o).heap.size = w.heap.size + 1 := by simp
theorem there_block {w : World} {g n : Nat} {cs : Array Value} {T : TypeId} (h : w.heap[g]? = some (.cells cs T (0, 0))) (hs : cs.size = n) : w.there g 0 n := fun j hj => by
  subst hs
  simp [World.cell?, World.frozen?, h, hj]

set_option maxRecDepth 100000 in
set_option maxHeartbeats 1600000 in
theorem of_fields (s : Surf) (a : Option Addr) (n c : Nat) (w : World) : Calls Tryz.prog 240 #[.agg #[.int .i64 s.kind, .int .i64 s.curv, .int .i64 s.conic, .int .i64 s.curvX, .int .i64 s.conicX, .int .i64 s.a0, .int .i64 s.a1, .int .i64 s.a2, .int .i64 s.a3, .int .i64 s.p0, .int .i64 s.p1, .int .i64 s.order, .int .i64 s.thick, .string s.glass, .int .i64 s.semi, .int .i64 s.hole, .int .i64 s.dx, .int .i64 s.dy, .int .i64 s.ax, .int .i64 s.ay, .int .i64 s.az, .slice a n c]] w (RetB w (.agg (fieldsV s).toArray)) := by
  have h1 := SurfB.new w s a n c
  have H1 := Lib.hid h1; clear h1
  go_enter Tryz.func240, Tryz.ntmps240
  go_upto_region 1 with fail
  have h2 := heap_alloc_new (w.alloc (.cells #[.int .i64 s.kind, .int .i64 s.curv, .int .i64 s.conic, .int .i64 s.curvX, .int .i64 s.conicX, .int .i64 s.a0, .int .i64 s.a1, .int .i64 s.a2, .int .i64 s.a3, .int .i64 s.p0, .int .i64 s.p1, .int .i64 s.order, .int .i64 s.thick, .string s.glass, .int .i64 s.semi, .int .i64 s.hole, .int .i64 s.dx, .int .i64 s.dy, .int .i64 s.ax, .int .i64 s.ay, .int .i64 s.az, .slice a n c] 70)) (.cells #[.int .i64 0, .int .i64 0, .int .i64 0, .int .i64 0, .int .i64 0, .int .i64 0, .int .i64 0, .int .i64 0, .int .i64 0, .int .i64 0, .int .i64 0, .int .i64 0, .int .i64 0, .int .i64 0, .int .i64 0, .int .i64 0, .int .i64 0, .int .i64 0, .int .i64 0, .int .i64 0, .int .i64 0, .int .i64 0, .string emptyS] 317)
  rw [size_alloc] at h2
  refine step_world (fun wx => SurfB wx w.heap.size s a n c ∧ wx.heap[w.heap.size + 1]? = some (.cells #[.int .i64 0, .int .i64 0, .int .i64 0, .int .i64 0, .int .i64 0, .int .i64 0, .int .i64 0, .int .i64 0, .int .i64 0, .int .i64 0, .int .i64 0, .int .i64 0, .int .i64 0, .int .i64 0, .int .i64 0, .int .i64 0, .int .i64 0, .int .i64 0, .int .i64 0, .int .i64 0, .int .i64 0, .int .i64 0, .string emptyS] 317 (0, 0)) ∧ Below w.heap.size w wx) ⟨SurfB.go H1.out ((Below.refl _ _).alloc (Nat.le_refl _) _) (by simp), h2, below_al (below_al (Below.refl _ _))⟩ ?_
  clear h2 H1
  rintro w1 ⟨h1, h2, hb⟩
  obtain ⟨k0, k1, k2, k3, k4, k5, k6, k7, k8, k9, k10, k11, k12, k13, k14, k15, k16, k17, k18, k19, k20, k21⟩ := h1.cells
  go_wp2_with (refine wpList_store_mid rfl 317 (.tmp 2) (.tmp 38) rfl (w.heap.size + 1) 0 (fieldsV s).toArray rfl rfl (there_block h2 rfl) Tryz.infoFields (by simp [fieldsV, Value.oneCell']) ?_; refine step_list (fun wx => wx.heap[w.heap.size + 1]? = some (.cells (fieldsV s).toArray 317 (0, 0)) ∧ Below w.heap.size w wx) ⟨heap_setAll h2 rfl, below_setCells (by omega) _ _ hb⟩ ?_; clear h1 h2 hb; rintro w2 ⟨h2, hb⟩)
  exact bodyPost_ret (results_cell_row rfl _ _ _ 317 _ (0, 0) _ rfl h2 Tryz.underlying317 rfl Tryz.infoFields) rfl ⟨rfl, hb⟩

end Go.Proofs.YtgohdcccfkjooaaGreatDoor

namespace Go.Proofs.YtgohdcccfkjooaaGreatDoor
open Go.RowKit

/-- the blocks of S are as they were -/
def KeptOn (S : Nat → Prop) (w w' : World) : Prop := ∀ b, S b → w'.heap[b]? = w.heap[b]?

theorem KeptOn.refl (S : Nat → Prop) (w : World) : KeptOn S w w := fun _ _ => rfl
theorem KeptOn.trans {S : Nat → Prop} {w w1 w2 : World} (h1 : KeptOn S w w1) (h2 : KeptOn S w1 w2) : KeptOn S w w2 := fun b hb => (h2 b hb).trans (h1 b hb)
theorem KeptOn.cell {S : Nat → Prop} {w w' : World} (h : KeptOn S w w') {p : Addr} (hp : S p.block) : w'.cell? p = w.cell? p := by simp [World.cell?, h _ hp]
theorem KeptOn.mono {S T : Nat → Prop} {w w' : World} (h : KeptOn S w w') (hs : ∀ b, T b → S b) : KeptOn T w w' := fun b hb => h b (hs b hb)
theorem keptOn_below {B : Nat} {w w' : World} (h : Below B w w') : KeptOn (fun b => b < B) w w' := fun b hb => h.block b hb
theorem keptOn_grown {w w' : World} {row : Option Nat} (hg : w.grownBy w' row) : KeptOn (fun b => b < w.heap.size ∧ row ≠ some b) w w' := fun b hb => hg.block b hb.1 (fun e => hb.2 e.symm)
theorem keptOn_setCells (g : Nat) : ∀ (vs : List Value) (o : Nat) (w : World), KeptOn (fun b => b ≠ g) w (w.setCells g o vs)
  | [], _, _ => KeptOn.refl _ _
  | v :: vs, o, w => fun b hb => (keptOn_setCells g vs (o + 1) (w.setCell ⟨g, o, none⟩ v) b hb).trans (Below.heap_setCell _ _ _ _ (fun e => hb e))

/-- the slice (a, n, c) of records of k ints each reads as zs; its block is in S -/
def IRp (S : Nat → Prop) (w : World) (k : Nat) (a : Option Addr) (n c : Nat) (zs : List Int) : Prop :=
  zs.length = n * k ∧ n ≤ c ∧ (0 < n → ∃ b off, a = some ⟨b, off, none⟩ ∧ S b ∧ ∀ j, j < n * k → w.cell? ⟨b, off + j, none⟩ = some (.int .i64 (zs.getD j 0)))

theorem IRp.kept {S T : Nat → Prop} {w w' : World} {k : Nat} {a : Option Addr} {n c : Nat} {zs : List Int} (h : IRp S w k a n c zs) (hk : KeptOn S w w') (hs : ∀ b, S b → T b) : IRp T w' k a n c zs :=
  ⟨h.1, h.2.1, fun hn => let ⟨b, off, e, hb, hc⟩ := h.2.2 hn; ⟨b, off, e, hs b hb, fun j hj => (hk.cell (p := ⟨b, off + j, none⟩) hb).trans (hc j hj)⟩⟩
theorem IRp.ir {S : Nat → Prop} {N : Nat} {w : World} {k : Nat} {a : Option Addr} {n c : Nat} {zs : List Int} (h : IRp S w k a n c zs) (hs : ∀ b, S b → b < N) : IR N w k a n c zs :=
  ⟨h.1, h.2.1, fun hn => let ⟨b, off, e, hb, hc⟩ := h.2.2 hn; ⟨b, off, e, hs b hb, hc⟩⟩
theorem IR.irp {S : Nat → Prop} {N : Nat} {w : World} {k : Nat} {a : Option Addr} {n c : Nat} {zs : List Int} (h : IR N w k a n c zs) (hs : ∀ b, b < N → S b) : IRp S w k a n c zs :=
  ⟨h.1, h.2.1, fun hn => let ⟨b, off, e, hb, hc⟩ := h.2.2 hn; ⟨b, off, e, hs b hb, hc⟩⟩
theorem IRp.nil (S : Nat → Prop) (w : World) (k : Nat) (a : Option Addr) (c : Nat) : IRp S w k a 0 c [] := ⟨by simp, Nat.zero_le _, fun h => absurd h (by omega)⟩

/-- how a record lies in memory: its cells; what they point to lies in blocks of S -/
abbrev Rep (α : Type) := (Nat → Prop) → World → α → List Value → Prop
structure RepOk {α : Type} (k : Nat) (R : Rep α) : Prop where
  len : ∀ {S w x cs}, R S w x cs → cs.length = k
  kept : ∀ {S T w w' x cs}, R S w x cs → KeptOn S w w' → (∀ b, S b → T b) → R T w' x cs
  one : ∀ {S w x cs}, R S w x cs → ∀ v ∈ cs, v.oneCell' = true

/-- the slice (a, n, c) of records reads as l -/
def RR {α : Type} (R : Rep α) (k : Nat) (S : Nat → Prop) (w : World) (a : Option Addr) (n c : Nat) (l : List α) : Prop :=
  l.length = n ∧ n ≤ c ∧ (0 < n → ∃ b off, a = some ⟨b, off, none⟩ ∧ S b ∧ ∀ i x, l[i]? = some x → ∃ cs, R S w x cs ∧ w.rangeAt b (off + i * k) cs)

theorem rangeAt_kept {S : Nat → Prop} {w w' : World} {b o : Nat} {cs : List Value} (h : w.rangeAt b o cs) (hk : KeptOn S w w') (hb : S b) : w'.rangeAt b o cs := fun j v hv => (hk.cell (p := ⟨b, o + j, none⟩) hb).trans (h j v hv)

theorem RR.kept {α : Type} {R : Rep α} {k : Nat} (ok : RepOk k R) {S T : Nat → Prop} {w w' : World} {a : Option Addr} {n c : Nat} {l : List α} (h : RR R k S w a n c l) (hk : KeptOn S w w') (hs : ∀ b, S b → T b) : RR R k T w' a n c l :=
  ⟨h.1, h.2.1, fun hn => let ⟨b, off, e, hb, hc⟩ := h.2.2 hn; ⟨b, off, e, hs b hb, fun i x hx => let ⟨cs, h1, h2⟩ := hc i x hx; ⟨cs, ok.kept h1 hk hs, rangeAt_kept h2 hk hb⟩⟩⟩
theorem RR.go {α : Type} {R : Rep α} {k : Nat} (ok : RepOk k R) {w w' : World} {a : Option Addr} {n c : Nat} {l : List α} (h : RR R k (fun b => b < w.heap.size) w a n c l) (hb : Below w.heap.size w w') : RR R k (fun b => b < w'.heap.size) w' a n c l :=
  h.kept ok (keptOn_below hb) (fun _b h => Nat.lt_of_lt_of_le h hb.size)
theorem RR.nil {α : Type} (R : Rep α) (k : Nat) (S : Nat → Prop) (w : World) (a : Option Addr) (c : Nat) : RR R k S w a 0 c [] := ⟨rfl, Nat.zero_le _, fun h => absurd h (by omega)⟩
theorem RR.at {α : Type} {R : Rep α} {k : Nat} {S : Nat → Prop} {w : World} {a : Option Addr} {n c : Nat} {l : List α} (h : RR R k S w a n c l) {i : Nat} (hi : i < n) :
    ∃ b off x cs, a = some ⟨b, off, none⟩ ∧ S b ∧ l[i]? = some x ∧ R S w x cs ∧ w.rangeAt b (off + i * k) cs := by
  obtain ⟨b, off, e, hb, hc⟩ := h.2.2 (by omega)
  have hl : i < l.length := by rw [h.1]; exact hi
  obtain ⟨cs, h1, h2⟩ := hc i l[i] (List.getElem?_eq_getElem hl)
  exact ⟨b, off, l[i], cs, e, hb, List.getElem?_eq_getElem hl, h1, h2⟩
theorem RR.take {α : Type} {R : Rep α} {k : Nat} {S : Nat → Prop} {w : World} {a : Option Addr} {n c : Nat} {l : List α} (h : RR R k S w a n c l) {i : Nat} (hi : i ≤ n) : RR R k S w a i c (l.take i) := by
  refine ⟨by rw [List.length_take, h.1]; omega, Nat.le_trans hi h.2.1, fun h0 => ?_⟩
  obtain ⟨b, off, e, hb, hc⟩ := h.2.2 (by omega)
  refine ⟨b, off, e, hb, fun j x hx => ?_⟩
  rw [List.getElem?_take] at hx
  split at hx
  · exact hc j x hx
  · cases hx

/-! ### rows of the call's own -/
theorem flatten_at {k : Nat} : ∀ (css : List (List Value)) (i : Nat) (cs : List Value) (j : Nat), (∀ c ∈ css, c.length = k) → css[i]? = some cs → j < k → css.flatten[i * k + j]? = cs[j]?
  | [], i, cs, j, _, h, _ => by simp at h
  | c :: css, 0, cs, j, hl, h, hj => by
    have e : c = cs := by simpa using h
    subst e
    have := hl c (by simp)
    rw [List.flatten_cons, List.getElem?_append_left (by omega)]
    simp
  | c :: css, i + 1, cs, j, hl, h, hj => by
    have hc := hl c (by simp)
    rw [List.flatten_cons, List.getElem?_append_right (by rw [hc, Nat.succ_mul]; omega), hc]
    rw [show (i + 1) * k + j - k = i * k + j by rw [Nat.succ_mul]; omega]
    exact flatten_at css i cs j (fun c hc => hl c (by simp [hc])) (by simpa using h) hj

theorem length_flatten {k : Nat} : ∀ (css : List (List Value)), (∀ c ∈ css, c.length = k) → css.flatten.length = css.length * k
  | [], _ => by simp
  | c :: css, hl => by
    rw [List.flatten_cons, List.length_append, length_flatten css (fun c hc => hl c (by simp [hc])), hl c (by simp), List.length_cons, Nat.succ_mul]; omega

theorem flatten_set {k : Nat} : ∀ (css : List (List Value)) (i : Nat) (cs : List Value), (∀ c ∈ css, c.length = k) → i < css.length → cs.length = k → (css.set i cs).flatten = css.flatten.take (i * k) ++ cs ++ css.flatten.drop (i * k + k)
  | [], i, cs, _, h, _ => by simp at h
  | c :: css, 0, cs, hl, h, hc => by
    have := hl c (by simp)
    simp [this]
  | c :: css, i + 1, cs, hl, h, hc => by
    have hcl := hl c (by simp)
    have ih := flatten_set css i cs (fun c hc => hl c (by simp [hc])) (by simpa using h) hc
    rw [List.set_cons_succ, List.flatten_cons, ih, List.flatten_cons]
    have e1 : c.take ((i + 1) * k) = c := List.take_of_length_le (by rw [hcl, Nat.succ_mul]; omega)
    have e2 : c.drop ((i + 1) * k + k) = [] := List.drop_eq_nil_of_le (by rw [hcl, Nat.succ_mul]; omega)
    rw [List.take_append, List.drop_append, e1, e2, hcl]
    rw [show (i + 1) * k - k = i * k by rw [Nat.succ_mul]; omega, show (i + 1) * k + k - k = i * k + k by rw [Nat.succ_mul]; omega]
    simp

/-- the value v is a row of the call's own that reads as l -/
def OwnR {α : Type} (R : Rep α) (k : Nat) (T : TypeId) (base : Nat) (w : World) (v : Value) (l : List α) : Prop :=
  ∃ css : List (List Value), css.length = l.length ∧ (∀ c ∈ css, c.length = k) ∧ w.ownsRow base T k v l.length css.flatten ∧ ∀ (i : Nat) (x : α) (cs : List Value), l[i]? = some x → css[i]? = some cs → R (fun b => base ≤ b ∧ b < w.heap.size ∧ v.ownBlock ≠ some b) w x cs

theorem OwnR.nil {α : Type} (R : Rep α) (k : Nat) (T : TypeId) (base : Nat) (w : World) : OwnR R k T base w (.slice none 0 0) [] :=
  ⟨[], rfl, by simp, World.ownsRow_nil _ _ _ _, fun i x cs h => by simp at h⟩

theorem ownsRow_below {w w' : World} {base : Nat} {e : TypeId} {size n : Nat} {v : Value} {xs : List Value} (h : w.ownsRow base e size v n xs) (hb : Below w.heap.size w w') : w'.ownsRow base e size v n xs := by
  obtain ⟨l, r⟩ := h
  refine ⟨l, r.imp id ?_⟩
  rintro ⟨g, cap, cur, e, q1, q2, q3⟩
  exact ⟨g, cap, cur, e, q1, (hb.block g (lt_of_block q2)).trans q2, q3⟩

theorem OwnR.go {α : Type} {R : Rep α} {k : Nat} (ok : RepOk k R) {T : TypeId} {base : Nat} {w w' : World} {v : Value} {l : List α} (h : OwnR R k T base w v l) (hb : Below w.heap.size w w') : OwnR R k T base w' v l := by
  obtain ⟨css, h1, h2, h3, h4⟩ := h
  refine ⟨css, h1, h2, ownsRow_below h3 hb, fun i x cs hx hc => ok.kept (h4 i x cs hx hc) ?_ ?_⟩
  · exact (keptOn_below hb).mono (fun b h => h.2.1)
  · exact fun b h => ⟨h.1, Nat.lt_of_lt_of_le h.2.1 hb.size, h.2.2⟩

/-- .. where all from base on is as it was -/
theorem OwnR.keep {α : Type} {R : Rep α} {k : Nat} (ok : RepOk k R) {T : TypeId} {base : Nat} {w w' : World} {v : Value} {l : List α} (h : OwnR R k T base w v l) (hk : KeptOn (fun b => base ≤ b ∧ b < w.heap.size) w w') (hs : w.heap.size ≤ w'.heap.size) : OwnR R k T base w' v l := by
  obtain ⟨css, h1, h2, h3, h4⟩ := h
  refine ⟨css, h1, h2, ?_, fun i x cs hx hc => ok.kept (h4 i x cs hx hc) (hk.mono (fun b h => ⟨h.1, h.2.1⟩)) (fun b h => ⟨h.1, Nat.lt_of_lt_of_le h.2.1 hs, h.2.2⟩)⟩
  obtain ⟨l, r⟩ := h3
  refine ⟨l, r.imp id ?_⟩
  rintro ⟨g, cap, cur, e, q1, q2, q3⟩
  exact ⟨g, cap, cur, e, q1, (hk g ⟨q1, lt_of_block q2⟩).trans q2, q3⟩

theorem OwnR.form {α : Type} {R : Rep α} {k : Nat} {T : TypeId} {base : Nat} {w : World} {v : Value} {l : List α} (h : OwnR R k T base w v l) :
    (v = .slice none 0 0 ∧ l = []) ∨ ∃ g cap, v = .slice (some ⟨g, 0, none⟩) l.length cap ∧ base ≤ g ∧ g < w.heap.size ∧ l.length ≤ cap ∧ cap ≤ maxLen ∧ v.ownBlock = some g := by
  obtain ⟨css, h1, h2, h3, h4⟩ := h
  rcases h3.2 with ⟨e, h0⟩ | ⟨g, cap, cur, e, q1, q2, q3, q4, q5, q6⟩
  · exact Or.inl ⟨e, List.length_eq_zero_iff.1 h0⟩
  · exact Or.inr ⟨g, cap, e, q1, lt_of_block q2, q3, q4, by rw [e]; rfl⟩

theorem OwnR.fresh {α : Type} {R : Rep α} {k : Nat} {T : TypeId} {base : Nat} {w : World} {v : Value} {l : List α} (h : OwnR R k T base w v l) {b : Nat} (hb : w.heap.size ≤ b) : v.ownBlock ≠ some b := by
  intro e
  rcases h.form with ⟨rfl, _⟩ | ⟨g, cap, _, _, q2, _, _, q5⟩
  · cases e
  · rw [q5] at e; cases e; omega

/-- a row of its own reads as any other -/
theorem OwnR.rr {α : Type} {R : Rep α} {k : Nat} (ok : RepOk k R) {T : TypeId} {base : Nat} {w : World} {a : Option Addr} {n c : Nat} {l : List α} (h : OwnR R k T base w (.slice a n c) l) : RR R k (fun b => b < w.heap.size) w a n c l := by
  obtain ⟨css, h1, h2, h3, h4⟩ := h
  rcases h3.2 with ⟨e, h0⟩ | ⟨g, cap, cur, e, q1, q2, q3, q4, q5, q6⟩
  · cases e
    obtain rfl := List.length_eq_zero_iff.1 h0
    exact RR.nil _ _ _ _ _ _
  · cases e
    refine ⟨rfl, q3, fun hn => ⟨g, 0, rfl, lt_of_block q2, fun i x hx => ?_⟩⟩
    have hi : i < l.length := (List.getElem?_eq_some_iff.1 hx).1
    have hci : css[i]? = some css[i] := List.getElem?_eq_getElem (by omega)
    refine ⟨css[i], ok.kept (h4 i x _ hx hci) (KeptOn.refl _ _) (fun b h => h.2.1), fun j v hv => ?_⟩
    have hj : j < k := by
      have := (List.getElem?_eq_some_iff.1 hv).1
      rw [h2 css[i] (List.getElem_mem _)] at this; exact this
    have hc := h3.cells (g := g) rfl (i * k + j) v (by rw [flatten_at css i _ j h2 hci hj]; exact hv)
    rw [Addr.add_mid, ← Nat.add_assoc] at hc
    exact hc

/-- one of its records -/
theorem OwnR.at {α : Type} {R : Rep α} {k : Nat} (ok : RepOk k R) {T : TypeId} {base : Nat} {w : World} {g n c : Nat} {l : List α} (h : OwnR R k T base w (.slice (some ⟨g, 0, none⟩) n c) l) {i : Nat} (hi : i < l.length) :
    ∃ cs, R (fun b => b < w.heap.size) w l[i] cs ∧ w.rangeAt g (i * k) cs := by
  have hr := h.rr ok
  obtain ⟨b, off, x, cs, e, hb, hx, h1, h2⟩ := hr.at (i := i) (by rw [← hr.1]; exact hi)
  cases e
  rw [List.getElem?_eq_getElem hi] at hx
  cases hx
  exact ⟨cs, h1, by simpa using h2⟩

theorem ownsRow_there {w : World} {base : Nat} {e : TypeId} {size n g c : Nat} {xs : List Value} (h : w.ownsRow base e size (.slice (some ⟨g, 0, none⟩) n c) n xs) {o m : Nat} (hm : o + m ≤ n * size) : w.there g o m := by
  rcases h.2 with ⟨e, _⟩ | ⟨g', cap, cur, e, q1, q2, q3, q4, q5, q6⟩
  · cases e
  · cases e
    intro j hj
    have : o + j < cur.size := by rw [q5]; have := Nat.mul_le_mul_right size q3; omega
    simp [World.cell?, World.frozen?, q2, this]
theorem OwnR.there {α : Type} {R : Rep α} {k : Nat} {T : TypeId} {base : Nat} {w : World} {g n c : Nat} {l : List α} (h : OwnR R k T base w (.slice (some ⟨g, 0, none⟩) n c) l) {i : Nat} (hi : i < l.length) : w.there g (i * k) k := by
  obtain ⟨css, h1, h2, h3, h4⟩ := h
  have hn : n = l.length := by
    rcases h3.2 with ⟨e, _⟩ | ⟨g', cap, cur, e, _⟩
    · cases e
    · cases e; rfl
  subst hn
  refine ownsRow_there h3 ?_
  have := Nat.mul_le_mul_right k (show i + 1 ≤ l.length from hi)
  rw [Nat.succ_mul] at this
  omega

theorem heap_setMid {b : Nat} {T : TypeId} {w : World} {cur : Array Value} (h : w.heap[b]? = some (.cells cur T (0, 0))) (o : Nat) (vs : List Value) (hl : o + vs.length ≤ cur.size) :
    (w.setCells b o vs).heap[b]? = some (.cells (cur.toList.take o ++ vs ++ cur.toList.drop (o + vs.length)).toArray T (0, 0)) := by
  have e : cur.toList = cur.toList.take o ++ (cur.toList.drop o).take vs.length ++ cur.toList.drop (o + vs.length) := by
    rw [List.append_assoc, ← List.drop_drop, List.take_append_drop, List.take_append_drop]
  have := heap_setCells (b := b) (T := T) vs (cur.toList.take o) ((cur.toList.drop o).take vs.length) (cur.toList.drop (o + vs.length)) w (by simp; omega) (by rw [← e]; simpa using h)
  rw [List.length_take, Nat.min_eq_left (by simp; omega)] at this
  exact this

theorem size_setCells (g : Nat) : ∀ (vs : List Value) (o : Nat) (w : World), (w.setCells g o vs).heap.size = w.heap.size
  | [], _, _ => rfl
  | v :: vs, o, w => by rw [World.setCells, size_setCells g vs]; simp

/-- one of its records is stored -/
theorem OwnR.set {α : Type} {R : Rep α} {k : Nat} (ok : RepOk k R) {T : TypeId} {base : Nat} {w : World} {g n c : Nat} {l : List α} (h : OwnR R k T base w (.slice (some ⟨g, 0, none⟩) n c) l) {i : Nat} (hi : i < l.length) {x : α} {cs : List Value}
    (hx : R (fun b => base ≤ b ∧ b < w.heap.size ∧ b ≠ g) w x cs) : OwnR R k T base (w.setCells g (i * k) cs) (.slice (some ⟨g, 0, none⟩) n c) (l.set i x) := by
  obtain ⟨css, h1, h2, h3, h4⟩ := h
  have hlen := ok.len hx
  have hob : (Value.slice (some ⟨g, 0, none⟩) n c).ownBlock = some g := rfl
  have hk : ∀ {y : α} {ds : List Value}, R (fun b => base ≤ b ∧ b < w.heap.size ∧ b ≠ g) w y ds → R (fun b => base ≤ b ∧ b < (w.setCells g (i * k) cs).heap.size ∧ (Value.slice (some ⟨g, 0, none⟩) n c).ownBlock ≠ some b) (w.setCells g (i * k) cs) y ds := fun hy =>
    ok.kept hy ((keptOn_setCells g cs (i * k) w).mono (fun b h => h.2.2)) (fun b h => ⟨h.1, by rw [size_setCells]; exact h.2.1, by rw [hob]; intro e; cases e; exact h.2.2 rfl⟩)
  refine ⟨css.set i cs, by simp [h1], ?_, ?_, ?_⟩
  · intro d hd
    rcases List.mem_or_eq_of_mem_set hd with hd | rfl
    · exact h2 d hd
    · exact hlen
  · rw [List.length_set]
    rcases h3.2 with ⟨e, _⟩ | ⟨g', cap, cur, e, q1, q2, q3, q4, q5, q6⟩
    · cases e
    · cases e
      have hmul := Nat.mul_le_mul_right k (show i + 1 ≤ l.length from hi)
      rw [Nat.succ_mul] at hmul
      have hmul2 := Nat.mul_le_mul_right k q3
      have hl2 : (css.set i cs).flatten.length = l.length * k := by
        rw [length_flatten (k := k) _ (fun d hd => by
          rcases List.mem_or_eq_of_mem_set hd with hd | rfl
          · exact h2 d hd
          · exact hlen), List.length_set, h1]
      refine ⟨hl2, Or.inr ⟨g, c, _, rfl, q1, heap_setMid q2 (i * k) cs (by rw [hlen, q5]; omega), q3, q4, ?_, ?_⟩⟩
      · simp [hlen]; omega
      · have hA : (cur.toList.take (i * k)).length = i * k := by rw [List.length_take, Nat.min_eq_left (by simp; omega)]
        have hB : (cur.toList.take (i * k) ++ cs).length = i * k + k := by rw [List.length_append, hA, hlen]
        rw [flatten_set css i cs h2 (by omega) hlen, ← q6, List.take_append, List.take_of_length_le (by rw [hB]; exact hmul), hB, List.take_take, Nat.min_eq_left (by omega), List.drop_take, hlen]
  · intro j y ds hj hd
    rw [List.getElem?_set] at hj hd
    by_cases e : i = j
    · subst e
      rw [if_pos rfl, if_pos (by omega)] at hj hd
      cases hj; cases hd
      exact hk hx
    · rw [if_neg e] at hj hd
      exact hk (ok.kept (h4 j y ds hj hd) (KeptOn.refl _ _) (fun b h => ⟨h.1, h.2.1, fun e => h.2.2 (by rw [hob, e])⟩))

/-- behind an append of records -/
theorem OwnR.grown {α : Type} {R : Rep α} {k : Nat} (ok : RepOk k R) {T : TypeId} {base : Nat} {w w' : World} {v : Value} {l l' : List α} {css ds : List (List Value)} (h : css.length = l.length ∧ (∀ c ∈ css, c.length = k) ∧ ∀ (i : Nat) (x : α) (cs : List Value), l[i]? = some x → css[i]? = some cs → R (fun b => base ≤ b ∧ b < w.heap.size ∧ v.ownBlock ≠ some b) w x cs)
    (hd : ds.length = l'.length ∧ (∀ c ∈ ds, c.length = k) ∧ ∀ (i : Nat) (x : α) (cs : List Value), l'[i]? = some x → ds[i]? = some cs → R (fun b => base ≤ b ∧ b < w.heap.size ∧ v.ownBlock ≠ some b) w x cs)
    {g cap : Nat} (hown : w'.ownsRow base T k (.slice (some ⟨g, 0, none⟩) (l.length + l'.length) cap) (l.length + l'.length) (css.flatten ++ ds.flatten)) (hgrow : w.grownBy w' v.ownBlock) (hat : v.ownBlock = some g ∨ g = w.heap.size) :
    OwnR R k T base w' (.slice (some ⟨g, 0, none⟩) (l.length + l'.length) cap) (l ++ l') := by
  have hk : ∀ {y : α} {cs : List Value}, R (fun b => base ≤ b ∧ b < w.heap.size ∧ v.ownBlock ≠ some b) w y cs → R (fun b => base ≤ b ∧ b < w'.heap.size ∧ (Value.slice (some ⟨g, 0, none⟩) (l.length + l'.length) cap).ownBlock ≠ some b) w' y cs := fun hy =>
    ok.kept hy ((keptOn_grown hgrow).mono (fun b h => h.2)) (fun b h => ⟨h.1, Nat.lt_of_lt_of_le h.2.1 hgrow.size, fun e => by
      have e : g = b := by simpa [Value.ownBlock] using e
      subst e
      rcases hat with e | e
      · exact h.2.2 e
      · have := h.2.1; omega⟩)
  refine ⟨css ++ ds, by simp [h.1, hd.1], fun c hc => ?_, by rw [List.flatten_append, List.length_append]; exact hown, fun i x cs hx hc => ?_⟩
  · rcases List.mem_append.1 hc with hc | hc
    · exact h.2.1 c hc
    · exact hd.2.1 c hc
  · by_cases hi : i < l.length
    · rw [List.getElem?_append_left hi] at hx
      rw [List.getElem?_append_left (by omega)] at hc
      exact hk (h.2.2 i x cs hx hc)
    · rw [List.getElem?_append_right (by omega)] at hx
      rw [List.getElem?_append_right (by omega), h.1] at hc
      exact hk (hd.2.2 _ x cs hx hc)

/-- append of one record to a row of the call's own -/
theorem wpList_append_rec2 {ops : Array Oper} {rest : List Oper} {o : Oper} {a : Act} {Q : Exit → Act → World → Prop} {W : World} {α : Type} {R : Rep α} {k : Nat} (ok : RepOk k R) {T ST : TypeId} {z : Value} {bytes : Nat} (hST : Tryz.prog.underlying ST = some (.slice T)) (hT : (Tryz.prog.info? T).map (fun i => (i.zero, i.size, i.bytes)) = some (some z, k, bytes)) (hz : z.cells.size = k) (hk : 0 < k) (hby : bytes ≤ 10000)
    (hgd : o.guard = none) (s x : Operand)
    (ho : o.op = .call { callee := .builtin .append, args := #[s, x], argTypes := #[ST, ST] }) (base : Nat) (w : World) (v : Value) (l : List α) (y : α) (cs : List Value)
    (hs : a.eval s = v) (hrow : OwnR R k T base w v l) (hW : W = w.alloc (.cells cs.toArray T)) (hx : a.eval x = .slice (some ⟨w.heap.size, 0, none⟩) 1 1) (hy : R (fun b => base ≤ b ∧ b < w.heap.size ∧ v.ownBlock ≠ some b) w y cs) (hlen : l.length ≤ 1000000) (hbase : base ≤ w.heap.size)
    (h : ∀ g cap w', OwnR R k T base w' (.slice (some ⟨g, 0, none⟩) (l.length + 1) cap) (l ++ [y]) → (∀ B w0, B ≤ base → Below B w0 w → Below B w0 w') → KeptOn (fun b => b < w.heap.size ∧ v.ownBlock ≠ some b) w w' → w.heap.size ≤ w'.heap.size → wpList Tryz.prog ops Q rest (a.put o.dst (.slice (some ⟨g, 0, none⟩) (l.length + 1) cap)) w') :
    wpList Tryz.prog ops Q (o :: rest) a W := by
  subst hW
  have hb1 : Below w.heap.size w (w.alloc (.cells cs.toArray T)) := (Below.refl _ _).alloc (Nat.le_refl _) _
  have hrow' := hrow.go ok hb1
  obtain ⟨css, h1, h2, h3, h4⟩ := id hrow'
  obtain ⟨i, hi1, hi2, hi3, hi4⟩ := info_of hT
  have hcl := ok.len hy
  refine wpList_plain hgd fun K hK => ?_
  refine wp_append_lies _ s x ST ho base T i z k bytes hST hi1 hi2 hi3 hi4 hz hk v l.length css.flatten hs h3
    ⟨w.heap.size, 0, none⟩ 1 1 cs hx (by omega) (World.news_of_block (cs := cs.toArray) (t := T) (fr := (0, 0)) (heap_alloc_new w _)) (ok.one hy)
    (by omega) (by unfold maxLen; omega) (Nat.le_trans (Nat.mul_le_mul (show l.length + 1 ≤ 1000001 by omega) hby) (by omega)) (Nat.le_trans hbase hb1.size) _ rfl ?_
  intro g' cap' w' hown hgrow hat hlt
  refine hK _ _ (h g' cap' w' ?_ ?_ ?_ (Nat.le_trans hb1.size hgrow.size))
  · refine OwnR.grown (l' := [y]) (ds := [cs]) ok ⟨h1, h2, h4⟩ ⟨rfl, by simpa using hcl, fun i x ds hx hd => ?_⟩ (by simpa using hown) hgrow hat
    match i, hx, hd with
    | 0, hx, hd =>
      cases hx; cases hd
      exact ok.kept hy (keptOn_below hb1 |>.mono (fun b h => h.2.1)) (fun b h => ⟨h.1, Nat.lt_of_lt_of_le h.2.1 hb1.size, h.2.2⟩)
  · intro B w0 hB hb
    refine (hb.alloc (by omega) _).grown hgrow (by have := hb1.size; omega) (fun k hk => ?_)
    have := h3.lt k hk
    omega
  · intro b hb
    exact (hgrow.block b (Nat.lt_of_lt_of_le hb.1 hb1.size) (fun e => hb.2 e.symm)).trans (hb1.block b hb.1)

/-- append of one record to a row of the call's own -/
theorem wpList_append_rec {ops : Array Oper} {rest : List Oper} {o : Oper} {a : Act} {Q : Exit → Act → World → Prop} {W : World} {α : Type} {R : Rep α} {k : Nat} (ok : RepOk k R) {T ST : TypeId} {z : Value} {bytes : Nat} (hST : Tryz.prog.underlying ST = some (.slice T)) (hT : (Tryz.prog.info? T).map (fun i => (i.zero, i.size, i.bytes)) = some (some z, k, bytes)) (hz : z.cells.size = k) (hk : 0 < k) (hby : bytes ≤ 10000)
    (hgd : o.guard = none) (s x : Operand)
    (ho : o.op = .call { callee := .builtin .append, args := #[s, x], argTypes := #[ST, ST] }) (base : Nat) (w : World) (v : Value) (l : List α) (y : α) (cs : List Value)
    (hs : a.eval s = v) (hrow : OwnR R k T base w v l) (hW : W = w.alloc (.cells cs.toArray T)) (hx : a.eval x = .slice (some ⟨w.heap.size, 0, none⟩) 1 1) (hy : R (fun b => base ≤ b ∧ b < w.heap.size ∧ v.ownBlock ≠ some b) w y cs) (hlen : l.length ≤ 1000000) (hbase : base ≤ w.heap.size)
    (h : ∀ g cap w', OwnR R k T base w' (.slice (some ⟨g, 0, none⟩) (l.length + 1) cap) (l ++ [y]) → (∀ B w0, B ≤ base → Below B w0 w → Below B w0 w') → wpList Tryz.prog ops Q rest (a.put o.dst (.slice (some ⟨g, 0, none⟩) (l.length + 1) cap)) w') :
    wpList Tryz.prog ops Q (o :: rest) a W :=
  wpList_append_rec2 ok hST hT hz hk hby hgd s x ho base w v l y cs hs hrow hW hx hy hlen hbase (fun g cap w' h1 h2 _ _ => h g cap w' h1 h2)

end Go.Proofs.YtgohdcccfkjooaaGreatDoor

namespace Go.Proofs.YtgohdcccfkjooaaGreatDoor
open Go.RowKit

section
variable {S : Nat → Prop} {P : Program} {ops : Array Oper} {Q : Exit → Act → World → Prop} {md : Region.Mode}

/-- Whatever order is picked from here on; behind each operation before number n what was there is as it was. -/
def wpRK (S : Nat → Prop) (P : Program) (md : Region.Mode) (ops : Array Oper) (Q : Exit → Act → World → Prop) (n : Nat) : Nat → Array Bool → Act → World → Prop
  | 0, listed, a, w => Region.ready md ops listed = [] ∧ Q .normal a w
  | fuel + 1, listed, a, w =>
    (Region.ready md ops listed = [] → Q .normal a w) ∧
    ∀ i ∈ Region.ready md ops listed, wpOp P ops Q i (fun a' w' => (i < n → KeptOn S w w') ∧ wpRK S P md ops Q n fuel (listed.setIfInBounds i true) a' w') a w

theorem wpAny_of_RK {n : Nat} : ∀ (fuel : Nat) (listed : Array Bool) (a : Act) (w : World), wpRK S P md ops Q n fuel listed a w → wpAny P md ops Q fuel listed a w
  | 0, _, _, _, h => h
  | fuel + 1, _, _, _, h => ⟨h.1, fun i hi => wpOp_mono (fun a' w' h' => wpAny_of_RK fuel _ a' w' h'.2) (h.2 i hi)⟩

theorem YieldsIf.stayK {o : Oper} {v : Value} {a : Act} {w w' : World} (h : YieldsIf P ops (fun x => KeptOn S w x) o v a) (hb : KeptOn S w w') :
    YieldsIf P ops (fun x => KeptOn S w' x) o v a :=
  h.imp (fun ⟨h1, h2⟩ => ⟨h1, fun x hx => h2 x (hb.trans hx)⟩) id

theorem wpR_firstK2 {n i : Nat} {oi : Oper} {v : Value} (hi : ops[i]? = some oi) (hsel : ∀ (j : Nat) (o : Oper) cs b, ops[j]? = some o → o.op ≠ .select cs b)
    (hs : Region.sinkB md ops n = true) (hc : Region.chainB md ops n = true) (hn : n < ops.size) (hin : i < n)
    (hQ : ∀ c a w, Q (.panic c) (a.put oi.dst v) w → Q (.panic c) a w) :
    ∀ (fuel : Nat) (listed : Array Bool) (a : Act) (w : World), HeadInv md ops n listed →
      (∀ j oj, ops[j]? = some oj → j ≠ i → listed.getD j true = false → (∀ e ∈ oj.after, Region.binds md e = true → e.on ≠ i) → oi.apart ops oj = true) →
      i ∈ Region.ready md ops listed → YieldsIf P ops (fun x => KeptOn S w x) oi v a →
      wpRK S P md ops Q n fuel (listed.setIfInBounds i true) (a.put oi.dst v) w → wpRK S P md ops Q n (fuel + 1) listed a w := by
  intro fuel
  induction fuel with
  | zero =>
    intro listed a w _ _ hr hy H
    refine ⟨fun h => (by rw [h] at hr; cases hr), fun j hj => ?_⟩
    by_cases hji : j = i
    · subst hji; exact hy.wpOp hi (KeptOn.refl _ _) ⟨fun _ => KeptOn.refl _ _, H⟩
    · have := ready_mono hj hji
      rw [H.1] at this
      cases this
  | succ fuel ih =>
    intro listed a w inv hfree hr hy H
    have hun := (mem_ready.1 hr).1
    refine ⟨fun h => (by rw [h] at hr; cases hr), fun j hj => ?_⟩
    have hjn : j < n := by
      rcases Nat.lt_or_ge j n with h | h
      · exact h
      · exact absurd hj (tail_waits hs hc hn inv _ i rfl hin hun j h)
    by_cases hji : j = i
    · subst hji; exact hy.wpOp hi (KeptOn.refl _ _) ⟨fun _ => KeptOn.refl _ _, H⟩
    · have h1 := H.2 j (ready_mono hj hji)
      obtain ⟨hjun, oj, hoj, hall⟩ := mem_ready.1 hj
      have hnot : ∀ e ∈ oj.after, Region.binds md e = true → e.on ≠ i := fun e he hb heq => by
        have h1 := hall e he hb
        rw [heq, getD_both hun] at h1
        cases h1
      have h2 := wpOp_putIf hoj (hfree j oj hoj hji hjun hnot) (fun cs b => hsel i oi cs b hi) (fun cs b => hsel j oj cs b hoj) hQ hy h1
      have hfree' : ∀ k ok, ops[k]? = some ok → k ≠ i → (listed.setIfInBounds j true).getD k true = false →
          (∀ e ∈ ok.after, Region.binds md e = true → e.on ≠ i) → oi.apart ops ok = true := fun k ok hk hki hun hno => by
        refine hfree k ok hk hki ?_ hno
        by_cases hjk : j = k
        · subst hjk; exact hjun
        · rw [getD_set_ne true hjk] at hun; exact hun
      refine wpOp_mono (fun a' w' h3 => ⟨h3.2.1, ih (listed.setIfInBounds j true) a' w' (inv.set hj hjn) hfree' (ready_mono hr (Ne.symm hji)) (YieldsIf.stayK h3.1 (h3.2.1 hjn)) ?_⟩) h2
      rw [Array.setIfInBounds_comm _ _ hji]
      exact h3.2.2

/-- the walk in the chosen order -/
def wpOrdK (S : Nat → Prop) (P : Program) (ops : Array Oper) (Q : Exit → Act → World → Prop) (n : Nat) : List (Nat × Bool) → Act → World → Prop
  | [], a, w => wpList P ops Q (ops.toList.drop n) a w
  | (i, true) :: rest, a, w => ∃ o v, ops[i]? = some o ∧ YieldsIf P ops (fun x => KeptOn S w x) o v a ∧ (∀ c a w, Q (.panic c) (a.put o.dst v) w → Q (.panic c) a w) ∧ wpOrdK S P ops Q n rest (a.put o.dst v) w
  | (i, false) :: rest, a, w => wpOp P ops Q i (fun a' w' => KeptOn S w w' ∧ wpOrdK S P ops Q n rest a' w') a w

theorem wpR_of_seqK {n : Nat} {Q' : Exit → Act → World → Prop} : ∀ (l : List Oper) (k : Nat) (listed : Array Bool) (a : Act) (w : World), n ≤ k → (∀ j, l[j]? = ops[k + j]?) →
    Region.seqB md ops l.length k listed = true → wpList P ops Q' l a w → wpRK S P md ops Q' n l.length listed a w
  | [], _, _, _, _, _, _, hB, h => ⟨by simpa [Region.seqB] using hB, h⟩
  | o :: l, k, listed, a, w, hk, hl, hB, h => by
    have h0 : ops[k]? = some o := by simpa using (hl 0).symm
    simp only [List.length_cons, Region.seqB, Bool.and_eq_true, decide_eq_true_eq] at hB
    refine ⟨fun h1 => (by rw [hB.1] at h1; cases h1), fun i hi => ?_⟩
    rw [hB.1] at hi
    have hik : i = k := by simpa using hi
    subst hik
    have hw : wpOp P ops Q' i (wpList P ops Q' l) a w := by unfold wpOp; simp only [h0]; exact h
    exact wpOp_mono (fun a' w' h' => ⟨fun hlt => absurd hlt (by omega), wpR_of_seqK l (i + 1) _ a' w' (by omega) (fun j => by have := hl (j + 1); simpa [Nat.add_assoc, Nat.add_comm 1 j] using this) hB.2 h'⟩) hw

theorem wpR_of_ordK {n : Nat} (hsel : Region.noSelect ops = true) (hs : Region.sinkB md ops n = true) (hc : Region.chainB md ops n = true) (hn : n < ops.size) :
    ∀ (ord : List (Nat × Bool)) (listed : Array Bool) (a : Act) (w : World), HeadInv md ops n listed → ordB md ops n ord listed = true → wpOrdK S P ops Q n ord a w →
      wpRK S P md ops Q n (ord.length + (ops.size - n)) listed a w
  | [], listed, a, w, _, hB, h => by
    have := wpR_of_seqK (S := S) (md := md) (n := n) (Q' := Q) (ops.toList.drop n) n listed a w (Nat.le_refl _) (fun j => by simp [List.getElem?_drop]) (by simpa [ordB] using hB) h
    simpa using this
  | (i, true) :: rest, listed, a, w, inv, hB, h => by
    obtain ⟨o, v, ho, hy, hQ, h⟩ := h
    simp only [ordB, if_true, Bool.and_eq_true, decide_eq_true_eq] at hB
    obtain ⟨⟨⟨h1, h2⟩, h3⟩, h4⟩ := hB
    have hr : i ∈ Region.ready md ops listed := by simpa using h1
    have := wpR_firstK2 ho (Region.noSelect_spec hsel) hs hc hn h3 hQ _ listed a w inv (Region.free_spec ho h2) hr hy (wpR_of_ordK hsel hs hc hn rest _ _ w (inv.set hr h3) h4 h)
    rw [List.length_cons, show rest.length + 1 + (ops.size - n) = rest.length + (ops.size - n) + 1 by omega]
    exact this
  | (i, false) :: rest, listed, a, w, inv, hB, h => by
    simp only [ordB, Bool.false_eq_true, if_false, Bool.and_eq_true, decide_eq_true_eq] at hB
    obtain ⟨⟨h1, h3⟩, h4⟩ := hB
    have hr : i ∈ Region.ready md ops listed := by rw [h1]; simp
    rw [List.length_cons, show rest.length + 1 + (ops.size - n) = rest.length + (ops.size - n) + 1 by omega]
    refine ⟨fun h0 => (by rw [h0] at h1; cases h1), fun j hj => ?_⟩
    rw [h1] at hj
    obtain rfl : j = i := by simpa using hj
    exact wpOp_mono (fun a' w' h' => ⟨fun _ => h'.1, wpR_of_ordK hsel hs hc hn rest _ a' w' (inv.set hr h3) h4 h'.2⟩) h

/-- THE BEGINNING -/
theorem wp_region_eagerK {id : Nat} {a : Act} {w : World} (n : Nat) (ord : List (Nat × Bool)) (hm : P.follows .mixedOrders = true) (hB : eagerB .any ops n ord = true)
    (h : wpOrdK S P ops Q n ord a w.drew) : (Code.region id ops true).wp P Q a w := by
  simp only [eagerB, Bool.and_eq_true, decide_eq_true_eq] at hB
  obtain ⟨⟨⟨⟨⟨hsel, hn⟩, hl⟩, hs⟩, hc⟩, ho⟩ := hB
  have inv0 : HeadInv .any ops n (Array.replicate ops.size false) :=
    ⟨by simp, fun j oj _ hl => (by rw [getD_replicate_false] at hl; cases hl), fun t _ ht => getD_in (by simpa using ht) (getD_replicate_false _ _)⟩
  have := wpR_of_ordK (P := P) (Q := Q) hsel hs hc hn ord _ a w.drew inv0 ho h
  rw [hl, show n + (ops.size - n) = ops.size by omega] at this
  exact wp_region_any hm (wpAny_of_RK _ _ _ _ this)

/-- an operation that merely yields -/
theorem wpOrd_yieldK {n i : Nat} {rest : List (Nat × Bool)} {o : Oper} {v : Value} {a : Act} {w : World} (hi : ops.toList[i]? = some o) (hQ : ∀ c a w, Q (.panic c) (a.put o.dst v) w → Q (.panic c) a w)
    (hw : Region.wanted o (yielded ops a.tmps) = true) (hy : ∀ x, KeptOn S w x → (execOp a.eval o).run P x = .ok (.value v) x)
    (h : wpOrdK S P ops Q n rest (a.put o.dst v) w) : wpOrdK S P ops Q n ((i, true) :: rest) a w :=
  ⟨o, v, by rw [← Array.getElem?_toList]; exact hi, Or.inl ⟨hw, hy⟩, hQ, h⟩

/-- an operation that comes up alone: a call, a new variable -/
theorem wpOrd_stepK {n i : Nat} {rest : List (Nat × Bool)} {o : Oper} {a : Act} {w : World} (hi : ops.toList[i]? = some o) (hg : o.guard = none)
    (h : ∀ K : Act → World → Prop, (∀ a' w', KeptOn S w w' → wpOrdK S P ops Q n rest a' w' → K a' w') → o.wp P a w K Q) : wpOrdK S P ops Q n ((i, false) :: rest) a w := by
  have hw : Region.wanted o (yielded ops a.tmps) = true := by simp [Region.wanted, hg]
  rw [Array.getElem?_toList] at hi
  show wpOp P ops Q i _ a w
  unfold wpOp
  simp only [hi, hw, if_true]
  exact .inl (h _ fun a' w' h1 h2 => ⟨h1, h2⟩)

theorem wpOrd_nilK {n : Nat} {a : Act} {w : World} {l : List Oper} (hl : ops.toList.drop n = l) (h : wpList P ops Q l a w) : wpOrdK S P ops Q n [] a w := by
  subst hl; exact h

end
end Go.Proofs.YtgohdcccfkjooaaGreatDoor

namespace Go.Proofs.YtgohdcccfkjooaaGreatDoor
open Go.RowKit

theorem IR.at3 {N : Nat} {w : World} {a : Option Addr} {n c : Nat} {zs : List Int} (h : IR N w 3 a n c zs) {k : Nat} (hk : k < n) :
    ∃ b off, a = some ⟨b, off, none⟩ ∧ b < N ∧ w.cell? ⟨b, off + k * 3, none⟩ = some (.int .i64 (zs.getD (k * 3) 0)) ∧ w.cell? ⟨b, off + k * 3 + 1, none⟩ = some (.int .i64 (zs.getD (k * 3 + 1) 0)) ∧ w.cell? ⟨b, off + k * 3 + 2, none⟩ = some (.int .i64 (zs.getD (k * 3 + 2) 0)) := by
  obtain ⟨b, off, e, hb, hc⟩ := h.2.2 (by omega)
  exact ⟨b, off, e, hb, hc (k * 3) (by omega), hc (k * 3 + 1) (by omega), hc (k * 3 + 2) (by omega)⟩

theorem take3 {zs : List Int} {n k : Nat} (hl : zs.length = n * 3) (hk : k < n) : zs.take ((k + 1) * 3) = zs.take (k * 3) ++ [zs.getD (k * 3) 0, zs.getD (k * 3 + 1) 0, zs.getD (k * 3 + 2) 0] := by
  have e : ∀ j, j < zs.length → zs.take (j + 1) = zs.take j ++ [zs.getD j 0] := fun j hj => by
    rw [List.take_succ_eq_append_getElem hj]; simp [List.getD_eq_getElem?_getD, hj]
  rw [show (k + 1) * 3 = k * 3 + 2 + 1 by omega, e _ (by omega), show k * 3 + 2 = k * 3 + 1 + 1 by omega, e _ (by omega), e _ (by omega)]
  simp

set_option maxRecDepth 100000 in
set_option maxHeartbeats 1600000 in
theorem films_eq (xs ys : List Int) (a b : Option Addr) (n m c d : Nat) (w : World) (hx : IR w.heap.size w 3 a n c xs) (hy : IR w.heap.size w 3 b m d ys) (hn : n ≤ 1000000) (hm : m ≤ 1000000) :
    Calls Tryz.prog 241 #[.slice a n c, .slice b m d] w (RetB w (.bool (decide (xs = ys)))) := by
  have lx := hx.1
  have ly := hy.1
  have Hx := Lib.hid hx; have Hy := Lib.hid hy; have Lx := Lib.hid lx; have Ly := Lib.hid ly
  clear hx hy lx ly
  by_cases hnm : n = m
  · subst hnm
    go_enter Tryz.func241, Tryz.ntmps241
    go_wp2_with fail
    go_loopw [13] (fun iv wr => ∃ k : Nat, k ≤ n ∧ iv = .int .i64 (k : Int) ∧ xs.take (k * 3) = ys.take (k * 3) ∧ Below w.heap.size w wr) (fun iv _ => n - (intOf iv).toNat)
    case atStart => exact ⟨0, Nat.zero_le _, rfl, by simp, Below.refl _ _⟩
    case round =>
      obtain ⟨k, hk, rfl, ho, hb⟩ := hrel
      have Ho := Lib.hid ho; have Hb := Lib.hid hb
      clear ho hb
      by_cases hkn : k < n
      · obtain ⟨b1, o1, rfl, l1, x0, x1, x2⟩ := (Hx.out.go Hb.out).at3 hkn
        obtain ⟨b2, o2, rfl, l2, y0, y1, y2⟩ := (Hy.out.go Hb.out).at3 hkn
        have tx := take3 Lx.out hkn
        have ty := take3 Ly.out hkn
        generalize xs.getD (k * 3) 0 = p0 at *
        generalize xs.getD (k * 3 + 1) 0 = p1 at *
        generalize xs.getD (k * 3 + 2) 0 = p2 at *
        generalize ys.getD (k * 3) 0 = q0 at *
        generalize ys.getD (k * 3 + 1) 0 = q1 at *
        generalize ys.getD (k * 3 + 2) 0 = q2 at *
        have Tx := Lib.hid tx; have Ty := Lib.hid ty
        clear tx ty
        have hways : (p0 = q0 ∧ p1 = q1 ∧ p2 = q2) ∨ ¬ (p0 = q0 ∧ p1 = q1 ∧ p2 = q2) ∧ (((p0 == q0) = false) ∨ (p0 = q0 ∧ (p1 == q1) = false) ∨ (p0 = q0 ∧ p1 = q1 ∧ (p2 == q2) = false)) := by
          simp only [beq_eq_false_iff_ne]; omega
        rcases hways with ⟨rfl, rfl, rfl⟩ | ⟨hne, hw⟩
        · go_wp2_with fail
          go_quiet (fail)
          go_wp2_with fail
          go_roundw
          case rel => exact ⟨k + 1, by omega, by go_num, by rw [Tx.out, Ty.out, Ho.out], below_drewN Hb.out _⟩
          case measure => simp [intOf]; omega
        · have hd : xs ≠ ys := fun e => hne (by
            have h1 := Tx.out
            have h2 := Ty.out
            rw [e] at h1
            have h3 := h1.symm.trans h2
            have h4 := List.append_cancel_left h3
            simp at h4
            exact h4)
          have Hd := Lib.hid hd
          clear hne hd
          rcases hw with h1 | ⟨rfl, h1⟩ | ⟨rfl, rfl, h1⟩
          all_goals
            go_wp2_with fail
            go_quiet (fail)
            go_wp2
            go_ret
            exact ⟨by rw [decide_eq_false Hd.out]; rfl, below_drewN Hb.out _⟩
      · obtain rfl : k = n := by omega
        go_wp2
        go_ret
        refine ⟨?_, Hb.out⟩
        have := Ho.out
        rw [← Lx.out, List.take_length, Lx.out, ← Ly.out, List.take_length] at this
        simp [this]
  · have hq : ((n : Int) != (m : Int)) = true := by simp; omega
    have hne : xs ≠ ys := fun e => hnm (by have := Lx.out; have := Ly.out; subst e; omega)
    have Hne := Lib.hid hne; clear hne
    go_enter Tryz.func241, Tryz.ntmps241
    go_wp2
    go_ret
    exact ⟨by rw [decide_eq_false Hne.out]; rfl, Below.refl _ _⟩

theorem bytes_inj {a b : ByteArray} (h : a.toList = b.toList) : a = b := by
  rw [ByteArray.toList_eq, ByteArray.toList_eq] at h
  exact ByteArray.ext (Array.ext' h)

theorem surf_ext {s t : Surf} (d1 : s.kind = t.kind) (d2 : s.curv = t.curv) (d3 : s.conic = t.conic) (d4 : s.curvX = t.curvX) (d5 : s.conicX = t.conicX) (d6 : s.order = t.order) (d7 : s.thick = t.thick) (d8 : s.semi = t.semi) (d9 : s.hole = t.hole) (d10 : s.dx = t.dx) (d11 : s.dy = t.dy) (d12 : s.ax = t.ax) (d13 : s.ay = t.ay) (d14 : s.az = t.az)
    (d15 : s.a0 = t.a0) (d16 : s.a1 = t.a1) (d17 : s.a2 = t.a2) (d18 : s.a3 = t.a3) (d19 : s.p0 = t.p0) (d20 : s.p1 = t.p1) (d21 : s.glass.toList = t.glass.toList) : s = t := by
  have := bytes_inj d21
  cases s; cases t
  simp only [Surf.mk.injEq]
  exact ⟨d1, d2, d3, d4, d5, d15, d16, d17, d18, d19, d20, d6, d7, this, d8, d9, d10, d11, d12, d13, d14⟩

theorem run_load_surf {g : Nat} {s : Surf} {a : Option Addr} {n c : Nat} {ac : Act} {o : Oper} {x : Operand} {w : World} (h : SurfB w g s a n c) (ho : o.op = .load 70 x) (hx : ac.eval x = .pointer (some ⟨g, 0, none⟩)) :
    (execOp ac.eval o).run Tryz.prog w = .ok (.value (.agg #[.int .i64 s.kind, .int .i64 s.curv, .int .i64 s.conic, .int .i64 s.curvX, .int .i64 s.conicX, .int .i64 s.a0, .int .i64 s.a1, .int .i64 s.a2, .int .i64 s.a3, .int .i64 s.p0, .int .i64 s.p1, .int .i64 s.order, .int .i64 s.thick, .string s.glass, .int .i64 s.semi, .int .i64 s.hole, .int .i64 s.dx, .int .i64 s.dy, .int .i64 s.ax, .int .i64 s.ay, .int .i64 s.az, .slice a n c])) w := by
  unfold execOp
  simp only [ho, hx, Instr.loadAt, Instr.sureAddr, Sem.run_bind, Sem.run_pure, Result.andThen_ok, run_loadVar_mid w g 0 70 [.int .i64 s.kind, .int .i64 s.curv, .int .i64 s.conic, .int .i64 s.curvX, .int .i64 s.conicX, .int .i64 s.a0, .int .i64 s.a1, .int .i64 s.a2, .int .i64 s.a3, .int .i64 s.p0, .int .i64 s.p1, .int .i64 s.order, .int .i64 s.thick, .string s.glass, .int .i64 s.semi, .int .i64 s.hole, .int .i64 s.dx, .int .i64 s.dy, .int .i64 s.ax, .int .i64 s.ay, .int .i64 s.az, .slice a n c] _ h.range Tryz.underlying70 rfl Tryz.infoSurf]


theorem eq_items (d : Nat) {e : TypeId} {k' : IntKind} (he : Tryz.prog.underlying e = some (.int k')) (xs ys : List Int) (n : Nat) (hx : xs.length = n) (hy : ys.length = n) (w : World) : ∀ is : List Nat, (∀ j ∈ is, j < n) →
    (Op.eqItems (d + 1) e 1 (xs.map (Value.int .i64)).toArray (ys.map (Value.int .i64)).toArray is).run Tryz.prog w = .ok (is.all fun j => xs.getD j 0 == ys.getD j 0) w
  | [], _ => rfl
  | j :: is, h => by
    have hj : j < n := h j (List.mem_cons_self ..)
    have ih := eq_items d he xs ys n hx hy w is (fun i hi => h i (List.mem_cons_of_mem _ hi))
    have hp : Tryz.prog.plainKey e = true := by simp [Program.plainKey, he]
    have p1 := run_part_plain (P := Tryz.prog) w hp (xs := (xs.map (Value.int .i64)).toArray) (off := j * 1) (v := .int .i64 (xs.getD j 0)) (by simp [show j < xs.length by omega, List.getD_eq_getElem?_getD])
    have p2 := run_part_plain (P := Tryz.prog) w hp (xs := (ys.map (Value.int .i64)).toArray) (off := j * 1) (v := .int .i64 (ys.getD j 0)) (by simp [show j < ys.length by omega, List.getD_eq_getElem?_getD])
    simp only [Op.eqItems, Sem.run_bind, p1, p2, Result.andThen_ok, run_equalIn_int w d e .i64 k' _ _ he]
    cases hc : (xs.getD j 0 == ys.getD j 0) with
    | true => simp only [Bool.not_true, Bool.false_eq_true, if_false, List.all_cons, hc, Bool.true_and]; exact ih
    | false => simp only [Bool.not_false, if_true, Sem.run_pure, List.all_cons, hc, Bool.false_and]

theorem all_eq {xs ys : List Int} {n : Nat} (hx : xs.length = n) (hy : ys.length = n) : ((List.range n).all fun j => xs.getD j 0 == ys.getD j 0) = decide (xs = ys) := by
  rw [Bool.eq_iff_iff, List.all_eq_true, decide_eq_true_eq]
  constructor
  · intro h
    apply List.ext_getElem (by omega)
    intro i h1 h2
    have := h i (List.mem_range.2 (by omega))
    simpa [List.getD_eq_getElem?_getD, h1, h2] using this
  · rintro rfl j _
    simp

theorem eq_ints (d : Nat) {t e : TypeId} {n : Nat} {k' : IntKind} (hu : Tryz.prog.underlying t = some (.array n e)) (hi : (Tryz.prog.info? e).isSome = true) (he : Tryz.prog.underlying e = some (.int k')) (hc : Tryz.prog.cellsOf e = 1) (xs ys : List Int) (hx : xs.length = n) (hy : ys.length = n) (w : World) :
    (Op.equalIn (d + 2) t (.agg (xs.map (Value.int .i64)).toArray) (.agg (ys.map (Value.int .i64)).toArray)).run Tryz.prog w = .ok (decide (xs = ys)) w := by
  obtain ⟨i, hi⟩ := Option.isSome_iff_exists.1 hi
  rw [run_equalIn_array w (d + 1) _ _ hu hi, hc, eq_items d he xs ys n hx hy w (List.range n) (fun j hj => List.mem_range.1 hj), all_eq hx hy]

theorem eq16 (s t : Surf) (w : World) : (Op.equalIn 9999 315 (.agg #[.int .i64 s.kind, .int .i64 s.curv, .int .i64 s.conic, .int .i64 s.curvX, .int .i64 s.conicX, .int .i64 s.order, .int .i64 s.thick, .int .i64 s.semi, .int .i64 s.hole, .int .i64 s.dx, .int .i64 s.dy, .int .i64 s.ax, .int .i64 s.ay, .int .i64 s.az, .int .i64 0, .int .i64 0]) (.agg #[.int .i64 t.kind, .int .i64 t.curv, .int .i64 t.conic, .int .i64 t.curvX, .int .i64 t.conicX, .int .i64 t.order, .int .i64 t.thick, .int .i64 t.semi, .int .i64 t.hole, .int .i64 t.dx, .int .i64 t.dy, .int .i64 t.ax, .int .i64 t.ay, .int .i64 t.az, .int .i64 0, .int .i64 0])).run Tryz.prog w = .ok (decide ([s.kind, s.curv, s.conic, s.curvX, s.conicX, s.order, s.thick, s.semi, s.hole, s.dx, s.dy, s.ax, s.ay, s.az, 0, 0] = [t.kind, t.curv, t.conic, t.curvX, t.conicX, t.order, t.thick, t.semi, t.hole, t.dx, t.dy, t.ax, t.ay, t.az, 0, 0])) w :=
  eq_ints 9997 (n := 16) (k' := .i64) Tryz.underlying315 (by kernel_rfl) Tryz.underlying3 (by kernel_rfl) [s.kind, s.curv, s.conic, s.curvX, s.conicX, s.order, s.thick, s.semi, s.hole, s.dx, s.dy, s.ax, s.ay, s.az, 0, 0] [t.kind, t.curv, t.conic, t.curvX, t.conicX, t.order, t.thick, t.semi, t.hole, t.dx, t.dy, t.ax, t.ay, t.az, 0, 0] rfl rfl w
theorem eq4 (s t : Surf) (w : World) : (Op.equalIn 9999 64 (.agg #[.int .i64 s.a0, .int .i64 s.a1, .int .i64 s.a2, .int .i64 s.a3]) (.agg #[.int .i64 t.a0, .int .i64 t.a1, .int .i64 t.a2, .int .i64 t.a3])).run Tryz.prog w = .ok (decide ([s.a0, s.a1, s.a2, s.a3] = [t.a0, t.a1, t.a2, t.a3])) w :=
  eq_ints 9997 (n := 4) (k' := .i64) Tryz.underlying64 (by kernel_rfl) Tryz.underlying3 (by kernel_rfl) [s.a0, s.a1, s.a2, s.a3] [t.a0, t.a1, t.a2, t.a3] rfl rfl w
theorem eq2 (s t : Surf) (w : World) : (Op.equalIn 9999 65 (.agg #[.int .i64 s.p0, .int .i64 s.p1]) (.agg #[.int .i64 t.p0, .int .i64 t.p1])).run Tryz.prog w = .ok (decide ([s.p0, s.p1] = [t.p0, t.p1])) w :=
  eq_ints 9997 (n := 2) (k' := .i64) Tryz.underlying65 (by kernel_rfl) Tryz.underlying3 (by kernel_rfl) [s.p0, s.p1] [t.p0, t.p1] rfl rfl w

set_option maxRecDepth 100000 in
set_option maxHeartbeats 1600000 in
theorem sameS_any (s t : Surf) (xs ys : List Int) (a b : Option Addr) (n m c d : Nat) (w : World) (hx : IR w.heap.size w 3 a n c xs) (hy : IR w.heap.size w 3 b m d ys) (hn : n ≤ 1000000) (hm : m ≤ 1000000) :
    Calls Tryz.prog 201 #[.agg #[.int .i64 s.kind, .int .i64 s.curv, .int .i64 s.conic, .int .i64 s.curvX, .int .i64 s.conicX, .int .i64 s.a0, .int .i64 s.a1, .int .i64 s.a2, .int .i64 s.a3, .int .i64 s.p0, .int .i64 s.p1, .int .i64 s.order, .int .i64 s.thick, .string s.glass, .int .i64 s.semi, .int .i64 s.hole, .int .i64 s.dx, .int .i64 s.dy, .int .i64 s.ax, .int .i64 s.ay, .int .i64 s.az, .slice a n c], .agg #[.int .i64 t.kind, .int .i64 t.curv, .int .i64 t.conic, .int .i64 t.curvX, .int .i64 t.conicX, .int .i64 t.a0, .int .i64 t.a1, .int .i64 t.a2, .int .i64 t.a3, .int .i64 t.p0, .int .i64 t.p1, .int .i64 t.order, .int .i64 t.thick, .string t.glass, .int .i64 t.semi, .int .i64 t.hole, .int .i64 t.dx, .int .i64 t.dy, .int .i64 t.ax, .int .i64 t.ay, .int .i64 t.az, .slice b m d]] w (RetB w (.bool (decide (s = t) && decide (xs = ys)))) := by
  obtain ⟨e1, e2⟩ := heap_two w (.cells #[.int .i64 s.kind, .int .i64 s.curv, .int .i64 s.conic, .int .i64 s.curvX, .int .i64 s.conicX, .int .i64 s.a0, .int .i64 s.a1, .int .i64 s.a2, .int .i64 s.a3, .int .i64 s.p0, .int .i64 s.p1, .int .i64 s.order, .int .i64 s.thick, .string s.glass, .int .i64 s.semi, .int .i64 s.hole, .int .i64 s.dx, .int .i64 s.dy, .int .i64 s.ax, .int .i64 s.ay, .int .i64 s.az, .slice a n c] 70) (.cells #[.int .i64 t.kind, .int .i64 t.curv, .int .i64 t.conic, .int .i64 t.curvX, .int .i64 t.conicX, .int .i64 t.a0, .int .i64 t.a1, .int .i64 t.a2, .int .i64 t.a3, .int .i64 t.p0, .int .i64 t.p1, .int .i64 t.order, .int .i64 t.thick, .string t.glass, .int .i64 t.semi, .int .i64 t.hole, .int .i64 t.dx, .int .i64 t.dy, .int .i64 t.ax, .int .i64 t.ay, .int .i64 t.az, .slice b m d] 70)
  have hb := below_two (w := w) (.cells #[.int .i64 s.kind, .int .i64 s.curv, .int .i64 s.conic, .int .i64 s.curvX, .int .i64 s.conicX, .int .i64 s.a0, .int .i64 s.a1, .int .i64 s.a2, .int .i64 s.a3, .int .i64 s.p0, .int .i64 s.p1, .int .i64 s.order, .int .i64 s.thick, .string s.glass, .int .i64 s.semi, .int .i64 s.hole, .int .i64 s.dx, .int .i64 s.dy, .int .i64 s.ax, .int .i64 s.ay, .int .i64 s.az, .slice a n c] 70) (.cells #[.int .i64 t.kind, .int .i64 t.curv, .int .i64 t.conic, .int .i64 t.curvX, .int .i64 t.conicX, .int .i64 t.a0, .int .i64 t.a1, .int .i64 t.a2, .int .i64 t.a3, .int .i64 t.p0, .int .i64 t.p1, .int .i64 t.order, .int .i64 t.thick, .string t.glass, .int .i64 t.semi, .int .i64 t.hole, .int .i64 t.dx, .int .i64 t.dy, .int .i64 t.ax, .int .i64 t.ay, .int .i64 t.az, .slice b m d] 70)
  have Hx := Lib.hid hx; have Hy := Lib.hid hy; have E1 := Lib.hid e1; have E2 := Lib.hid e2; have Hb := Lib.hid hb
  clear hx hy e1 e2 hb
  go_enter Tryz.func201, Tryz.ntmps201
  go_wp2_with fail
  refine step_world (fun wx => SurfB wx w.heap.size s a n c ∧ SurfB wx (w.heap.size + 1) t b m d ∧ Below w.heap.size w wx) ⟨E1.out, E2.out, Hb.out⟩ ?_
  clear E1 E2 Hb
  rintro w1 ⟨h1, h2, hb⟩
  have hl1 := h1.lt
  have hl2 := h2.lt
  by_cases hst : s = t
  · subst hst
    refine wp_region_floats 15 [] [] [(0, true), (1, true), (3, true), (4, true), (2, false), (5, false), (6, true), (7, true), (8, true), (9, true), (10, true), (11, true), (12, false), (13, true), (14, true)] (by kernel_rfl) (by kernel_rfl) ⟨by simp, by simp, fun _ h => by cases h⟩ (fun _ _ _ _ _ h => h) (fun _ _ o _ _ h => by cases o <;> exact h) ?_
    refine wpG_yield (v := ?_) rfl rfl (by rfl) ?_ ?_
    rotate_left
    · intro y hy
      go_simp
      with_reducible rfl
    refine wpG_yield rfl rfl (by rfl) (fun y hy => run_load_surf (SurfB.go h1 (below_undrew (k := 1) hy) hl1) rfl rfl) ?_
    refine wpG_yield (v := ?_) rfl rfl (by rfl) ?_ ?_
    rotate_left
    · intro y hy
      go_simp
      with_reducible rfl
    refine wpG_yield rfl rfl (by rfl) (fun y hy => run_load_surf (SurfB.go h2 (below_undrew (k := 1) hy) hl2) rfl rfl) ?_
    try simp only [Act.put, List.setIfInBounds_toArray, List.set_cons_zero, List.set_cons_succ]
    refine wpG_step rfl rfl (fun x1 hx1 K hK => ?_)
    go_simp
    refine (of_fields s a n c _).mono ?_
    rintro e w2 ⟨rfl, hb2⟩
    refine hK _ _ hb2 ?_
    clear hK K
    refine wpG_step rfl rfl (fun x2 hx2 K hK => ?_)
    go_simp
    refine (of_fields s b m d _).mono ?_
    rintro e w3 ⟨rfl, hb3⟩
    refine hK _ _ hb3 ?_
    clear hK K
    try simp only [Act.put, List.setIfInBounds_toArray, List.set_cons_zero, List.set_cons_succ]
    have hw1 : Below w1.heap.size w1 x1 := below_undrew (k := 1) hx1
    have hw3 : Below w1.heap.size w1 w3 := below_chain (below_chain (below_chain hw1 hb2) hx2) hb3
    have g1 := SurfB.go h1 hw3 hl1
    have g2 := SurfB.go h2 hw3 hl2
    refine wpG_yield (v := .bool true) rfl rfl (by rfl) ?_ ?_
    · intro y hy
      have q16 := eq16 s s y
      have q4 := eq4 s s y
      have q2 := eq2 s s y
      unfold fieldsV
      go_simp
    try simp only [Act.put, List.setIfInBounds_toArray, List.set_cons_zero, List.set_cons_succ]
    refine wpG_pure (v := ?_) rfl (by rfl) ?_ ?_
    rotate_left
    · intro z
      go_simp
      with_reducible rfl
    try simp only [Act.put, List.setIfInBounds_toArray, List.set_cons_zero, List.set_cons_succ]
    iterate 4
      refine wpG_yield (v := ?_) rfl rfl (by rfl) ?_ ?_
      rotate_left
      · intro y hy
        obtain ⟨y0, y1, y2, y3, y4, y5, y6, y7, y8, y9, y10, y11, y12, y13, y14, y15, y16, y17, y18, y19, y20, y21⟩ := SurfB.cells (SurfB.go g1 hy g1.lt)
        obtain ⟨z0, z1, z2, z3, z4, z5, z6, z7, z8, z9, z10, z11, z12, z13, z14, z15, z16, z17, z18, z19, z20, z21⟩ := SurfB.cells (SurfB.go g2 hy g2.lt)
        go_simp
        with_reducible rfl
      try simp only [Act.put, List.setIfInBounds_toArray, List.set_cons_zero, List.set_cons_succ]
    refine wpG_stepw rfl (by rfl) (fun x3 hx3 K hK => ?_)
    go_simp
    have hwx : Below w.heap.size w x3 := below_chain hb (hw3.trans (hx3.mono hw3.size))
    refine (films_eq xs ys a b n m c d _ (Hx.out.go hwx) (Hy.out.go hwx) hn hm).mono ?_
    rintro e w4 ⟨rfl, hb4⟩
    refine hK _ _ hb4 ?_
    clear hK K
    try simp only [Act.put, List.setIfInBounds_toArray, List.set_cons_zero, List.set_cons_succ]
    iterate 2
      refine wpG_pure (v := ?_) rfl (by rfl) ?_ ?_
      rotate_left
      · intro z
        go_simp
        with_reducible rfl
      try simp only [Act.put, List.setIfInBounds_toArray, List.set_cons_zero, List.set_cons_succ]
    refine wpG_nil0 rfl (fun w5 hb5 => ?_)
    have B5 := Lib.hid (below_chain (below_chain hwx hb4) hb5)
    clear hb hb2 hb3 hb4 hb5 hx1 hx2 hx3 hw1 hw3 hwx g1 g2 h1 h2
    go_wp2
    go_ret
    exact ⟨by simp, B5.out⟩
  · have Hst := Lib.hid hst; clear hst
    refine wp_region_floats 15 [] [] [(0, true), (1, true), (3, true), (4, true), (2, false), (5, false), (6, true), (7, true), (8, true), (9, true), (10, true), (11, true), (12, true), (13, true), (14, true)] (by kernel_rfl) (by kernel_rfl) ⟨by simp, by simp, fun _ h => by cases h⟩ (fun _ _ _ _ _ h => h) (fun _ _ o _ _ h => by cases o <;> exact h) ?_
    refine wpG_yield (v := ?_) rfl rfl (by rfl) ?_ ?_
    rotate_left
    · intro y hy
      go_simp
      with_reducible rfl
    refine wpG_yield rfl rfl (by rfl) (fun y hy => run_load_surf (SurfB.go h1 (below_undrew (k := 1) hy) hl1) rfl rfl) ?_
    refine wpG_yield (v := ?_) rfl rfl (by rfl) ?_ ?_
    rotate_left
    · intro y hy
      go_simp
      with_reducible rfl
    refine wpG_yield rfl rfl (by rfl) (fun y hy => run_load_surf (SurfB.go h2 (below_undrew (k := 1) hy) hl2) rfl rfl) ?_
    try simp only [Act.put, List.setIfInBounds_toArray, List.set_cons_zero, List.set_cons_succ]
    refine wpG_step rfl rfl (fun x1 hx1 K hK => ?_)
    go_simp
    refine (of_fields s a n c _).mono ?_
    rintro e w2 ⟨rfl, hb2⟩
    refine hK _ _ hb2 ?_
    clear hK K
    refine wpG_step rfl rfl (fun x2 hx2 K hK => ?_)
    go_simp
    refine (of_fields t b m d _).mono ?_
    rintro e w3 ⟨rfl, hb3⟩
    refine hK _ _ hb3 ?_
    clear hK K
    try simp only [Act.put, List.setIfInBounds_toArray, List.set_cons_zero, List.set_cons_succ]
    have hw1 : Below w1.heap.size w1 x1 := below_undrew (k := 1) hx1
    have hw3 : Below w1.heap.size w1 w3 := below_chain (below_chain (below_chain hw1 hb2) hx2) hb3
    have g1 := SurfB.go h1 hw3 hl1
    have g2 := SurfB.go h2 hw3 hl2
    refine wpG_yield (v := .bool false) rfl rfl (by rfl) ?_ ?_
    · intro y hy
      have q16 := eq16 s t y
      have q4 := eq4 s t y
      have q2 := eq2 s t y
      unfold fieldsV
      go_simp
      intro d1 d2 d3 d4 d5 d6 d7 d8 d9 d10 d11 d12 d13 d14 d15 d16 d17 d18 d19 d20 d21
      exact Hst.out (surf_ext d1 d2 d3 d4 d5 d6 d7 d8 d9 d10 d11 d12 d13 d14 d15 d16 d17 d18 d19 d20 d21)
    try simp only [Act.put, List.setIfInBounds_toArray, List.set_cons_zero, List.set_cons_succ]
    refine wpG_pure (v := ?_) rfl (by rfl) ?_ ?_
    rotate_left
    · intro z
      go_simp
      with_reducible rfl
    try simp only [Act.put, List.setIfInBounds_toArray, List.set_cons_zero, List.set_cons_succ]
    iterate 5
      refine wpG_skip rfl (by rfl) ?_
      try simp only [Act.put, List.setIfInBounds_toArray, List.set_cons_zero, List.set_cons_succ]
    iterate 2
      refine wpG_pure (v := ?_) rfl (by rfl) ?_ ?_
      rotate_left
      · intro z
        go_simp
        with_reducible rfl
      try simp only [Act.put, List.setIfInBounds_toArray, List.set_cons_zero, List.set_cons_succ]
    refine wpG_nil0 rfl (fun w5 hb5 => ?_)
    have B5 := Lib.hid (below_chain hb (hw3.trans (hb5.mono hw3.size)))
    clear hb hb2 hb3 hb5 hx1 hx2 hw1 hw3 g1 g2 h1 h2
    go_wp2
    go_ret
    exact ⟨by simp [Hst.out], B5.out⟩

end Go.Proofs.YtgohdcccfkjooaaGreatDoor

namespace Go.Proofs.YtgohdcccfkjooaaGreatDoor
open Go.RowKit

def test1 (s : Surf) (zs : List Int) : Bool := !outB 1 4 [s.kind] && (decide (s = keptS s) && decide (zs = if s.kind ≤ 2 then zs else []))

theorem in_range {k : Int} (h : (!outB 1 4 [k]) = true) : 1 ≤ k ∧ k ≤ 4 := by
  simp [outB] at h; omega

set_option maxRecDepth 100000 in
set_option maxHeartbeats 1600000 in
theorem lit_test1 (s : Surf) (zs : List Int) (a : Option Addr) (n c g : Nat) (w : World) (h : SurfB w g s a n c) (hz : IR w.heap.size w 3 a n c zs) (hn : n ≤ 1000000) :
    Calls Tryz.prog 199 #[.pointer (some ⟨g, 0, none⟩)] w (RetB w (.bool (test1 s zs))) := by
  have hl := h.lt
  cases h1 : (!outB 1 4 [s.kind]) with
  | false =>
    have H1 := Lib.hid h1; clear h1 hz
    go_enter Tryz.func199, Tryz.ntmps199
    go_wp2_with fail
    refine wp_region_floats 11 [] [] [(0, true), (1, true), (2, false), (3, false), (4, true), (5, true), (6, true), (7, true), (8, true), (9, true), (10, true)] (by kernel_rfl) (by kernel_rfl) ⟨by simp, by simp, fun _ h => by cases h⟩ (fun _ _ _ _ _ h => h) (fun _ _ o _ _ h => by cases o <;> exact h) ?_
    iterate 2
      refine wpG_yield (v := ?_) rfl rfl (by rfl) ?_ ?_
      rotate_left
      · intro y hy
        obtain ⟨y0, y1, y2, y3, y4, y5, y6, y7, y8, y9, y10, y11, y12, y13, y14, y15, y16, y17, y18, y19, y20, y21⟩ := SurfB.cells (SurfB.go h (below_undrew (k := 1) hy) hl)
        go_simp
        with_reducible rfl
      try simp only [Act.put, List.setIfInBounds_toArray, List.set_cons_zero, List.set_cons_succ]
    refine wpG_step rfl rfl (fun x1 hx1 K hK => ?_)
    go_simp
    refine hK _ _ ((Below.refl _ _).alloc (Nat.le_refl _) _) ?_
    clear hK K
    try simp only [Act.put, List.setIfInBounds_toArray, List.set_cons_zero, List.set_cons_succ]
    refine wpG_step rfl rfl (fun x2 hx2 K hK => ?_)
    go_simp
    have hw1 : Below w.heap.size w x1 := below_undrew (k := 1) hx1
    have hw2 : Below w.heap.size w x2 := hw1.trans ((below_alloc hx2).mono hw1.size)
    have hs2 : SL x2.heap.size x2 (some ⟨x1.heap.size, 0, none⟩) 1 1 [s.kind] := (sl1 rfl).go hx2
    refine (between_any 1 4 [s.kind] _ 1 1 _ hs2 (by omega)).mono ?_
    rintro e w2 ⟨he, hb2⟩
    rw [H1.out] at he
    subst he
    refine hK _ _ hb2 ?_
    clear hK K
    try simp only [Act.put, List.setIfInBounds_toArray, List.set_cons_zero, List.set_cons_succ]
    refine wpG_pure (v := ?_) rfl (by rfl) ?_ ?_
    rotate_left
    · intro z
      go_simp
      with_reducible rfl
    try simp only [Act.put, List.setIfInBounds_toArray, List.set_cons_zero, List.set_cons_succ]
    iterate 4
      refine wpG_skip rfl (by rfl) ?_
      try simp only [Act.put, List.setIfInBounds_toArray, List.set_cons_zero, List.set_cons_succ]
    iterate 2
      refine wpG_pure (v := ?_) rfl (by rfl) ?_ ?_
      rotate_left
      · intro z
        go_simp
        with_reducible rfl
      try simp only [Act.put, List.setIfInBounds_toArray, List.set_cons_zero, List.set_cons_succ]
    refine wpG_nil0 rfl (fun w5 hb5 => ?_)
    have B5 := Lib.hid (below_chain (below_chain hw2 hb2) hb5)
    clear hb2 hb5 hx1 hx2 hw1 hw2 hs2 h
    go_wp2
    go_ret
    exact ⟨by unfold test1; rw [H1.out]; rfl, B5.out⟩
  | true =>
    have H1 := Lib.hid h1; clear h1
    go_enter Tryz.func199, Tryz.ntmps199
    go_wp2_with fail
    have hk := in_range H1.out
    refine wp_region_floats 11 [] [] [(0, true), (1, true), (2, false), (3, false), (4, true), (5, true), (6, true), (7, false), (8, false), (9, true), (10, true)] (by kernel_rfl) (by kernel_rfl) ⟨by simp, by simp, fun _ h => by cases h⟩ (fun _ _ _ _ _ h => h) (fun _ _ o _ _ h => by cases o <;> exact h) ?_
    iterate 2
      refine wpG_yield (v := ?_) rfl rfl (by rfl) ?_ ?_
      rotate_left
      · intro y hy
        obtain ⟨y0, y1, y2, y3, y4, y5, y6, y7, y8, y9, y10, y11, y12, y13, y14, y15, y16, y17, y18, y19, y20, y21⟩ := SurfB.cells (SurfB.go h (below_undrew (k := 1) hy) hl)
        go_simp
        with_reducible rfl
      try simp only [Act.put, List.setIfInBounds_toArray, List.set_cons_zero, List.set_cons_succ]
    refine wpG_step rfl rfl (fun x1 hx1 K hK => ?_)
    go_simp
    refine hK _ _ ((Below.refl _ _).alloc (Nat.le_refl _) _) ?_
    clear hK K
    try simp only [Act.put, List.setIfInBounds_toArray, List.set_cons_zero, List.set_cons_succ]
    refine wpG_step rfl rfl (fun x2 hx2 K hK => ?_)
    go_simp
    have hw1 : Below w.heap.size w x1 := below_undrew (k := 1) hx1
    have hw2 : Below w.heap.size w x2 := hw1.trans ((below_alloc hx2).mono hw1.size)
    have hs2 : SL x2.heap.size x2 (some ⟨x1.heap.size, 0, none⟩) 1 1 [s.kind] := (sl1 rfl).go hx2
    refine (between_any 1 4 [s.kind] _ 1 1 _ hs2 (by omega)).mono ?_
    rintro e w2 ⟨he, hb2⟩
    rw [H1.out] at he
    subst he
    refine hK _ _ hb2 ?_
    clear hK K
    try simp only [Act.put, List.setIfInBounds_toArray, List.set_cons_zero, List.set_cons_succ]
    refine wpG_pure (v := ?_) rfl (by rfl) ?_ ?_
    rotate_left
    · intro z
      go_simp
      with_reducible rfl
    try simp only [Act.put, List.setIfInBounds_toArray, List.set_cons_zero, List.set_cons_succ]
    have hw3 := below_chain hw2 hb2
    iterate 2
      refine wpG_yield rfl rfl (by rfl) (fun y hy => run_load_surf (SurfB.go h (hw3.trans (hy.mono hw3.size)) hl) rfl rfl) ?_
    try simp only [Act.put, List.setIfInBounds_toArray, List.set_cons_zero, List.set_cons_succ]
    refine wpG_stepw rfl (by rfl) (fun x3 hx3 K hK => ?_)
    go_simp
    refine (kept_any s a n c _ hk.1 hk.2).mono ?_
    rintro e w4 ⟨a', n', c', ⟨rfl, hb4⟩, hcoat⟩
    refine hK _ _ hb4 ?_
    clear hK K
    have hw4 := hw3.trans ((hx3.trans (hb4.mono hx3.size)).mono hw3.size)
    try simp only [Act.put, List.setIfInBounds_toArray, List.set_cons_zero, List.set_cons_succ]
    refine wpG_stepw rfl (by rfl) (fun x4 hx4 K hK => ?_)
    go_simp
    have hw5 := hw4.trans (hx4.mono hw4.size)
    have hir : IR x4.heap.size x4 3 a' n' c' (if s.kind ≤ 2 then zs else []) ∧ n' ≤ 1000000 := by
      rcases hcoat with ⟨q1, rfl, rfl, rfl⟩ | ⟨q1, rfl, rfl, rfl⟩
      · rw [if_pos q1]; exact ⟨hz.go hw5, hn⟩
      · rw [if_neg (by omega)]; exact ⟨IR.nil _ _ _ _ _, by omega⟩
    refine (sameS_any s (keptS s) zs _ a a' n n' c c' _ (hz.go hw5) hir.1 hn hir.2).mono ?_
    rintro e w6 ⟨rfl, hb6⟩
    refine hK _ _ hb6 ?_
    clear hK K
    try simp only [Act.put, List.setIfInBounds_toArray, List.set_cons_zero, List.set_cons_succ]
    iterate 2
      refine wpG_pure (v := ?_) rfl (by rfl) ?_ ?_
      rotate_left
      · intro z
        go_simp
        with_reducible rfl
      try simp only [Act.put, List.setIfInBounds_toArray, List.set_cons_zero, List.set_cons_succ]
    refine wpG_nil0 rfl (fun w7 hb7 => ?_)
    have B5 := Lib.hid (below_chain (below_chain hw5 hb6) hb7)
    clear hb2 hb4 hb6 hb7 hx1 hx2 hx3 hx4 hw1 hw2 hw3 hw4 hw5 hs2 h hz hir hcoat
    go_wp2
    go_ret
    exact ⟨by unfold test1; rw [H1.out]; simp, B5.out⟩

end Go.Proofs.YtgohdcccfkjooaaGreatDoor
