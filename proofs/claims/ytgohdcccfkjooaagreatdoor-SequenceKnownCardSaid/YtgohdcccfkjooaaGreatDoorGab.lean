/-
  DERIVED. Several texts in one: KRefH, KRefI, RegionB, KRefJ, Reads, LensD, SurfA, SurfC, SurfD, RndP, RngA, Shelf.
-/
import Derived.Test.YtgohdcccfkjooaaGreatDoorGaa
import Derived.WalkKit
import Derived.OrdersHeld
import Derived.StillTail
import Derived.Deep.MidRow
import Derived.Laws.ResultCell
import Derived.Laws.Rows
import Derived.Deep.DeepCutAuto
import Derived.Deep.CutBlock
import Derived.RangeFuncRecord
import Derived.Test.YtgohdcccfkjooaaGreatDoorProg
import Derived.RangeFuncLeaves
import Derived.Shelf.Strings.Builder1
import Derived.Shelf.Strings.Builder2
import Derived.Shelf.Strings.OnBuilder
import Derived.Shelf.Strings.Trim
import Derived.Shelf.Small.Utf8
import Derived.Shelf.Small.Strs
import Derived.Shelf.Strings.BuilderF
import Derived.Shelf.Strings.BuilderK
import Derived.Shelf.Utf8.RuneCount
import Derived.Shelf.Strings.Builder2Cap
import Derived.Shelf.Strconv.Atoi
import Derived.Shelf.Strconv.Itoa0
import Derived.Shelf.Strconv.Itoa1
import Derived.Shelf.LaysM
import Derived.Shelf.Strconv.Itoa2
import Derived.Shelf.Strconv.Itoa3
import Derived.Shelf.Strconv.AtoiErrFast
import Derived.Shelf.Strconv.ParseIntEmpty
import Derived.Shelf.Strconv.AtoiFail
import Derived.Shelf.Strconv.Clone
import Derived.Shelf.Strconv.SyntaxError
import Derived.Shelf.LaysC
import Derived.Shelf.Strconv.ToError
import Derived.Shelf.Strconv.Lower
import Derived.Shelf.Strconv.ParseUint10
import Derived.Shelf.Strconv.ParseUint10Empty
import Derived.Shelf.Strconv.ParseUint10Any
import Derived.Shelf.Strconv.ParseInt10
import Derived.Shelf.Strconv.AtoiLong
import Derived.Shelf.Strconv.AtoiInnerAll
import Derived.Shelf.Strconv.RangeError
import Derived.Shelf.Strconv.ToErrorRange
import Derived.Shelf.Strconv.AtoiAll
import Derived.Shelf.Strconv.ErrVarAll
import Derived.Shelf.Strconv.ParseUintEmpty
import Derived.Shelf.Strconv.ParseUint10b64
import Derived.Shelf.Strconv.ParseUint10b32
import Derived.Shelf.Strconv.ParseUint10b16
import Derived.Shelf.Strconv.ParseUint10b8
import Derived.Shelf.Strings.Search1
import Derived.Shelf.Strings.Search2
import Derived.Shelf.Strings.Search3
import Derived.Shelf.Strings.Cut
import Derived.Shelf.Strings.Count
import Derived.Shelf.Strings.Shaped
import Derived.Shelf.Strings.Prefix
import Derived.Shelf.Strings.Split
import Derived.Shelf.Strings.Replace
import Derived.Shelf.Strings.SplitShaped
import Derived.Shelf.Unicode.Decode
import Derived.Shelf.Strings.Runes
import Derived.Shelf.Strings.RuneCount
import Derived.Shelf.Strings.AsciiSet
import Derived.Shelf.Strings.Explode
import Derived.Shelf.Bits.Mul64
import Derived.Shelf.Strings.Repeat
import Derived.Shelf.Unicode.DecodeSlow
import Derived.Shelf.Unicode.DecodeAny
import Derived.Shelf.Unicode.DecodeLast
import Derived.Shelf.Strings.FieldsFuncAny
import Derived.Shelf.Strings.FieldsFuncGrows
import Derived.Shelf.Slices.Turned
namespace Go.Proofs.YtgohdcccfkjooaaGreatDoor
open Go.RowKit

end Go.Proofs.YtgohdcccfkjooaaGreatDoor

namespace Go.Proofs.YtgohdcccfkjooaaGreatDoor
open Go.RowKit

end Go.Proofs.YtgohdcccfkjooaaGreatDoor

namespace Go.Proofs.YtgohdcccfkjooaaGreatDoor
open Go.RowKit

section
variable {B : Nat} {P : Program} {ops : Array Oper} {Q : Exit → Act → World → Prop} {md : Region.Mode}

/-- Whatever order is picked from here on; behind each operation before number n what was there is as it was. -/
def wpRB (B : Nat) (P : Program) (md : Region.Mode) (ops : Array Oper) (Q : Exit → Act → World → Prop) (n : Nat) : Nat → Array Bool → Act → World → Prop
  | 0, listed, a, w => Region.ready md ops listed = [] ∧ Q .normal a w
  | fuel + 1, listed, a, w =>
    (Region.ready md ops listed = [] → Q .normal a w) ∧
    ∀ i ∈ Region.ready md ops listed, wpOp P ops Q i (fun a' w' => (i < n → Below B w w') ∧ wpRB B P md ops Q n fuel (listed.setIfInBounds i true) a' w') a w

theorem wpAny_of_RB {n : Nat} : ∀ (fuel : Nat) (listed : Array Bool) (a : Act) (w : World), wpRB B P md ops Q n fuel listed a w → wpAny P md ops Q fuel listed a w
  | 0, _, _, _, h => h
  | fuel + 1, _, _, _, h => ⟨h.1, fun i hi => wpOp_mono (fun a' w' h' => wpAny_of_RB fuel _ a' w' h'.2) (h.2 i hi)⟩

theorem YieldsIf.stayB {o : Oper} {v : Value} {a : Act} {w w' : World} (h : YieldsIf P ops (fun x => Below B w x) o v a) (hb : Below B w w') :
    YieldsIf P ops (fun x => Below B w' x) o v a :=
  h.imp (fun ⟨h1, h2⟩ => ⟨h1, fun x hx => h2 x (hb.trans hx)⟩) id

end
end Go.Proofs.YtgohdcccfkjooaaGreatDoor

namespace Go.Proofs.YtgohdcccfkjooaaGreatDoor
open Go.RowKit

end Go.Proofs.YtgohdcccfkjooaaGreatDoor

namespace Go.Proofs.YtgohdcccfkjooaaGreatDoor
open Go.RowKit

section
variable {B : Nat} {P : Program} {ops : Array Oper} {Q : Exit → Act → World → Prop} {md : Region.Mode}

/-- a read is taken first -/
theorem wpR_firstK {i : Nat} {oi : Oper} {v : Value} (hi : ops[i]? = some oi) (hsel : ∀ (j : Nat) (o : Oper) cs b, ops[j]? = some o → o.op ≠ .select cs b)
    (hQ : ∀ c a w, Q (.panic c) (a.put oi.dst v) w → Q (.panic c) a w) :
    ∀ (fuel : Nat) (listed : Array Bool) (a : Act) (w : World),
      (∀ j oj, ops[j]? = some oj → j ≠ i → listed.getD j true = false → (∀ e ∈ oj.after, Region.binds md e = true → e.on ≠ i) → oi.apart ops oj = true) →
      i ∈ Region.ready md ops listed → YieldsIf P ops (fun x => Below B w x) oi v a →
      wpRB B P md ops Q ops.size fuel (listed.setIfInBounds i true) (a.put oi.dst v) w → wpRB B P md ops Q ops.size (fuel + 1) listed a w := by
  intro fuel
  induction fuel with
  | zero =>
    intro listed a w _ hr hy H
    refine ⟨fun h => (by rw [h] at hr; cases hr), fun j hj => ?_⟩
    by_cases hji : j = i
    · subst hji; exact hy.wpOp hi (Below.refl _ _) ⟨fun _ => Below.refl _ _, H⟩
    · have := ready_mono hj hji
      rw [H.1] at this
      cases this
  | succ fuel ih =>
    intro listed a w hfree hr hy H
    have hun := (mem_ready.1 hr).1
    refine ⟨fun h => (by rw [h] at hr; cases hr), fun j hj => ?_⟩
    by_cases hji : j = i
    · subst hji; exact hy.wpOp hi (Below.refl _ _) ⟨fun _ => Below.refl _ _, H⟩
    · have h1 := H.2 j (ready_mono hj hji)
      obtain ⟨hjun, oj, hoj, hall⟩ := mem_ready.1 hj
      have hjn : j < ops.size := (Array.getElem?_eq_some_iff.1 hoj).1
      have hnot : ∀ e ∈ oj.after, Region.binds md e = true → e.on ≠ i := fun e he hb heq => by
        have h1 := hall e he hb
        rw [heq, getD_both hun] at h1
        cases h1
      have h2 := wpOp_putIf hoj (hfree j oj hoj hji hjun hnot) (fun cs b => hsel i oi cs b hi) (fun cs b => hsel j oj cs b hoj) hQ hy h1
      have hfree' : ∀ k ok, ops[k]? = some ok → k ≠ i → (listed.setIfInBounds j true).getD k true = false →
          (∀ e ∈ ok.after, Region.binds md e = true → e.on ≠ i) → oi.apart ops ok = true := fun k ok hk hki hun hno => by
        refine hfree k ok hk hki ?_ hno
        by_cases hjk : j = k
        · subst hjk; exact hjun
        · rw [getD_set_ne true hjk] at hun; exact hun
      refine wpOp_mono (fun a' w' h3 => ⟨h3.2.1, ih (listed.setIfInBounds j true) a' w' hfree' (ready_mono hr (Ne.symm hji)) (YieldsIf.stayB h3.1 (h3.2.1 hjn)) ?_⟩) h2
      rw [Array.setIfInBounds_comm _ _ hji]
      exact h3.2.2

/-- the reads, and then any order; what lies below B stays -/
def wpRd (B : Nat) (P : Program) (ops : Array Oper) (Q : Exit → Act → World → Prop) : List Nat → Nat → Array Bool → Act → World → Prop
  | [], m, listed, a, w => wpRB B P .any ops Q ops.size m listed a w
  | i :: rest, m, listed, a, w => ∃ o v, ops[i]? = some o ∧ YieldsIf P ops (fun x => Below B w x) o v a ∧ wpRd B P ops Q rest m (listed.setIfInBounds i true) (a.put o.dst v) w

def readsB (ops : Array Oper) : List Nat → Array Bool → Bool
  | [], _ => true
  | i :: rest, listed => (Region.ready .any ops listed).contains i && Region.free .any ops listed i && readsB ops rest (listed.setIfInBounds i true)

theorem wpR_of_reads (hsel : Region.noSelect ops = true) (hQ2 : ∀ c a o u w, Q (.panic c) (a.put o u) w → Q (.panic c) a w) :
    ∀ (is : List Nat) (m : Nat) (listed : Array Bool) (a : Act) (w : World), readsB ops is listed = true → wpRd B P ops Q is m listed a w → wpRB B P .any ops Q ops.size (is.length + m) listed a w
  | [], m, listed, a, w, _, h => by rw [List.length_nil, Nat.zero_add]; exact h
  | i :: is, m, listed, a, w, hB, h => by
    simp only [readsB, Bool.and_eq_true] at hB
    obtain ⟨⟨h1, h2⟩, h3⟩ := hB
    obtain ⟨o, v, ho, hy, h⟩ := h
    have h1 : i ∈ Region.ready .any ops listed := by simpa using h1
    have hrec := wpR_of_reads hsel hQ2 is m (listed.setIfInBounds i true) (a.put o.dst v) w h3 h
    rw [show (i :: is).length + m = (is.length + m) + 1 by rw [List.length_cons]; omega]
    exact wpR_firstK ho (Region.noSelect_spec hsel) (fun c a w => hQ2 c a o.dst v w) _ _ _ w (Region.free_spec ho h2) h1 hy hrec

/-- THE BEGINNING -/
theorem wp_region_reads {id : Nat} {a : Act} {w : World} (B : Nat) (is : List Nat) (m : Nat)
    (hm : P.follows .mixedOrders = true) (hsz : ops.size = is.length + m) (hsel : Region.noSelect ops = true) (hB : readsB ops is (Array.replicate ops.size false) = true)
    (hQ2 : ∀ c a o u w, Q (.panic c) (a.put o u) w → Q (.panic c) a w)
    (h : wpRd B P ops Q is m (Array.replicate ops.size false) a w.drew) : (Code.region id ops true).wp P Q a w := by
  have := wpR_of_reads hsel hQ2 is m (Array.replicate ops.size false) a w.drew hB h
  rw [← hsz] at this
  exact wp_region_any hm (wpAny_of_RB _ _ _ _ this)

theorem wpRd_yield {i m : Nat} {rest : List Nat} {o : Oper} {v : Value} {listed : Array Bool} {a : Act} {w : World} (hi : ops.toList[i]? = some o)
    (hw : Region.wanted o (yielded ops a.tmps) = true) (hy : ∀ x, Below B w x → (execOp a.eval o).run P x = .ok (.value v) x)
    (h : wpRd B P ops Q rest m (listed.setIfInBounds i true) (a.put o.dst v) w) : wpRd B P ops Q (i :: rest) m listed a w :=
  ⟨o, v, by rw [← Array.getElem?_toList]; exact hi, Or.inl ⟨hw, hy⟩, h⟩

theorem wpRd_nil {m : Nat} {listed : Array Bool} {a : Act} {w : World} (h : wpRB B P .any ops Q ops.size m listed a w) : wpRd B P ops Q [] m listed a w := h

/-- one comes up alone -/
theorem wpR_one {n fuel i : Nat} {o : Oper} {listed : Array Bool} {a : Act} {w : World} (hr : Region.ready md ops listed = [i]) (hi : ops.toList[i]? = some o) (hg : o.guard = none)
    (h : ∀ K : Act → World → Prop, (∀ a' w', Below B w w' → wpRB B P md ops Q n fuel (listed.setIfInBounds i true) a' w' → K a' w') → o.wp P a w K Q) : wpRB B P md ops Q n (fuel + 1) listed a w := by
  have hw : Region.wanted o (yielded ops a.tmps) = true := by simp [Region.wanted, hg]
  rw [Array.getElem?_toList] at hi
  refine ⟨fun h0 => (by rw [hr] at h0; cases h0), fun j hj => ?_⟩
  rw [hr] at hj
  obtain rfl : j = i := by simpa using hj
  unfold wpOp
  simp only [hi, hw, if_true]
  exact .inl (h _ fun a' w' h1 h2 => ⟨fun _ => h1, h2⟩)

theorem wpR_end {n : Nat} {listed : Array Bool} {a : Act} {w : World} (hr : Region.ready md ops listed = []) (h : Q .normal a w) : wpRB B P md ops Q n 0 listed a w := ⟨hr, h⟩

end
end Go.Proofs.YtgohdcccfkjooaaGreatDoor

namespace Go.Proofs.YtgohdcccfkjooaaGreatDoor
open Go.RowKit

/-- a surface, its coating apart -/
structure Surf where
  kind : Int
  curv : Int
  conic : Int
  curvX : Int
  conicX : Int
  a0 : Int
  a1 : Int
  a2 : Int
  a3 : Int
  p0 : Int
  p1 : Int
  order : Int
  thick : Int
  glass : ByteArray
  semi : Int
  hole : Int
  dx : Int
  dy : Int
  ax : Int
  ay : Int
  az : Int
  deriving DecidableEq

/-- the slice (a, n, c) of records of k ints each reads as the ints zs; its block is below N -/
def IR (N : Nat) (w : World) (k : Nat) (a : Option Addr) (n c : Nat) (zs : List Int) : Prop :=
  zs.length = n * k ∧ n ≤ c ∧ (0 < n → ∃ b off, a = some ⟨b, off, none⟩ ∧ b < N ∧ ∀ j, j < n * k → w.cell? ⟨b, off + j, none⟩ = some (.int .i64 (zs.getD j 0)))

theorem IR.below {N M : Nat} {w w' : World} {k : Nat} {a : Option Addr} {n c : Nat} {zs : List Int} (h : IR N w k a n c zs) (hb : Below M w w') (hN : N ≤ M) : IR N w' k a n c zs :=
  ⟨h.1, h.2.1, fun hn => let ⟨b, off, e, hlt, hc⟩ := h.2.2 hn; ⟨b, off, e, hlt, fun j hj => (hb.cell (p := ⟨b, off + j, none⟩) (Nat.lt_of_lt_of_le hlt hN)).trans (hc j hj)⟩⟩
theorem IR.mono {N M : Nat} {w : World} {k : Nat} {a : Option Addr} {n c : Nat} {zs : List Int} (h : IR N w k a n c zs) (hN : N ≤ M) : IR M w k a n c zs :=
  ⟨h.1, h.2.1, fun hn => let ⟨b, off, e, hlt, hc⟩ := h.2.2 hn; ⟨b, off, e, Nat.lt_of_lt_of_le hlt hN, hc⟩⟩
theorem IR.go {w w' : World} {k : Nat} {a : Option Addr} {n c : Nat} {zs : List Int} (h : IR w.heap.size w k a n c zs) (hb : Below w.heap.size w w') : IR w'.heap.size w' k a n c zs :=
  (h.below hb (Nat.le_refl _)).mono hb.size
theorem IR.nil (N : Nat) (w : World) (k : Nat) (a : Option Addr) (c : Nat) : IR N w k a 0 c [] := ⟨by simp, Nat.zero_le _, fun h => absurd h (by omega)⟩
/-- block g holds a surface -/
def SurfB (w : World) (g : Nat) (s : Surf) (a : Option Addr) (n c : Nat) : Prop := w.heap[g]? = some (.cells #[.int .i64 s.kind, .int .i64 s.curv, .int .i64 s.conic, .int .i64 s.curvX, .int .i64 s.conicX, .int .i64 s.a0, .int .i64 s.a1, .int .i64 s.a2, .int .i64 s.a3, .int .i64 s.p0, .int .i64 s.p1, .int .i64 s.order, .int .i64 s.thick, .string s.glass, .int .i64 s.semi, .int .i64 s.hole, .int .i64 s.dx, .int .i64 s.dy, .int .i64 s.ax, .int .i64 s.ay, .int .i64 s.az, .slice a n c] 70 (0, 0))

theorem SurfB.lt {w : World} {g : Nat} {s : Surf} {a : Option Addr} {n c : Nat} (h : SurfB w g s a n c) : g < w.heap.size := lt_of_block h
theorem SurfB.go {w w' : World} {g : Nat} {s : Surf} {a : Option Addr} {n c B : Nat} (h : SurfB w g s a n c) (hb : Below B w w') (hg : g < B) : SurfB w' g s a n c := (hb.block g hg).trans h
theorem SurfB.new (w : World) (s : Surf) (a : Option Addr) (n c : Nat) : SurfB (w.alloc (.cells #[.int .i64 s.kind, .int .i64 s.curv, .int .i64 s.conic, .int .i64 s.curvX, .int .i64 s.conicX, .int .i64 s.a0, .int .i64 s.a1, .int .i64 s.a2, .int .i64 s.a3, .int .i64 s.p0, .int .i64 s.p1, .int .i64 s.order, .int .i64 s.thick, .string s.glass, .int .i64 s.semi, .int .i64 s.hole, .int .i64 s.dx, .int .i64 s.dy, .int .i64 s.ax, .int .i64 s.ay, .int .i64 s.az, .slice a n c] 70)) w.heap.size s a n c := heap_alloc_new w _

theorem SurfB.cells {w : World} {g : Nat} {s : Surf} {a : Option Addr} {n c : Nat} (h : SurfB w g s a n c) :
    w.cell? ⟨g, 0, none⟩ = some (.int .i64 s.kind) ∧ w.cell? ⟨g, 1, none⟩ = some (.int .i64 s.curv) ∧ w.cell? ⟨g, 2, none⟩ = some (.int .i64 s.conic) ∧ w.cell? ⟨g, 3, none⟩ = some (.int .i64 s.curvX) ∧ w.cell? ⟨g, 4, none⟩ = some (.int .i64 s.conicX) ∧
    w.cell? ⟨g, 5, none⟩ = some (.int .i64 s.a0) ∧ w.cell? ⟨g, 6, none⟩ = some (.int .i64 s.a1) ∧ w.cell? ⟨g, 7, none⟩ = some (.int .i64 s.a2) ∧ w.cell? ⟨g, 8, none⟩ = some (.int .i64 s.a3) ∧ w.cell? ⟨g, 9, none⟩ = some (.int .i64 s.p0) ∧ w.cell? ⟨g, 10, none⟩ = some (.int .i64 s.p1) ∧
    w.cell? ⟨g, 11, none⟩ = some (.int .i64 s.order) ∧ w.cell? ⟨g, 12, none⟩ = some (.int .i64 s.thick) ∧ w.cell? ⟨g, 13, none⟩ = some (.string s.glass) ∧ w.cell? ⟨g, 14, none⟩ = some (.int .i64 s.semi) ∧ w.cell? ⟨g, 15, none⟩ = some (.int .i64 s.hole) ∧
    w.cell? ⟨g, 16, none⟩ = some (.int .i64 s.dx) ∧ w.cell? ⟨g, 17, none⟩ = some (.int .i64 s.dy) ∧ w.cell? ⟨g, 18, none⟩ = some (.int .i64 s.ax) ∧ w.cell? ⟨g, 19, none⟩ = some (.int .i64 s.ay) ∧ w.cell? ⟨g, 20, none⟩ = some (.int .i64 s.az) ∧ w.cell? ⟨g, 21, none⟩ = some (.slice a n c) := by
  unfold SurfB at h
  refine ⟨?_, ?_, ?_, ?_, ?_, ?_, ?_, ?_, ?_, ?_, ?_, ?_, ?_, ?_, ?_, ?_, ?_, ?_, ?_, ?_, ?_, ?_⟩ <;> simp [World.cell?, h]
theorem SurfB.free {w : World} {g : Nat} {s : Surf} {a : Option Addr} {n c : Nat} (h : SurfB w g s a n c) (k : Nat) : w.frozen? ⟨g, k, none⟩ = false := by
  unfold SurfB at h; simp [World.frozen?, h]

theorem below_chain {w A w' : World} (h1 : Below w.heap.size w A) (h2 : Below A.heap.size A w') : Below w.heap.size w w' := h1.trans (h2.mono h1.size)
theorem below_al {w A : World} {o : Obj} (h : Below w.heap.size w A) : Below w.heap.size w (A.alloc o) := h.alloc h.size _
theorem below_dr {w A : World} (h : Below w.heap.size w A) : Below w.heap.size w A.drew := ⟨h.os, h.tape, h.output, h.size, h.block⟩
theorem below_st {w A : World} {p : Addr} {v : Value} (h : Below w.heap.size w A) (hp : w.heap.size ≤ p.block) : Below w.heap.size w (A.setCell p v) := h.setCell hp _

theorem heap3 (w : World) (o p q : Obj) : (((w.alloc o).alloc p).alloc q).heap[w.heap.size]? = some o ∧ (((w.alloc o).alloc p).alloc q).heap[w.heap.size + 1]? = some p ∧ (((w.alloc o).alloc p).alloc q).heap[w.heap.size + 2]? = some q := by
  obtain ⟨e1, e2⟩ := heap_two w o p
  refine ⟨?_, ?_, ?_⟩
  · rw [Below.heap_alloc _ _ _ (by simp <;> omega)]; exact e1
  · rw [Below.heap_alloc _ _ _ (by simp)]; exact e2
  · have := heap_alloc_new ((w.alloc o).alloc p) q
    simpa using this
theorem belowT (w : World) (o p q : Obj) : Below w.heap.size w (((w.alloc o).alloc p).alloc q) := below_al (below_al (below_al (Below.refl _ _)))

/-- from here on only this is known of the world -/
theorem step_world {P : Program} {c : Code} {Q : Exit → Act → World → Prop} {a : Act} {w : World} (F : World → Prop) (hF : F w) (h : ∀ w', F w' → c.wp P Q a w') : c.wp P Q a w := h w hF
theorem step_list {P : Program} {ops : Array Oper} {l : List Oper} {Q : Exit → Act → World → Prop} {a : Act} {w : World} (F : World → Prop) (hF : F w) (h : ∀ w', F w' → wpList P ops Q l a w') : wpList P ops Q l a w := h w hF

/-- the world behind a store of a surface -/
def W22 (w : World) (g : Nat) (s : Surf) (a : Option Addr) (n c : Nat) : World := ((((((((((((((((((((((w.setCell ⟨g, 0, none⟩ (.int .i64 s.kind)).setCell ⟨g, 1, none⟩ (.int .i64 s.curv)).setCell ⟨g, 2, none⟩ (.int .i64 s.conic)).setCell ⟨g, 3, none⟩ (.int .i64 s.curvX)).setCell ⟨g, 4, none⟩ (.int .i64 s.conicX)).setCell ⟨g, 5, none⟩ (.int .i64 s.a0)).setCell ⟨g, 6, none⟩ (.int .i64 s.a1)).setCell ⟨g, 7, none⟩ (.int .i64 s.a2)).setCell ⟨g, 8, none⟩ (.int .i64 s.a3)).setCell ⟨g, 9, none⟩ (.int .i64 s.p0)).setCell ⟨g, 10, none⟩ (.int .i64 s.p1)).setCell ⟨g, 11, none⟩ (.int .i64 s.order)).setCell ⟨g, 12, none⟩ (.int .i64 s.thick)).setCell ⟨g, 13, none⟩ (.string s.glass)).setCell ⟨g, 14, none⟩ (.int .i64 s.semi)).setCell ⟨g, 15, none⟩ (.int .i64 s.hole)).setCell ⟨g, 16, none⟩ (.int .i64 s.dx)).setCell ⟨g, 17, none⟩ (.int .i64 s.dy)).setCell ⟨g, 18, none⟩ (.int .i64 s.ax)).setCell ⟨g, 19, none⟩ (.int .i64 s.ay)).setCell ⟨g, 20, none⟩ (.int .i64 s.az)).setCell ⟨g, 21, none⟩ (.slice a n c))

theorem SurfB.stored {w : World} {g : Nat} {cs : Array Value} (h : w.heap[g]? = some (.cells cs 70 (0, 0))) (hs : cs.size = 22) (s : Surf) (a : Option Addr) (n c : Nat) : SurfB (W22 w g s a n c) g s a n c := by
  obtain ⟨l, rfl⟩ : ∃ l : List Value, cs = l.toArray := ⟨cs.toList, by simp⟩
  have hs : l.length = 22 := by simpa using hs
  match l, hs with
  | [x0, x1, x2, x3, x4, x5, x6, x7, x8, x9, x10, x11, x12, x13, x14, x15, x16, x17, x18, x19, x20, x21], _ =>
    have k := (obj_setCell (obj_setCell (obj_setCell (obj_setCell (obj_setCell (obj_setCell (obj_setCell (obj_setCell (obj_setCell (obj_setCell (obj_setCell (obj_setCell (obj_setCell (obj_setCell (obj_setCell (obj_setCell (obj_setCell (obj_setCell (obj_setCell (obj_setCell (obj_setCell (obj_setCell h 0 (.int .i64 s.kind)) 1 (.int .i64 s.curv)) 2 (.int .i64 s.conic)) 3 (.int .i64 s.curvX)) 4 (.int .i64 s.conicX)) 5 (.int .i64 s.a0)) 6 (.int .i64 s.a1)) 7 (.int .i64 s.a2)) 8 (.int .i64 s.a3)) 9 (.int .i64 s.p0)) 10 (.int .i64 s.p1)) 11 (.int .i64 s.order)) 12 (.int .i64 s.thick)) 13 (.string s.glass)) 14 (.int .i64 s.semi)) 15 (.int .i64 s.hole)) 16 (.int .i64 s.dx)) 17 (.int .i64 s.dy)) 18 (.int .i64 s.ax)) 19 (.int .i64 s.ay)) 20 (.int .i64 s.az)) 21 (.slice a n c))
    simp only [List.setIfInBounds_toArray, List.set_cons_zero, List.set_cons_succ] at k
    exact k

theorem W22.other {w : World} {g g' : Nat} {o : Obj} (h : w.heap[g']? = some o) (hne : g ≠ g') (s : Surf) (a : Option Addr) (n c : Nat) : (W22 w g s a n c).heap[g']? = some o := by
  unfold W22
  exact (obj_other (obj_other (obj_other (obj_other (obj_other (obj_other (obj_other (obj_other (obj_other (obj_other (obj_other (obj_other (obj_other (obj_other (obj_other (obj_other (obj_other (obj_other (obj_other (obj_other (obj_other (obj_other h ⟨g, 0, none⟩ hne _) ⟨g, 1, none⟩ hne _) ⟨g, 2, none⟩ hne _) ⟨g, 3, none⟩ hne _) ⟨g, 4, none⟩ hne _) ⟨g, 5, none⟩ hne _) ⟨g, 6, none⟩ hne _) ⟨g, 7, none⟩ hne _) ⟨g, 8, none⟩ hne _) ⟨g, 9, none⟩ hne _) ⟨g, 10, none⟩ hne _) ⟨g, 11, none⟩ hne _) ⟨g, 12, none⟩ hne _) ⟨g, 13, none⟩ hne _) ⟨g, 14, none⟩ hne _) ⟨g, 15, none⟩ hne _) ⟨g, 16, none⟩ hne _) ⟨g, 17, none⟩ hne _) ⟨g, 18, none⟩ hne _) ⟨g, 19, none⟩ hne _) ⟨g, 20, none⟩ hne _) ⟨g, 21, none⟩ hne _)
theorem Below.put22 {B : Nat} {w w' : World} {g : Nat} (h : Below B w w') (hg : B ≤ g) (s : Surf) (a : Option Addr) (n c : Nat) : Below B w (W22 w' g s a n c) := by
  unfold W22
  exact ((((((((((((((((((((((h.setCell hg _).setCell hg _).setCell hg _).setCell hg _).setCell hg _).setCell hg _).setCell hg _).setCell hg _).setCell hg _).setCell hg _).setCell hg _).setCell hg _).setCell hg _).setCell hg _).setCell hg _).setCell hg _).setCell hg _).setCell hg _).setCell hg _).setCell hg _).setCell hg _).setCell hg _)

theorem SurfB.range {w : World} {g : Nat} {s : Surf} {a : Option Addr} {n c : Nat} (h : SurfB w g s a n c) : w.rangeAt g 0 [.int .i64 s.kind, .int .i64 s.curv, .int .i64 s.conic, .int .i64 s.curvX, .int .i64 s.conicX, .int .i64 s.a0, .int .i64 s.a1, .int .i64 s.a2, .int .i64 s.a3, .int .i64 s.p0, .int .i64 s.p1, .int .i64 s.order, .int .i64 s.thick, .string s.glass, .int .i64 s.semi, .int .i64 s.hole, .int .i64 s.dx, .int .i64 s.dy, .int .i64 s.ax, .int .i64 s.ay, .int .i64 s.az, .slice a n c] := by
  intro j v hj
  unfold SurfB at h
  simp only [World.cell?, h, Nat.zero_add]
  simpa using hj

theorem Tryz.infoSurf : (Tryz.prog.info? 70).map (·.size) = some 22 := by kernel_rfl

/-- a surface is loaded -/
theorem wpL_load_surf {ops : Array Oper} {rest : List Oper} {op : Oper} {ac : Act} {w : World} {Q : Exit → Act → World → Prop} {g : Nat} {s : Surf} {a : Option Addr} {n c : Nat} (h : SurfB w g s a n c) (hgd : op.guard = none) (x : Operand) (ho : op.op = .load 70 x)
    (hx : ac.eval x = .pointer (some ⟨g, 0, none⟩)) (hk : wpList Tryz.prog ops Q rest (ac.put op.dst (.agg #[.int .i64 s.kind, .int .i64 s.curv, .int .i64 s.conic, .int .i64 s.curvX, .int .i64 s.conicX, .int .i64 s.a0, .int .i64 s.a1, .int .i64 s.a2, .int .i64 s.a3, .int .i64 s.p0, .int .i64 s.p1, .int .i64 s.order, .int .i64 s.thick, .string s.glass, .int .i64 s.semi, .int .i64 s.hole, .int .i64 s.dx, .int .i64 s.dy, .int .i64 s.ax, .int .i64 s.ay, .int .i64 s.az, .slice a n c])) w) : wpList Tryz.prog ops Q (op :: rest) ac w :=
  wpList_load_mid hgd 70 x ho g 0 hx [.int .i64 s.kind, .int .i64 s.curv, .int .i64 s.conic, .int .i64 s.curvX, .int .i64 s.conicX, .int .i64 s.a0, .int .i64 s.a1, .int .i64 s.a2, .int .i64 s.a3, .int .i64 s.p0, .int .i64 s.p1, .int .i64 s.order, .int .i64 s.thick, .string s.glass, .int .i64 s.semi, .int .i64 s.hole, .int .i64 s.dx, .int .i64 s.dy, .int .i64 s.ax, .int .i64 s.ay, .int .i64 s.az, .slice a n c] _ h.range Tryz.underlying70 rfl Tryz.infoSurf hk

/-- a surface is stored -/
theorem wpL_store_surf {ops : Array Oper} {rest : List Oper} {op : Oper} {ac : Act} {w : World} {Q : Exit → Act → World → Prop} {g : Nat} {cs : Array Value} (s : Surf) (a : Option Addr) (n c : Nat) (h : w.heap[g]? = some (.cells cs 70 (0, 0))) (hsz : cs.size = 22) (hgd : op.guard = none) (x y : Operand) (ho : op.op = .store 70 x y)
    (hx : ac.eval x = .pointer (some ⟨g, 0, none⟩)) (hy : ac.eval y = .agg #[.int .i64 s.kind, .int .i64 s.curv, .int .i64 s.conic, .int .i64 s.curvX, .int .i64 s.conicX, .int .i64 s.a0, .int .i64 s.a1, .int .i64 s.a2, .int .i64 s.a3, .int .i64 s.p0, .int .i64 s.p1, .int .i64 s.order, .int .i64 s.thick, .string s.glass, .int .i64 s.semi, .int .i64 s.hole, .int .i64 s.dx, .int .i64 s.dy, .int .i64 s.ax, .int .i64 s.ay, .int .i64 s.az, .slice a n c]) (hk : wpList Tryz.prog ops Q rest (ac.put op.dst undef) (W22 w g s a n c)) : wpList Tryz.prog ops Q (op :: rest) ac w :=
  wpList_store_mid hgd 70 x y ho g 0 _ hx hy (fun j hj => by
    have hj : j < 22 := hj
    simp [World.cell?, World.frozen?, h, hsz, hj]) Tryz.infoSurf (by simp [Value.oneCell']) hk

/-- a result that lies in a variable -/
theorem ret_surf {fn : Func} {p : Tmp} {tmps : Array Value} {w : World} {g : Nat} {s : Surf} {a : Option Addr} {n c : Nat} (h : fn.results = #[.cell p 70]) (hp : tmps.getD p undef = .pointer (some ⟨g, 0, none⟩)) (hs : SurfB w g s a n c) :
    (results fn tmps).run Tryz.prog w = .ok (.agg #[.int .i64 s.kind, .int .i64 s.curv, .int .i64 s.conic, .int .i64 s.curvX, .int .i64 s.conicX, .int .i64 s.a0, .int .i64 s.a1, .int .i64 s.a2, .int .i64 s.a3, .int .i64 s.p0, .int .i64 s.p1, .int .i64 s.order, .int .i64 s.thick, .string s.glass, .int .i64 s.semi, .int .i64 s.hole, .int .i64 s.dx, .int .i64 s.dy, .int .i64 s.ax, .int .i64 s.ay, .int .i64 s.az, .slice a n c]) w :=
  results_cell_row h tmps w g 70 _ (0, 0) _ hp hs Tryz.underlying70 rfl Tryz.infoSurf
theorem ret_surf_tmp {fn : Func} {p u : Tmp} {tmps : Array Value} {w : World} {g : Nat} {s : Surf} {a : Option Addr} {n c : Nat} {v : Value} (h : fn.results = #[.cell p 70, .tmp u]) (hp : tmps.getD p undef = .pointer (some ⟨g, 0, none⟩)) (hu : tmps.getD u undef = v) (hs : SurfB w g s a n c) :
    (results fn tmps).run Tryz.prog w = .ok (.tuple #[.agg #[.int .i64 s.kind, .int .i64 s.curv, .int .i64 s.conic, .int .i64 s.curvX, .int .i64 s.conicX, .int .i64 s.a0, .int .i64 s.a1, .int .i64 s.a2, .int .i64 s.a3, .int .i64 s.p0, .int .i64 s.p1, .int .i64 s.order, .int .i64 s.thick, .string s.glass, .int .i64 s.semi, .int .i64 s.hole, .int .i64 s.dx, .int .i64 s.dy, .int .i64 s.ax, .int .i64 s.ay, .int .i64 s.az, .slice a n c], v]) w := by
  rw [results_cell_tmp h, hp, hu]
  simp only [asAddr, Sem.run_pure, Result.andThen_ok]
  rw [run_loadVar_row w g 70 70 _ (0, 0) _ hs Tryz.underlying70 rfl Tryz.infoSurf]
  rfl

end Go.Proofs.YtgohdcccfkjooaaGreatDoor

namespace Go.Proofs.YtgohdcccfkjooaaGreatDoor
open Go.RowKit

/-- one of the numbers lies outside of a range -/
def outB (low high : Int) (zs : List Int) : Bool := zs.any fun z => decide (z < low) || decide (high < z)

theorem any_take {f : Int → Bool} {zs : List Int} {k : Nat} (h : k < zs.length) (h0 : (zs.take k).any f = false) : (zs.take (k + 1)).any f = f (zs.getD k 0) := by
  rw [List.take_succ_eq_append_getElem h, List.any_append, h0]
  simp [List.getD_eq_getElem?_getD, h]

set_option maxRecDepth 100000 in
theorem lit_between (low high z : Int) (bl bh : Nat) (w : World) (hl : w.cell? ⟨bl, 0, none⟩ = some (.int .i64 low)) (hh : w.cell? ⟨bh, 0, none⟩ = some (.int .i64 high)) :
    Calls Tryz.prog 239 #[.int .i64 z, .pointer (some ⟨bl, 0, none⟩), .pointer (some ⟨bh, 0, none⟩)] w (RetB w (.bool (decide (z < low) || decide (high < z)))) := by
  by_cases h1 : z < low
  · go_enter Tryz.func239, Tryz.ntmps239
    go_wp2
    go_ret
    exact ⟨by simp [h1], Below.refl _ _⟩
  · by_cases h2 : high < z
    all_goals
      go_enter Tryz.func239, Tryz.ntmps239
      go_wp2
      go_ret
      exact ⟨by simp [h1, h2], Below.refl _ _⟩

/-- a call that gives back a place: at least 0 just if there is one -/
def RetAt (w : World) (b : Bool) (e : Ending) (w' : World) : Prop := ∃ r : Int, e = .returned (.int .i64 r) ∧ decide (0 ≤ r) = b ∧ Below w.heap.size w w'

set_option maxRecDepth 100000 in
set_option maxHeartbeats 800000 in
theorem index_between (low high : Int) (zs : List Int) (a : Option Addr) (n c bl bh : Nat) (w : World) (hs : SL w.heap.size w a n c zs) (hn : n ≤ 1000000) (hl : w.cell? ⟨bl, 0, none⟩ = some (.int .i64 low)) (hh : w.cell? ⟨bh, 0, none⟩ = some (.int .i64 high)) (ll : bl < w.heap.size) (lh : bh < w.heap.size) :
    Calls Tryz.prog 259 #[.slice a n c, .func (.func 239) #[] #[.pointer (some ⟨bl, 0, none⟩), .pointer (some ⟨bh, 0, none⟩)]] w (RetAt w (outB low high zs)) := by
  have hlen := hs.len
  have Hs := Lib.hid hs; have Hl := Lib.hid hl; have Hh := Lib.hid hh; have Hlen := Lib.hid hlen
  clear hs hl hh hlen
  go_enter Tryz.func259, Tryz.ntmps259
  go_wp2_with fail
  go_loopw [8] (fun iv wr => ∃ k : Nat, k ≤ n ∧ iv = .int .i64 (k : Int) ∧ outB low high (zs.take k) = false ∧ Below w.heap.size w wr) (fun iv _ => n - (intOf iv).toNat)
  case atStart => exact ⟨0, Nat.zero_le _, rfl, rfl, Below.refl _ _⟩
  case round =>
    obtain ⟨k, hk, rfl, ho, hb⟩ := hrel
    have Ho := Lib.hid ho; have Hb := Lib.hid hb
    clear ho hb
    by_cases hkn : k < n
    · obtain ⟨b, off, rfl, hlt, hc⟩ := (Hs.out.go Hb.out).at (by omega)
      have c0 := hc k hkn
      clear hc
      have hnext := any_take (k := k) (by rw [← Hlen.out]; exact hkn) Ho.out
      generalize zs.getD k 0 = z at *
      have c1 := (Hb.out.cell (p := ⟨bl, 0, none⟩) ll).trans Hl.out
      have c2 := (Hb.out.cell (p := ⟨bh, 0, none⟩) lh).trans Hh.out
      have C1 := Lib.hid c1; have C2 := Lib.hid c2
      clear c1 c2
      have Hn := Lib.hid hnext; clear hnext
      by_cases hv : (decide (z < low) || decide (high < z)) = true
      · have Hv := Lib.hid hv; clear hv
        go_wp2_with fail
        refine (lit_between low high z bl bh _ C1.out C2.out).mono ?_
        rintro e w2 ⟨he, hb2⟩
        rw [Hv.out] at he
        subst he
        go_wp2
        go_ret
        refine ⟨(k : Int), rfl, ?_, Hb.out.trans (hb2.mono Hb.out.size)⟩
        rw [decide_eq_true (by omega)]
        have h1 := Hn.out
        rw [Hv.out] at h1
        symm
        unfold outB
        obtain ⟨x, hx, hx2⟩ := List.any_eq_true.1 h1
        exact List.any_eq_true.2 ⟨x, List.mem_of_mem_take hx, hx2⟩
      · have hv : (decide (z < low) || decide (high < z)) = false := by simpa using hv
        have Hv := Lib.hid hv; clear hv
        go_wp2_with fail
        refine (lit_between low high z bl bh _ C1.out C2.out).mono ?_
        rintro e w2 ⟨he, hb2⟩
        rw [Hv.out] at he
        subst he
        have Hb2 := Lib.hid (Hb.out.trans (hb2.mono Hb.out.size))
        clear hb2
        go_wp2_with fail
        go_roundw
        case rel => exact ⟨k + 1, by omega, by go_num, Hn.out.trans Hv.out, Hb2.out⟩
        case measure => simp [intOf]; omega
    · obtain rfl : k = n := by omega
      go_wp2
      go_ret
      refine ⟨-1, rfl, ?_, Hb.out⟩
      have h1 := Ho.out
      rw [Hlen.out, List.take_length] at h1
      rw [h1]; rfl

set_option maxRecDepth 100000 in
theorem outside_any (low high : Int) (zs : List Int) (a : Option Addr) (n c bl bh : Nat) (w : World) (hs : SL w.heap.size w a n c zs) (hn : n ≤ 1000000) (hl : w.cell? ⟨bl, 0, none⟩ = some (.int .i64 low)) (hh : w.cell? ⟨bh, 0, none⟩ = some (.int .i64 high)) (ll : bl < w.heap.size) (lh : bh < w.heap.size) :
    Calls Tryz.prog 238 #[.slice a n c, .func (.func 239) #[] #[.pointer (some ⟨bl, 0, none⟩), .pointer (some ⟨bh, 0, none⟩)]] w (RetB w (.bool (outB low high zs))) := by
  have Hl := Lib.hid hl; have Hh := Lib.hid hh
  clear hl hh
  go_enter Tryz.func238, Tryz.ntmps238
  go_wp2_with fail
  refine (index_between low high zs a n c bl bh _ hs hn Hl.out Hh.out ll lh).mono ?_
  rintro e w2 ⟨r, rfl, hr, hb⟩
  by_cases h0 : 0 ≤ r
  · rw [decide_eq_true h0] at hr
    have Hr := Lib.hid hr; clear hr
    go_wp2
    go_ret
    exact ⟨by rw [← Hr.out]; rfl, hb⟩
  · rw [decide_eq_false h0] at hr
    have Hr := Lib.hid hr; clear hr
    have h1 : decide (0 ≤ r) = false := decide_eq_false h0
    go_wp2
    go_ret
    exact ⟨by rw [← Hr.out]; rfl, hb⟩

set_option maxRecDepth 100000 in
theorem between_any (low high : Int) (zs : List Int) (a : Option Addr) (n c : Nat) (w : World) (hs : SL w.heap.size w a n c zs) (hn : n ≤ 1000000) :
    Calls Tryz.prog 200 #[.int .i64 low, .int .i64 high, .slice a n c] w (RetB w (.bool (!outB low high zs))) := by
  obtain ⟨e1, e2⟩ := heap_two w (.cells #[.int .i64 low] 3) (.cells #[.int .i64 high] 3)
  have hb := below_two (w := w) (.cells #[.int .i64 low] 3) (.cells #[.int .i64 high] 3)
  have E1 := Lib.hid e1; have E2 := Lib.hid e2; have Hb := Lib.hid hb
  clear e1 e2 hb
  go_enter Tryz.func200, Tryz.ntmps200
  go_wp2_with fail
  refine (outside_any low high zs a n c w.heap.size (w.heap.size + 1) _ (hs.go Hb.out) hn ((obj_cell E1.out 0).trans rfl) ((obj_cell E2.out 0).trans rfl) (by simp <;> omega) (by simp)).mono ?_
  rintro e w2 ⟨rfl, hb⟩
  generalize outB low high zs = b at *
  go_wp2
  go_ret
  exact ⟨rfl, Hb.out.trans (hb.mono Hb.out.size)⟩

set_option maxRecDepth 100000 in
theorem about_any (most : Int) (zs : List Int) (a : Option Addr) (n c : Nat) (w : World) (hs : SL w.heap.size w a n c zs) (hn : n ≤ 1000000) (h0 : 0 ≤ most) (h1 : most ≤ 9223372036854775807) :
    Calls Tryz.prog 204 #[.int .i64 most, .slice a n c] w (RetB w (.bool (!outB (-most) most zs))) := by
  go_enter Tryz.func204, Tryz.ntmps204
  go_wp2_with fail
  refine (between_any (-most) most zs a n c _ hs hn).mono ?_
  rintro e w2 ⟨rfl, hb⟩
  generalize (!outB (-most) most zs) = b at *
  go_wp2
  go_ret
  exact ⟨rfl, hb⟩

end Go.Proofs.YtgohdcccfkjooaaGreatDoor

namespace Go.Proofs.YtgohdcccfkjooaaGreatDoor
open Go.RowKit

theorem sl_new {w : World} {cs : Array Value} {xs : List Int} (h : cs = (xs.map (Value.int .i64)).toArray) : SL (w.alloc (.cells cs 3)).heap.size (w.alloc (.cells cs 3)) (some ⟨w.heap.size, 0, none⟩) xs.length xs.length xs := by
  subst h
  refine Blk.sl ⟨[], ?_⟩ (Nat.le_refl _)
  rw [heap_alloc_new, List.append_nil]

theorem sl_at {w : World} {cs : Array Value} {xs : List Int} {b m : Nat} (hb : b = w.heap.size) (hm : m = xs.length) (h : cs = (xs.map (Value.int .i64)).toArray) : SL (w.alloc (.cells cs 3)).heap.size (w.alloc (.cells cs 3)) (some ⟨b, 0, none⟩) m m xs := by
  subst hb hm; exact sl_new h

def okFilm (i p q : Int) : Bool := !outB 10000000 40000000 [i] && !outB 0 1000 [p] && !outB 1 1000 [q]

theorem sl1 {w : World} {b : Nat} {x : Int} (hb : b = w.heap.size) : SL (w.alloc (.cells #[.int .i64 x] 3)).heap.size (w.alloc (.cells #[.int .i64 x] 3)) (some ⟨b, 0, none⟩) 1 1 [x] := sl_at hb rfl rfl
theorem sl2 {w : World} {b : Nat} {x0 x1 : Int} (hb : b = w.heap.size) : SL (w.alloc (.cells #[.int .i64 x0, .int .i64 x1] 3)).heap.size (w.alloc (.cells #[.int .i64 x0, .int .i64 x1] 3)) (some ⟨b, 0, none⟩) 2 2 [x0, x1] := sl_at hb rfl rfl
theorem sl3 {w : World} {b : Nat} {x0 x1 x2 : Int} (hb : b = w.heap.size) : SL (w.alloc (.cells #[.int .i64 x0, .int .i64 x1, .int .i64 x2] 3)).heap.size (w.alloc (.cells #[.int .i64 x0, .int .i64 x1, .int .i64 x2] 3)) (some ⟨b, 0, none⟩) 3 3 [x0, x1, x2] := sl_at hb rfl rfl
theorem sl5 {w : World} {b : Nat} {x0 x1 x2 x3 x4 : Int} (hb : b = w.heap.size) : SL (w.alloc (.cells #[.int .i64 x0, .int .i64 x1, .int .i64 x2, .int .i64 x3, .int .i64 x4] 3)).heap.size (w.alloc (.cells #[.int .i64 x0, .int .i64 x1, .int .i64 x2, .int .i64 x3, .int .i64 x4] 3)) (some ⟨b, 0, none⟩) 5 5 [x0, x1, x2, x3, x4] := sl_at hb rfl rfl

set_option maxRecDepth 100000 in
set_option maxHeartbeats 800000 in
theorem film_any (i p q : Int) (w : World) : Calls Tryz.prog 210 #[.agg #[.int .i64 i, .int .i64 p, .int .i64 q]] w (RetB w (.bool (okFilm i p q))) := by
  go_enter Tryz.func210, Tryz.ntmps210
  go_wp2_with ((with_reducible refine (between_any _ _ _ _ _ _ _ (sl1 (by simp)) (by omega)).mono ?_); rintro e w2 ⟨rfl, hb⟩; obtain ⟨hc, hf⟩ := bcells hb; (have hz : w.heap.size < w2.heap.size := by (have := hb.size; (try simp at this); omega)))
  all_goals
    go_ret
    refine ⟨?_, by (repeat (first | exact Below.refl _ _ | apply below_al | apply below_dr | exact below_chain1 (by assumption) | (refine below_chain ?_ (by assumption)) | (refine below_st ?_ ?_)))⟩
    simp [okFilm, *]

end Go.Proofs.YtgohdcccfkjooaaGreatDoor

namespace Go.Proofs.YtgohdcccfkjooaaGreatDoor
open Go.RowKit

theorem SurfB.asph {w : World} {g : Nat} {s : Surf} {a : Option Addr} {n c : Nat} (h : SurfB w g s a n c) : SL w.heap.size w (some ⟨g, 5, none⟩) 4 4 [s.a0, s.a1, s.a2, s.a3] := by
  obtain ⟨_, _, _, _, _, h5, h6, h7, h8, _⟩ := h.cells
  refine ⟨rfl, Nat.le_refl _, fun _ => ⟨g, 5, rfl, h.lt, fun j hj => ?_⟩⟩
  match j, hj with
  | 0, _ => exact h5
  | 1, _ => exact h6
  | 2, _ => exact h7
  | 3, _ => exact h8
theorem SurfB.phase {w : World} {g : Nat} {s : Surf} {a : Option Addr} {n c : Nat} (h : SurfB w g s a n c) : SL w.heap.size w (some ⟨g, 9, none⟩) 2 2 [s.p0, s.p1] := by
  obtain ⟨_, _, _, _, _, _, _, _, _, h9, h10, _⟩ := h.cells
  refine ⟨rfl, Nat.le_refl _, fun _ => ⟨g, 9, rfl, h.lt, fun j hj => ?_⟩⟩
  match j, hj with
  | 0, _ => exact h9
  | 1, _ => exact h10

def test2 (s : Surf) : Bool := !outB (-1000000000) 1000000000 [s.curv, s.curvX, s.thick, s.dx, s.dy] && !outB (-1000000000) 1000000000 [s.a0, s.a1, s.a2, s.a3] && !outB (-1000000000) 1000000000 [s.p0, s.p1]
def test3 (s : Surf) : Bool := !outB (-100000000) 100000000 [s.conic, s.conicX] && !outB (-90000000) 90000000 [s.ax, s.ay, s.az]
def test4 (s : Surf) : Bool := !outB (-3) 3 [s.order] && !outB 0 1000000000 [s.semi, s.hole]
def test5 (s : Surf) : Bool := decide (s.semi = 0) || decide (s.hole < s.semi)

set_option maxRecDepth 100000 in
set_option maxHeartbeats 1600000 in
theorem lit_test2 (s : Surf) (a : Option Addr) (n c g : Nat) (w : World) (h : SurfB w g s a n c) : Calls Tryz.prog 203 #[.pointer (some ⟨g, 0, none⟩)] w (RetB w (.bool (test2 s))) := by
  obtain ⟨k0, k1, k2, k3, k4, k5, k6, k7, k8, k9, k10, k11, k12, k13, k14, k15, k16, k17, k18, k19, k20, k21⟩ := h.cells
  have hg := h.lt
  have H := Lib.hid h; clear h
  go_enter Tryz.func203, Tryz.ntmps203
  go_wp2_with (first
    | ((with_reducible refine (about_any _ _ _ _ _ _ (sl5 (by simp)) (by omega) (by omega) (by omega)).mono ?_); rintro e w2 ⟨rfl, hb⟩; obtain ⟨hc, hf⟩ := bcells hb; (have hz : g < w2.heap.size := by (have := hb.size; (try simp at this); omega)); have B1 := Lib.hid (below_chain (below_al (Below.refl _ _)) hb); have S1 := Lib.hid (SurfB.asph (SurfB.go H.out B1.out hg)))
    | ((with_reducible refine (about_any _ _ _ _ _ _ S1.out (by omega) (by omega) (by omega)).mono ?_); rintro e w2 ⟨rfl, hb⟩; obtain ⟨hc, hf⟩ := bcells hb; (have hz : g < w2.heap.size := by (have := hb.size; (try simp at this); omega)); have B2 := Lib.hid (below_chain B1.out hb); have S2 := Lib.hid (SurfB.phase (SurfB.go H.out B2.out hg)))
    | ((with_reducible refine (about_any _ _ _ _ _ _ S2.out (by omega) (by omega) (by omega)).mono ?_); rintro e w2 ⟨rfl, hb⟩; obtain ⟨hc, hf⟩ := bcells hb; (have hz : g < w2.heap.size := by (have := hb.size; (try simp at this); omega))))
  all_goals
    go_ret
    refine ⟨?_, by (repeat (first | exact Below.refl _ _ | apply below_al | apply below_dr | exact below_chain1 (by assumption) | (refine below_chain ?_ (by assumption)) | (refine below_st ?_ ?_)))⟩
    simp [test2, *]

set_option maxRecDepth 100000 in
set_option maxHeartbeats 1600000 in
theorem lit_test3 (s : Surf) (a : Option Addr) (n c g : Nat) (w : World) (h : SurfB w g s a n c) : Calls Tryz.prog 205 #[.pointer (some ⟨g, 0, none⟩)] w (RetB w (.bool (test3 s))) := by
  obtain ⟨k0, k1, k2, k3, k4, k5, k6, k7, k8, k9, k10, k11, k12, k13, k14, k15, k16, k17, k18, k19, k20, k21⟩ := h.cells
  have hg := h.lt
  have H := Lib.hid h; clear h
  go_enter Tryz.func205, Tryz.ntmps205
  go_wp2_with (first
    | ((with_reducible refine (about_any _ _ _ _ _ _ (sl2 (by simp)) (by omega) (by omega) (by omega)).mono ?_); rintro e w2 ⟨rfl, hb⟩; obtain ⟨hc, hf⟩ := bcells hb; (have hz : g < w2.heap.size := by (have := hb.size; (try simp at this); omega)))
    | ((with_reducible refine (about_any _ _ _ _ _ _ (sl3 (by simp)) (by omega) (by omega) (by omega)).mono ?_); rintro e w2 ⟨rfl, hb⟩; obtain ⟨hc, hf⟩ := bcells hb; (have hz : g < w2.heap.size := by (have := hb.size; (try simp at this); omega))))
  all_goals
    go_ret
    refine ⟨?_, by (repeat (first | exact Below.refl _ _ | apply below_al | apply below_dr | exact below_chain1 (by assumption) | (refine below_chain ?_ (by assumption)) | (refine below_st ?_ ?_)))⟩
    simp [test3, *]

set_option maxRecDepth 100000 in
set_option maxHeartbeats 1600000 in
theorem lit_test4 (s : Surf) (a : Option Addr) (n c g : Nat) (w : World) (h : SurfB w g s a n c) : Calls Tryz.prog 206 #[.pointer (some ⟨g, 0, none⟩)] w (RetB w (.bool (test4 s))) := by
  obtain ⟨k0, k1, k2, k3, k4, k5, k6, k7, k8, k9, k10, k11, k12, k13, k14, k15, k16, k17, k18, k19, k20, k21⟩ := h.cells
  have hg := h.lt
  have H := Lib.hid h; clear h
  go_enter Tryz.func206, Tryz.ntmps206
  go_wp2_with (first
    | ((with_reducible refine (about_any _ _ _ _ _ _ (sl1 (by simp)) (by omega) (by omega) (by omega)).mono ?_); rintro e w2 ⟨rfl, hb⟩; obtain ⟨hc, hf⟩ := bcells hb; (have hz : g < w2.heap.size := by (have := hb.size; (try simp at this); omega)))
    | ((with_reducible refine (between_any _ _ _ _ _ _ _ (sl2 (by simp)) (by omega)).mono ?_); rintro e w2 ⟨rfl, hb⟩; obtain ⟨hc, hf⟩ := bcells hb; (have hz : g < w2.heap.size := by (have := hb.size; (try simp at this); omega))))
  all_goals
    go_ret
    refine ⟨?_, by (repeat (first | exact Below.refl _ _ | apply below_al | apply below_dr | exact below_chain1 (by assumption) | (refine below_chain ?_ (by assumption)) | (refine below_st ?_ ?_)))⟩
    simp [test4, *]

set_option maxRecDepth 100000 in
theorem lit_test5 (s : Surf) (a : Option Addr) (n c g : Nat) (w : World) (h : SurfB w g s a n c) : Calls Tryz.prog 207 #[.pointer (some ⟨g, 0, none⟩)] w (RetB w (.bool (test5 s))) := by
  obtain ⟨k0, k1, k2, k3, k4, k5, k6, k7, k8, k9, k10, k11, k12, k13, k14, k15, k16, k17, k18, k19, k20, k21⟩ := h.cells
  clear h
  go_enter Tryz.func207, Tryz.ntmps207
  go_wp2
  all_goals
    go_ret
    refine ⟨?_, Below.refl _ _⟩
    simp [test5, *]

set_option maxRecDepth 100000 in
theorem lit_test7 (s : Surf) (a : Option Addr) (n c g : Nat) (w : World) (h : SurfB w g s a n c) : Calls Tryz.prog 209 #[.pointer (some ⟨g, 0, none⟩)] w (RetB w (.bool (decide (n ≤ 8)))) := by
  obtain ⟨k0, k1, k2, k3, k4, k5, k6, k7, k8, k9, k10, k11, k12, k13, k14, k15, k16, k17, k18, k19, k20, k21⟩ := h.cells
  clear h
  go_enter Tryz.func209, Tryz.ntmps209
  go_wp2
  all_goals
    go_ret
    refine ⟨congrArg (fun b => Ending.returned (Value.bool b)) (decide_eq_decide.2 (by omega)), Below.refl _ _⟩

end Go.Proofs.YtgohdcccfkjooaaGreatDoor

namespace Go.Proofs.YtgohdcccfkjooaaGreatDoor

/-- what is asked where a round's body is left, a panic (with no deferred call of the round's own) taken in -/
def roundEnd (P : Program) (l : Nat) (R : Ending → World → Prop) (e : Exit) (a : Act) (w : World) : Prop :=
  match e with
  | .panic chain => a.defers = [] ∧ R (.panicked chain) w
  | e => roundPost P l R e a w

theorem round_panics {F : Fence} {n : Nat} {P : Program} {l : Nat} {f : FuncId} {fn : Func} {tmps : Array Value} {assign body : Code} {w : World} {R : Ending → World → Prop} (hfn : P.funcs[f]? = some fn) (hF : F.fn f)
    (h : assign.wpIn (F.inRound l) n P (Exit.then (fun a₁ w₁ => ∃ w₂, (Instr.beginRound l).run P w₁ = .ok () w₂ ∧ body.wpIn (F.inRound l) n P (roundEnd P l R) a₁ w₂) (fun _ _ _ => False)) { tmps := tmps, defers := [] } w) :
    RoundIn F n P l f tmps assign body w R := by
  refine ⟨hF, fun c cs hroom => ?_⟩
  obtain ⟨b, hb⟩ : ∃ b : Frame, b = { (default : Frame) with fn := f, kind := .normal, roundOf := some l } := ⟨_, rfl⟩
  have hbf : b.fn = f := by rw [hb]
  have hbk : b.kind = .normal := by rw [hb]
  have hbr : b.roundOf = some l := by rw [hb]
  have hin : (F.inRound l).fn b.fn := by rw [hbf]; exact hF
  have hstart : Frame.round l f tmps assign body .normal = b.atR { tmps := tmps, defers := [] } [.code assign, .beginRound, .code body] := by
    rw [hb]; simp [Frame.round, Frame.atR]
  have hrm : (F.inRound l).room ((c :: cs).length + 1 + n) := hroom
  rw [hstart]
  obtain ⟨e, a₁, w₁, hq, hto⟩ := h b [.beginRound, .code body] (c :: cs) hbr hin hrm
  match e, hq, hto with
  | .normal, ⟨w₂, hgo, hbody⟩, hto =>
    have hmid := StepsIn.trans hto (.one (fenced_calm (fr := b.atR a₁ [.beginRound, .code body]) hin hrm rfl) (stepR_beginRound hbr hgo))
    obtain ⟨e₂, a₂, w₃, hq₂, hto₂⟩ := hbody b [] (c :: cs) hbr hin hrm
    match e₂, hq₂, hto₂ with
    | .panic chain, ⟨hd, hR⟩, ⟨todo, hs⟩ =>
      have hlv : ({ b.atR a₂ todo with mode := .panicking chain } : Frame).leaving P w₃ (.panicked chain) := ⟨rfl, hd, fn, by show P.funcs[b.fn]? = some fn; rw [hbf]; exact hfn⟩
      exact ⟨.panicked chain, w₃, hR, hmid.trans (hs.trans (.one (fenced_leaving (fr := { b.atR a₂ todo with mode := .panicking chain }) hin hrm hlv) (step_leave_panicked hlv)))⟩
    | .normal, ⟨v, w₄, hend, hR⟩, hs => exact ⟨.returned v, w₄, hR, hmid.trans (StepsIn.trans hs (.one (fenced_calm (fr := b.atR a₂ []) hin hrm rfl) (stepR_round_end hbr hbk hend)))⟩
    | .ret, ⟨v, w₄, hend, hR⟩, hs =>
      obtain ⟨k, hs'⟩ := hs.2 (by rw [hbr]; rfl)
      exact ⟨.returned v, w₄, hR, hmid.trans (hs'.trans (.one (fenced_calm (fr := b.atR a₂ (.code .ret :: k)) hin hrm rfl) (stepR_round_ret hbr hbk hend)))⟩
    | .exit id, ⟨v, w₄, hend, hR⟩, hs =>
      obtain ⟨k, hx, hs'⟩ := hs.2 (by rw [hbr]; rfl) rfl
      exact ⟨.returned v, w₄, hR, hmid.trans (hs'.trans (.one (fenced_calm (fr := b.atR a₂ (.code (.exit id) :: k)) hin hrm rfl) (stepR_round_exit hbr hbk hx hend)))⟩
    | .goto t, ⟨v, w₄, hend, hR⟩, hs =>
      obtain ⟨k, hx, hs'⟩ := hs.2 (by rw [hbr]; rfl) rfl
      exact ⟨.returned v, w₄, hR, hmid.trans (hs'.trans (.one (fenced_calm (fr := b.atR a₂ (.code (.goto t) :: k)) hin hrm rfl) (stepR_round_goto hbr hbk hx hend)))⟩
    | .outgrown, hq₂, _ => exact hq₂.elim
  | .exit _, hq, _ => exact hq.elim
  | .goto _, hq, _ => exact hq.elim
  | .ret, hq, _ => exact hq.elim
  | .panic _, hq, _ => exact hq.elim
  | .outgrown, hq, _ => exact hq.elim
end Go.Proofs.YtgohdcccfkjooaaGreatDoor

namespace Go.Proofs.YtgohdcccfkjooaaGreatDoor

/-- the walk of code in a frame of the function fn0 (no round) -/
def wpA (fn0 : FuncId) (P : Program) (c : Code) (Q : Exit → Act → World → Prop) (a : Act) (w : World) : Prop :=
  ∀ (b : Frame) (k : List Item) (cs : List Frame), b.roundOf = none → b.fn = fn0 →
    ∃ e a' w', Q e a' w' ∧ ArrivesIn (Machine.fenced P Fence.wide) P (lone (b.atR a (.code c :: k)) cs w) b k cs e a' w'

variable {fn0 : FuncId} {P : Program} {Q : Exit → Act → World → Prop} {a : Act} {w : World}

theorem wpA_of_wp {c : Code} (h : c.wp P Q a w) : wpA fn0 P c Q a w := fun b k cs hro _ => (wpIn_wide (n := 0)).2 h b k cs hro trivial (room_wide _)

theorem wpA_seq {x y : Code} (h : wpA fn0 P x (Exit.then (wpA fn0 P y Q) Q) a w) : wpA fn0 P (.seq x y) Q a w := by
  intro b k cs hro hb
  have h0 : (lone (b.atR a (.code (.seq x y) :: k)) cs w).fenced P Fence.wide := fenced_calm (n := 0) trivial (room_wide _) rfl
  obtain ⟨e, a₁, w₁, hq, har⟩ := h b (.code y :: k) cs hro hb
  match e, hq, har with
  | .normal, hq, har =>
    obtain ⟨e₂, a₂, w₂, hq₂, har₂⟩ := hq b k cs hro hb
    exact ⟨e₂, a₂, w₂, hq₂, ArrivesIn.of_steps (StepsIn.head h0 stepR_seq har) har₂⟩
  | .exit i, hq, har => exact ⟨_, a₁, w₁, hq, .of_steps (.one h0 stepR_seq) (.pass (x := .code y) rfl (fun _ _ => .inl (by simp)) har)⟩
  | .goto i, hq, har => exact ⟨_, a₁, w₁, hq, .of_steps (.one h0 stepR_seq) (.pass (x := .code y) rfl (fun _ _ => .inl (by simp)) har)⟩
  | .ret, hq, har => exact ⟨_, a₁, w₁, hq, .of_steps (.one h0 stepR_seq) (.pass (x := .code y) rfl (fun _ _ => .inl (by simp)) har)⟩
  | .panic ch, hq, har => exact ⟨_, a₁, w₁, hq, .of_steps (.one h0 stepR_seq) (.pass (x := .code y) rfl (fun _ _ => .inl (by simp)) har)⟩
  | .outgrown, hq, har => exact ⟨_, a₁, w₁, hq, .of_steps (.one h0 stepR_seq) (.pass (x := .code y) rfl (fun _ _ => .inl (by simp)) har)⟩
theorem wpA_seq_k {x y : Code} (h : ∀ K : Act → World → Prop, (∀ a w, wpA fn0 P y Q a w → K a w) → x.wp P (Exit.then K Q) a w) : wpA fn0 P (.seq x y) Q a w := wpA_seq (wpA_of_wp (h _ fun _ _ h => h))

/-- two ways out alone -/
def endOr (Q : Exit → Act → World → Prop) (e : Exit) (a : Act) (w : World) : Prop :=
  match e with
  | .normal => Q .normal a w
  | .panic ch => Q (.panic ch) a w
  | _ => False
theorem wpA_block {id : Nat} {c : Code} (h : wpA fn0 P c (endOr Q) a w) : wpA fn0 P (.block id c) Q a w := by
  intro b k cs hro hb
  have h0 : (lone (b.atR a (.code (.block id c) :: k)) cs w).fenced P Fence.wide := fenced_calm (n := 0) trivial (room_wide _) rfl
  obtain ⟨e, a₁, w₁, hq, har⟩ := h b (.inBlock id :: k) cs hro hb
  match e, hq, har with
  | .normal, hq, har => exact ⟨.normal, a₁, w₁, hq, StepsIn.head h0 stepR_block (StepsIn.trans har (.one (fenced_calm (n := 0) trivial (room_wide _) rfl) stepR_inBlock))⟩
  | .panic ch, hq, har => exact ⟨.panic ch, a₁, w₁, hq, ArrivesIn.of_steps (.one h0 stepR_block) har⟩
  | .exit _, hq, _ => exact hq.elim
  | .goto _, hq, _ => exact hq.elim
  | .ret, hq, _ => exact hq.elim
  | .outgrown, hq, _ => exact hq.elim

/-- a range over a function whose rounds leave no jump behind: it runs out, or a panic passes up -/
theorem wpA_range {g : Operand} {ps : Array Tmp} {assign body : Code} {l : Nat} {mark : List Deferred} {w₁ w₁' w₂ : World} {d : Deferred} {f : FuncId} {args : Array Value}
    (he : (Instr.enterLoop fn0 a.tmps ps assign body none).run P w = .ok (l, mark) w₁) (hres : (resolve a.eval (rangeCall g l) 0).run P w₁ = .ok d w₁') (hinv : (invoke d.target d.args).run P w₁' = .ok (.enter f args) w₂)
    (hcall : Calls P f args w₂ fun e w₃ => match e with
      | .returned _ => ∃ w₄, (Instr.endLoop l).run P w₃ = .ok none w₄ ∧ Q .normal { a with defers := mark ++ a.defers } w₄
      | .panicked chain => Q (.panic chain) { a with defers := mark ++ a.defers } w₃
      | .outgrown => False) : wpA fn0 P (.rangeFunc g ps assign body) Q a w := by
  intro b k cs hro hb
  rw [← hb, ← hro] at he
  have h0 : (lone (b.atR a (.code (.rangeFunc g ps assign body) :: k)) cs w).fenced P Fence.wide := fenced_lone (.inl trivial) (fun _ _ => trivial) (room_wide _)
  have henter := stepR_rangeFunc (P := P) (b := b) (a := a) (k := k) (cs := cs) (w := w) he hres hinv
  obtain ⟨e, w₃, fr, hR, hsteps, hfn, hleave⟩ := ((callsIn_wide (n := 0)).2 hcall).2 (b.atR { a with defers := mark ++ a.defers } (.inRangeFunc l :: k) :: cs) (room_wide _)
  match e, hR, hsteps, hleave with
  | .outgrown, hR, _, _ => exact hR.elim
  | .returned v, ⟨w₄, hend, hq⟩, hsteps, hleave =>
    have hl : (lone fr (b.atR { a with defers := mark ++ a.defers } (.inRangeFunc l :: k) :: cs) w₃).fenced P Fence.wide := fenced_leaving (n := 0) trivial (room_wide _) hleave
    refine ⟨.normal, _, w₄, hq, ?_⟩
    have hback : step P (lone fr (b.atR { a with defers := mark ++ a.defers } (.inRangeFunc l :: k) :: cs) w₃) = .next (lone (b.atR { a with defers := mark ++ a.defers } (.endRangeFunc l :: k)) cs w₃) := by
      rw [← finish_atR_inRangeFunc l v]; exact step_leave_returned hleave
    exact StepsIn.head h0 henter (StepsIn.trans hsteps (StepsIn.head hl hback (.one (fenced_calm (n := 0) trivial (room_wide _) rfl) (stepR_endRangeFunc hend))))
  | .panicked chain, hq, hsteps, hleave =>
    have hl : (lone fr (b.atR { a with defers := mark ++ a.defers } (.inRangeFunc l :: k) :: cs) w₃).fenced P Fence.wide := fenced_leaving (n := 0) trivial (room_wide _) hleave
    refine ⟨.panic chain, _, w₃, hq, .inRangeFunc l :: k, StepsIn.head h0 henter (StepsIn.trans hsteps (.one hl ?_))⟩
    rw [← Frame.raise_atR]; exact step_leave_panicked hleave

/-- a function's contract out of its body, walked in its own frame, marks and deferred calls at its end -/
theorem calls_of_wpA {f : FuncId} {fn : Func} {c : Code} {args : Array Value} {R : Ending → World → Prop} (hf : P.funcs[f]? = some fn) (hb : fn.body = some c)
    (h : wpA f P c (bodyPostM Fence.wide 0 P fn R) { tmps := args ++ Array.replicate (fn.ntmps - args.size) undef, defers := [] } w) : Calls P f args w R := by
  refine (callsIn_wide (n := 0)).1 ⟨trivial, fun cs hr => ?_⟩
  obtain ⟨b, hbd⟩ : ∃ b : Frame, b = { (default : Frame) with fn := f, kind := .normal, roundOf := none } := ⟨_, rfl⟩
  have hbf : b.fn = f := by rw [hbd]
  have hbk : b.kind = .normal := by rw [hbd]
  have hbr : b.roundOf = none := by rw [hbd]
  have henter : Frame.enter P f args .normal = b.atR { tmps := args ++ Array.replicate (fn.ntmps - args.size) undef, defers := [] } [.code c] := by
    rw [hbd]; simp [Frame.enter, Frame.atR, hf, hb]
  have hfn : P.funcs[b.fn]? = some fn := by rw [hbf]; exact hf
  obtain ⟨e, a', w', hq, har⟩ := h b [] cs hbr hbf
  rw [henter]
  match e, hq, har with
  | .normal, hq, har =>
    obtain ⟨e', w'', fr', hR, hs, hfr, hl⟩ := leaves_stepsInM a'.defers .returning w' { b.atR a' [] with mode := .returning } cs rfl rfl rfl hfn hbk trivial (room_wide _) hq
    exact ⟨e', w'', fr', hR, ComesIn.of_steps (StepsIn.trans har (.one (fenced_calm (n := 0) (fr := b.atR a' []) trivial (room_wide _) rfl) (stepR_end hbr))) hs, hfr.trans hbf, hl⟩
  | .ret, hq, har =>
    obtain ⟨todo, hs₀⟩ := har.1 hbr
    obtain ⟨e', w'', fr', hR, hs, hfr, hl⟩ := leaves_stepsInM a'.defers .returning w' { b.atR a' todo with mode := .returning } cs rfl rfl rfl hfn hbk trivial (room_wide _) hq
    exact ⟨e', w'', fr', hR, ComesIn.of_steps hs₀ hs, hfr.trans hbf, hl⟩
  | .panic chain, hq, har =>
    obtain ⟨todo, hs₀⟩ := har
    obtain ⟨e', w'', fr', hR, hs, hfr, hl⟩ := leaves_stepsInM a'.defers (.panicking chain) w' { b.atR a' todo with mode := .panicking chain } cs rfl rfl rfl hfn hbk trivial (room_wide _) hq
    exact ⟨e', w'', fr', hR, ComesIn.of_steps hs₀ hs, hfr.trans hbf, hl⟩
  | .exit _, hq, _ => exact hq.elim
  | .goto _, hq, _ => exact hq.elim
  | .outgrown, hq, har => exact ⟨.outgrown, w', b, hq, har.resolve_left (by rw [hbk]; simp), hbf, trivial⟩
end Go.Proofs.YtgohdcccfkjooaaGreatDoor

namespace Go.Proofs
open Go.Shelf
def Tryz.lays156_ren : Go.Shelf.Ren := ⟨fun | 156 => 31 | 165 => 59 | 166 => 60 | 169 => 30 | 240 => 62 | 241 => 98 | 276 => 99 | 277 => 141 | n => n, fun | 31 => 52 | 9 => 9 | 3 => 3 | 4 => 4 | 0 => 0 | 20 => 20 | 72 => 86 | 76 => 141 | 70 => 84 | 37 => 24 | 75 => 88 | 127 => 146 | 164 => 198 | 5 => 5 | 80 => 94 | n => n, fun | n => n⟩
theorem Tryz.lays156 : Go.Proofs.Lays.n156 Tryz.prog Tryz.lays156_ren := {
  mixed := by kernel_rfl
  f156 := Tryz.func31.trans (congrArg some (by kernel_rfl))
  f165 := Tryz.func59.trans (congrArg some (by kernel_rfl))
  f166 := Tryz.func60.trans (congrArg some (by kernel_rfl))
  f169 := Tryz.func30.trans (congrArg some (by kernel_rfl))
  f240 := Tryz.func62.trans (congrArg some (by kernel_rfl))
  f241 := Tryz.func98.trans (congrArg some (by kernel_rfl))
  f276 := Tryz.func99.trans (congrArg some (by kernel_rfl))
  f277 := Tryz.func141.trans (congrArg some (by kernel_rfl))
  t0 := Tryz.underlying0
  a0 := Tryz.isAgg0
  z0 := Tryz.sizeOf0
  v0 := Tryz.zeroValue0
  t3 := Tryz.underlying3
  a3 := Tryz.isAgg3
  z3 := Tryz.sizeOf3
  v3 := Tryz.zeroValue3
  t4 := Tryz.underlying4
  a4 := Tryz.isAgg4
  z4 := Tryz.sizeOf4
  v4 := Tryz.zeroValue4
  t9 := Tryz.underlying9
  a9 := Tryz.isAgg9
  z9 := Tryz.sizeOf9
  v9 := Tryz.zeroValue9
  t20 := Tryz.underlying20
  a20 := Tryz.isAgg20
  z20 := Tryz.sizeOf20
  v20 := Tryz.zeroValue20
  t31 := Tryz.underlying52
  a31 := Tryz.isAgg52
  z31 := Tryz.sizeOf52
  v31 := Tryz.zeroValue52
  t37 := Tryz.underlying24
  a37 := Tryz.isAgg24
  z37 := Tryz.sizeOf24
  v37 := Tryz.zeroValue24
  t70 := Tryz.underlying84
  a70 := Tryz.isAgg84
  z70 := Tryz.sizeOf84
  v70 := Tryz.zeroValue84
  t72 := Tryz.underlying86
  a72 := Tryz.isAgg86
  z72 := Tryz.sizeOf86
  v72 := Tryz.zeroValue86
  t75 := Tryz.underlying88
  a75 := Tryz.isAgg88
  z75 := Tryz.sizeOf88
  v75 := Tryz.zeroValue88
  t76 := Tryz.underlying141
  a76 := Tryz.isAgg141
  z76 := Tryz.sizeOf141
  v76 := Tryz.zeroValue141
  t127 := Tryz.underlying146
  a127 := Tryz.isAgg146
  z127 := Tryz.sizeOf146
  v127 := Tryz.zeroValue146
  t164 := Tryz.underlying198
  a164 := Tryz.isAgg198
  z164 := Tryz.sizeOf198
  v164 := Tryz.zeroValue198 }
theorem Tryz.Builder_Extra_156 : Builder.Extra Tryz.prog Tryz.lays156_ren := {
  sizeBuilder := by kernel_rfl
  liesBuilder := by kernel_rfl
  t5 := Tryz.underlying5
  a5 := Tryz.isAgg5
  z5 := Tryz.sizeOf5
  v5 := Tryz.zeroValue5
  infoByte := by kernel_rfl
  cellsByte := by kernel_rfl
  sizeByte := by kernel_rfl
  neB5 := by decide }
open Go.RowKit in
/-- strings.Join: "Join concatenates the elements of its first argument to create a single string. The separator string sep is placed between elements in the resulting string.": HOWEVER MANY ELEMENTS. Below the heap's end the world is as it was. (LAID: no walk: one application.) -/
theorem Tryz.strings_Join (bk o c : Nat) (xs : List ByteArray) (sep : ByteArray) (w : World) (hcells : ∀ (j : Nat) x, xs[j]? = some x → w.cell? ⟨bk, o + j, none⟩ = some (.string x)) (hbk : bk < w.heap.size) (hN : xs.length ≤ 140737488355328) (hcap : xs.length ≤ c) (hlen : (Lib.join (xs.map (·.data.toList)) sep.data.toList).length ≤ 140737488355328) :
    Calls Tryz.prog 31 #[.slice (some ⟨bk, o, none⟩) xs.length c, .string sep] w fun e w' => e = .returned (.string ⟨(Lib.join (xs.map (·.data.toList)) sep.data.toList).toArray⟩) ∧ Below w.heap.size w w' := Any.strings_Join Tryz.lays156 Tryz.Builder_Extra_156 bk o c xs sep w hcells hbk hN hcap hlen
def Tryz.lays162_ren : Go.Shelf.Ren := ⟨fun | 162 => 171 | 232 => 218 | 227 => 219 | 234 => 220 | 236 => 221 | 228 => 246 | 271 => 247 | 151 => 248 | 120 => 263 | 197 => 102 | 152 => 264 | 260 => 142 | 137 => 276 | 119 => 277 | 224 => 145 | 225 => 144 | 217 => 143 | 266 => 184 | n => n, fun | 9 => 9 | 4 => 4 | 3 => 3 | 5 => 5 | 117 => 299 | 116 => 298 | 0 => 0 | 124 => 302 | 21 => 21 | 105 => 201 | 46 => 137 | 119 => 273 | 139 => 276 | 138 => 275 | n => n, fun | 3 => 6 | 4 => 7 | n => n⟩
theorem Tryz.lays162 : Go.Proofs.Lays.n162 Tryz.prog Tryz.lays162_ren := {
  mixed := by kernel_rfl
  f119 := Tryz.func277.trans (congrArg some (by kernel_rfl))
  f120 := Tryz.func263.trans (congrArg some (by kernel_rfl))
  f137 := Tryz.func276.trans (congrArg some (by kernel_rfl))
  f151 := Tryz.func248.trans (congrArg some (by kernel_rfl))
  f152 := Tryz.func264.trans (congrArg some (by kernel_rfl))
  f162 := Tryz.func171.trans (congrArg some (by kernel_rfl))
  f197 := Tryz.func102.trans (congrArg some (by kernel_rfl))
  f217 := Tryz.func143.trans (congrArg some (by kernel_rfl))
  f224 := Tryz.func145.trans (congrArg some (by kernel_rfl))
  f225 := Tryz.func144.trans (congrArg some (by kernel_rfl))
  f227 := Tryz.func219.trans (congrArg some (by kernel_rfl))
  f228 := Tryz.func246.trans (congrArg some (by kernel_rfl))
  f232 := Tryz.func218.trans (congrArg some (by kernel_rfl))
  f234 := Tryz.func220.trans (congrArg some (by kernel_rfl))
  f236 := Tryz.func221.trans (congrArg some (by kernel_rfl))
  f260 := Tryz.func142.trans (congrArg some (by kernel_rfl))
  f266 := Tryz.func184.trans (congrArg some (by kernel_rfl))
  f271 := Tryz.func247.trans (congrArg some (by kernel_rfl))
  t0 := Tryz.underlying0
  a0 := Tryz.isAgg0
  z0 := Tryz.sizeOf0
  v0 := Tryz.zeroValue0
  t3 := Tryz.underlying3
  a3 := Tryz.isAgg3
  z3 := Tryz.sizeOf3
  v3 := Tryz.zeroValue3
  t4 := Tryz.underlying4
  a4 := Tryz.isAgg4
  z4 := Tryz.sizeOf4
  v4 := Tryz.zeroValue4
  t5 := Tryz.underlying5
  a5 := Tryz.isAgg5
  z5 := Tryz.sizeOf5
  v5 := Tryz.zeroValue5
  t9 := Tryz.underlying9
  a9 := Tryz.isAgg9
  z9 := Tryz.sizeOf9
  v9 := Tryz.zeroValue9
  t21 := Tryz.underlying21
  a21 := Tryz.isAgg21
  z21 := Tryz.sizeOf21
  v21 := Tryz.zeroValue21
  t46 := Tryz.underlying137
  a46 := Tryz.isAgg137
  z46 := Tryz.sizeOf137
  v46 := Tryz.zeroValue137
  t105 := Tryz.underlying201
  a105 := Tryz.isAgg201
  z105 := Tryz.sizeOf201
  v105 := Tryz.zeroValue201
  t116 := Tryz.underlying298
  a116 := Tryz.isAgg298
  z116 := Tryz.sizeOf298
  t117 := Tryz.underlying299
  a117 := Tryz.isAgg299
  z117 := Tryz.sizeOf299
  v117 := Tryz.zeroValue299
  t119 := Tryz.underlying273
  a119 := Tryz.isAgg273
  z119 := Tryz.sizeOf273
  t124 := Tryz.underlying302
  a124 := Tryz.isAgg302
  z124 := Tryz.sizeOf302
  v124 := Tryz.zeroValue302
  t138 := Tryz.underlying275
  a138 := Tryz.isAgg275
  z138 := Tryz.sizeOf275
  v138 := Tryz.zeroValue275
  t139 := Tryz.underlying276
  a139 := Tryz.isAgg276
  z139 := Tryz.sizeOf276
  v139 := Tryz.zeroValue276
  g3 := by kernel_rfl
  g4 := by kernel_rfl }
open Go.RowKit in
/-- strings.TrimRight: "TrimRight returns a slice of the string s, with all trailing Unicode code points contained in cutset removed.": AT A cutset OF ONE ASCII BYTE. The world is as it was. (LAID: no walk: one application.) -/
theorem Tryz.strings_TrimRight_one (s : ByteArray) (c : UInt8) (hc : c.toNat < 128) (w : World) (hs : s.size ≤ 9223372036854775807) :
    Calls Tryz.prog 171 #[.string s, .string ⟨#[c]⟩] w fun e w' => e = .returned (.string ⟨(Lib.trimRightB s.data.toList c).toArray⟩) ∧ w' = w := Any.strings_TrimRight_one Tryz.lays162 s c hc w hs
def Tryz.laysM171_ren : Go.Shelf.Ren := ⟨fun | 171 => 128 | 243 => 172 | 246 => 222 | 283 => 249 | 284 => 250 | 285 => 251 | 286 => 252 | 129 => 266 | 317 => 265 | 318 => 267 | 319 => 268 | 320 => 269 | 337 => 278 | 338 => 279 | n => n, fun | 3 => 3 | 9 => 9 | 2 => 2 | 4 => 4 | 171 => 323 | 0 => 0 | 53 => 195 | 37 => 24 | 5 => 5 | 173 => 326 | 212 => 336 | 51 => 192 | 20 => 20 | 213 => 337 | 46 => 137 | 232 => 354 | 233 => 355 | n => n, fun | 17 => 8 | 18 => 12 | 19 => 13 | n => n⟩
theorem Tryz.laysM171 : Go.Proofs.LaysM.n171 Tryz.prog Tryz.laysM171_ren := {
  mixed := by kernel_rfl
  f129 := Tryz.func266.trans (congrArg some (by kernel_rfl))
  f171 := Tryz.func128.trans (congrArg some (by kernel_rfl))
  f243 := Tryz.func172.trans (congrArg some (by kernel_rfl))
  f246 := Tryz.func222.trans (congrArg some (by kernel_rfl))
  f283 := Tryz.func249.trans (congrArg some (by kernel_rfl))
  f284 := Tryz.func250.trans (congrArg some (by kernel_rfl))
  f285 := Tryz.func251.trans (congrArg some (by kernel_rfl))
  f286 := Tryz.func252.trans (congrArg some (by kernel_rfl))
  f317 := Tryz.func265.trans (congrArg some (by kernel_rfl))
  f318 := Tryz.func267.trans (congrArg some (by kernel_rfl))
  f319 := Tryz.func268.trans (congrArg some (by kernel_rfl))
  f320 := Tryz.func269.trans (congrArg some (by kernel_rfl))
  f337 := Tryz.func278.trans (congrArg some (by kernel_rfl))
  f338 := Tryz.func279.trans (congrArg some (by kernel_rfl))
  t0 := Tryz.underlying0
  a0 := Tryz.isAgg0
  z0 := Tryz.sizeOf0
  v0 := Tryz.zeroValue0
  t2 := Tryz.underlying2
  a2 := Tryz.isAgg2
  z2 := Tryz.sizeOf2
  v2 := Tryz.zeroValue2
  t3 := Tryz.underlying3
  a3 := Tryz.isAgg3
  z3 := Tryz.sizeOf3
  v3 := Tryz.zeroValue3
  t4 := Tryz.underlying4
  a4 := Tryz.isAgg4
  z4 := Tryz.sizeOf4
  v4 := Tryz.zeroValue4
  t5 := Tryz.underlying5
  a5 := Tryz.isAgg5
  z5 := Tryz.sizeOf5
  v5 := Tryz.zeroValue5
  t9 := Tryz.underlying9
  a9 := Tryz.isAgg9
  z9 := Tryz.sizeOf9
  v9 := Tryz.zeroValue9
  t20 := Tryz.underlying20
  a20 := Tryz.isAgg20
  z20 := Tryz.sizeOf20
  v20 := Tryz.zeroValue20
  t37 := Tryz.underlying24
  a37 := Tryz.isAgg24
  z37 := Tryz.sizeOf24
  v37 := Tryz.zeroValue24
  t46 := Tryz.underlying137
  a46 := Tryz.isAgg137
  z46 := Tryz.sizeOf137
  v46 := Tryz.zeroValue137
  t51 := Tryz.underlying192
  a51 := Tryz.isAgg192
  z51 := Tryz.sizeOf192
  v51 := Tryz.zeroValue192
  t53 := Tryz.underlying195
  a53 := Tryz.isAgg195
  z53 := Tryz.sizeOf195
  v53 := Tryz.zeroValue195
  t171 := Tryz.underlying323
  a171 := Tryz.isAgg323
  z171 := Tryz.sizeOf323
  v171 := Tryz.zeroValue323
  t173 := Tryz.underlying326
  a173 := Tryz.isAgg326
  z173 := Tryz.sizeOf326
  v173 := Tryz.zeroValue326
  t212 := Tryz.underlying336
  a212 := Tryz.isAgg336
  z212 := Tryz.sizeOf336
  v212 := Tryz.zeroValue336
  t213 := Tryz.underlying337
  a213 := Tryz.isAgg337
  z213 := Tryz.sizeOf337
  t232 := Tryz.underlying354
  a232 := Tryz.isAgg354
  z232 := Tryz.sizeOf354
  v232 := Tryz.zeroValue354
  t233 := Tryz.underlying355
  a233 := Tryz.isAgg355
  z233 := Tryz.sizeOf355
  v233 := Tryz.zeroValue355
  g17 := by kernel_rfl
  g18 := by kernel_rfl
  g19 := by kernel_rfl
  i0 := by kernel_rfl
  i2 := by kernel_rfl
  i3 := by kernel_rfl
  i4 := by kernel_rfl
  i5 := by kernel_rfl
  i9 := by kernel_rfl
  i20 := by kernel_rfl
  i37 := by kernel_rfl
  i46 := by kernel_rfl
  i51 := by kernel_rfl
  i53 := by kernel_rfl
  i171 := by kernel_rfl
  i173 := by kernel_rfl
  i212 := by kernel_rfl
  i232 := by kernel_rfl
  i233 := by kernel_rfl
  m17 := by kernel_rfl
  m18 := by kernel_rfl
  m19 := by kernel_rfl }
open Go.RowKit Go.Sort Go.Lib in
/-- strconv.Itoa: "Itoa is equivalent to FormatInt(int64(i), 10).": i's DECIMAL NUMERAL ('Lib.itoa': a '-' where i is negative, then the digits), FOR EVERY int. The world behind the call: the world before it, new blocks behind the heap (the library's 'var a [24]byte'), draws. (LAID: no walk: one application.) -/
theorem Tryz.strconv_Itoa (n : Int) (h0 : -9223372036854775808 ≤ n) (h1 : n ≤ 9223372036854775807) (w : World) (htab : Lib.TabIs Tryz.prog w "internal/strconv.uint64pow10" .u64 Lib.pow10Tab) :
    Calls Tryz.prog 128 #[.int .i64 n] w fun e w' => e = .returned (.string ⟨(Lib.itoa n).toArray⟩) ∧ ∃ k os, w' = grow (w.drewN k) os := Any.strconv_Itoa Tryz.laysM171 n h0 h1 w htab
def Tryz.laysC172_ren : Go.Shelf.Ren := ⟨fun | 172 => 226 | 244 => 254 | 245 => 255 | 247 => 270 | 279 => 271 | 280 => 272 | 281 => 273 | 282 => 274 | 287 => 280 | 316 => 281 | 171 => 128 | 205 => 282 | 321 => 284 | 322 => 285 | 243 => 172 | 246 => 222 | 283 => 249 | 284 => 250 | 285 => 251 | 286 => 252 | 129 => 266 | 317 => 265 | 318 => 267 | 319 => 268 | 320 => 269 | 337 => 278 | 338 => 279 | n => n, fun | 9 => 9 | 3 => 3 | 75 => 88 | 76 => 141 | 4 => 4 | 5 => 5 | 167 => 339 | 37 => 24 | 0 => 0 | 85 => 340 | 2 => 2 | 168 => 342 | 53 => 195 | 175 => 347 | 46 => 137 | 210 => 350 | 127 => 146 | 145 => 359 | 143 => 357 | 21 => 21 | 171 => 323 | 173 => 326 | 212 => 336 | 51 => 192 | 20 => 20 | 213 => 337 | 232 => 354 | 233 => 355 | 80 => 94 | n => n, fun | 15 => 9 | 16 => 10 | 17 => 8 | 18 => 12 | 19 => 13 | n => n⟩
theorem Tryz.laysC172 : Go.Proofs.LaysC.n172 Tryz.prog Tryz.laysC172_ren := {
  mixed := by kernel_rfl
  f129 := Tryz.func266.trans (congrArg some (by kernel_rfl))
  f171 := Tryz.func128.trans (congrArg some (by kernel_rfl))
  f172 := Tryz.func226.trans (congrArg some (by kernel_rfl))
  f205 := Tryz.func282.trans (congrArg some (by kernel_rfl))
  f243 := Tryz.func172.trans (congrArg some (by kernel_rfl))
  f244 := Tryz.func254.trans (congrArg some (by kernel_rfl))
  f245 := Tryz.func255.trans (congrArg some (by kernel_rfl))
  f246 := Tryz.func222.trans (congrArg some (by kernel_rfl))
  f247 := Tryz.func270.trans (congrArg some (by kernel_rfl))
  f279 := Tryz.func271.trans (congrArg some (by kernel_rfl))
  f280 := Tryz.func272.trans (congrArg some (by kernel_rfl))
  f281 := Tryz.func273.trans (congrArg some (by kernel_rfl))
  f282 := Tryz.func274.trans (congrArg some (by kernel_rfl))
  f283 := Tryz.func249.trans (congrArg some (by kernel_rfl))
  f284 := Tryz.func250.trans (congrArg some (by kernel_rfl))
  f285 := Tryz.func251.trans (congrArg some (by kernel_rfl))
  f286 := Tryz.func252.trans (congrArg some (by kernel_rfl))
  f287 := Tryz.func280.trans (congrArg some (by kernel_rfl))
  f316 := Tryz.func281.trans (congrArg some (by kernel_rfl))
  f317 := Tryz.func265.trans (congrArg some (by kernel_rfl))
  f318 := Tryz.func267.trans (congrArg some (by kernel_rfl))
  f319 := Tryz.func268.trans (congrArg some (by kernel_rfl))
  f320 := Tryz.func269.trans (congrArg some (by kernel_rfl))
  f321 := Tryz.func284.trans (congrArg some (by kernel_rfl))
  f322 := Tryz.func285.trans (congrArg some (by kernel_rfl))
  f337 := Tryz.func278.trans (congrArg some (by kernel_rfl))
  f338 := Tryz.func279.trans (congrArg some (by kernel_rfl))
  t0 := Tryz.underlying0
  a0 := Tryz.isAgg0
  z0 := Tryz.sizeOf0
  v0 := Tryz.zeroValue0
  t2 := Tryz.underlying2
  a2 := Tryz.isAgg2
  z2 := Tryz.sizeOf2
  v2 := Tryz.zeroValue2
  t3 := Tryz.underlying3
  a3 := Tryz.isAgg3
  z3 := Tryz.sizeOf3
  v3 := Tryz.zeroValue3
  t4 := Tryz.underlying4
  a4 := Tryz.isAgg4
  z4 := Tryz.sizeOf4
  v4 := Tryz.zeroValue4
  t5 := Tryz.underlying5
  a5 := Tryz.isAgg5
  z5 := Tryz.sizeOf5
  v5 := Tryz.zeroValue5
  t9 := Tryz.underlying9
  a9 := Tryz.isAgg9
  z9 := Tryz.sizeOf9
  v9 := Tryz.zeroValue9
  t20 := Tryz.underlying20
  a20 := Tryz.isAgg20
  z20 := Tryz.sizeOf20
  v20 := Tryz.zeroValue20
  t21 := Tryz.underlying21
  a21 := Tryz.isAgg21
  z21 := Tryz.sizeOf21
  v21 := Tryz.zeroValue21
  t37 := Tryz.underlying24
  a37 := Tryz.isAgg24
  z37 := Tryz.sizeOf24
  v37 := Tryz.zeroValue24
  t46 := Tryz.underlying137
  a46 := Tryz.isAgg137
  z46 := Tryz.sizeOf137
  v46 := Tryz.zeroValue137
  t51 := Tryz.underlying192
  a51 := Tryz.isAgg192
  z51 := Tryz.sizeOf192
  v51 := Tryz.zeroValue192
  t53 := Tryz.underlying195
  a53 := Tryz.isAgg195
  z53 := Tryz.sizeOf195
  v53 := Tryz.zeroValue195
  t75 := Tryz.underlying88
  a75 := Tryz.isAgg88
  z75 := Tryz.sizeOf88
  v75 := Tryz.zeroValue88
  t76 := Tryz.underlying141
  a76 := Tryz.isAgg141
  z76 := Tryz.sizeOf141
  v76 := Tryz.zeroValue141
  t85 := Tryz.underlying340
  a85 := Tryz.isAgg340
  z85 := Tryz.sizeOf340
  v85 := Tryz.zeroValue340
  t127 := Tryz.underlying146
  a127 := Tryz.isAgg146
  z127 := Tryz.sizeOf146
  v127 := Tryz.zeroValue146
  t143 := Tryz.underlying357
  a143 := Tryz.isAgg357
  z143 := Tryz.sizeOf357
  v143 := Tryz.zeroValue357
  t145 := Tryz.underlying359
  a145 := Tryz.isAgg359
  z145 := Tryz.sizeOf359
  v145 := Tryz.zeroValue359
  t167 := Tryz.underlying339
  a167 := Tryz.isAgg339
  z167 := Tryz.sizeOf339
  v167 := Tryz.zeroValue339
  t168 := Tryz.underlying342
  a168 := Tryz.isAgg342
  z168 := Tryz.sizeOf342
  v168 := Tryz.zeroValue342
  t171 := Tryz.underlying323
  a171 := Tryz.isAgg323
  z171 := Tryz.sizeOf323
  v171 := Tryz.zeroValue323
  t173 := Tryz.underlying326
  a173 := Tryz.isAgg326
  z173 := Tryz.sizeOf326
  v173 := Tryz.zeroValue326
  t175 := Tryz.underlying347
  a175 := Tryz.isAgg347
  z175 := Tryz.sizeOf347
  v175 := Tryz.zeroValue347
  t210 := Tryz.underlying350
  a210 := Tryz.isAgg350
  z210 := Tryz.sizeOf350
  v210 := Tryz.zeroValue350
  t212 := Tryz.underlying336
  a212 := Tryz.isAgg336
  z212 := Tryz.sizeOf336
  v212 := Tryz.zeroValue336
  t213 := Tryz.underlying337
  a213 := Tryz.isAgg337
  z213 := Tryz.sizeOf337
  t232 := Tryz.underlying354
  a232 := Tryz.isAgg354
  z232 := Tryz.sizeOf354
  v232 := Tryz.zeroValue354
  t233 := Tryz.underlying355
  a233 := Tryz.isAgg355
  z233 := Tryz.sizeOf355
  v233 := Tryz.zeroValue355
  g15 := by kernel_rfl
  g16 := by kernel_rfl
  g17 := by kernel_rfl
  g18 := by kernel_rfl
  g19 := by kernel_rfl
  t80 := Tryz.underlying94
  a80 := Tryz.isAgg94
  z80 := Tryz.sizeOf94
  v80 := Tryz.zeroValue94
  i0 := by kernel_rfl
  i2 := by kernel_rfl
  i3 := by kernel_rfl
  i4 := by kernel_rfl
  i5 := by kernel_rfl
  i9 := by kernel_rfl
  i20 := by kernel_rfl
  i21 := by kernel_rfl
  i37 := by kernel_rfl
  i46 := by kernel_rfl
  i51 := by kernel_rfl
  i53 := by kernel_rfl
  i75 := by kernel_rfl
  i76 := by kernel_rfl
  i80 := by kernel_rfl
  i85 := by kernel_rfl
  i127 := by kernel_rfl
  i143 := by kernel_rfl
  i145 := by kernel_rfl
  i167 := by kernel_rfl
  i168 := by kernel_rfl
  i171 := by kernel_rfl
  i173 := by kernel_rfl
  i175 := by kernel_rfl
  i210 := by kernel_rfl
  i212 := by kernel_rfl
  i232 := by kernel_rfl
  i233 := by kernel_rfl
  m15 := by kernel_rfl
  m16 := by kernel_rfl
  m17 := by kernel_rfl
  m18 := by kernel_rfl
  m19 := by kernel_rfl
  c0 := by kernel_rfl
  c2 := by kernel_rfl
  c3 := by kernel_rfl
  c4 := by kernel_rfl
  c5 := by kernel_rfl
  c9 := by kernel_rfl
  c20 := by kernel_rfl
  c21 := by kernel_rfl
  c37 := by kernel_rfl
  c46 := by kernel_rfl
  c51 := by kernel_rfl
  c53 := by kernel_rfl
  c75 := by kernel_rfl
  c76 := by kernel_rfl
  c80 := by kernel_rfl
  c85 := by kernel_rfl
  c127 := by kernel_rfl
  c143 := by kernel_rfl
  c145 := by kernel_rfl
  c167 := by kernel_rfl
  c168 := by kernel_rfl
  c171 := by kernel_rfl
  c173 := by kernel_rfl
  c175 := by kernel_rfl
  c210 := by kernel_rfl
  c212 := by kernel_rfl
  c213 := by kernel_rfl
  c232 := by kernel_rfl
  c233 := by kernel_rfl }
open Go.RowKit in
/-- strconv.Atoi, AT EVERY STRING THAT SPELLS AN int ('Lib.atoiAll .. = .ok v'; of whatever length: leading zeros count): v, AND NO ERROR. The world: as it was, or with the one new row that '[]byte(..)' lays. (LAID: no walk: one application.) -/
theorem Tryz.strconv_Atoi_ok (s : ByteArray) (hmax : s.size ≤ 9223372036854775806) (v : Int) (h : Lib.atoiAll s.data.toList = .ok v) (w : World) :
    Calls Tryz.prog 226 #[.string s] w fun e w' => e = .returned (.tuple #[.int .i64 v, .nilIface]) ∧ (w' = w ∨ ∃ t, w' = Lib.bytesWorld w 5 t) := Any.strconv_Atoi_ok Tryz.laysC172 s hmax v h w
open Go.RowKit in
theorem Tryz.strconv_Atoi_range_var (s : ByteArray) (hlim : s.size ≤ 281474976710656) (h : Lib.atoiAll s.data.toList = .range) (tp : TypeId) (p : Value) (w : World) (hvar : w.var? Tryz.prog "strconv.ErrRange" = some #[.iface tp p]) :
    Calls Tryz.prog 226 #[.string s] w fun e w' => ∃ N, e = .returned (.tuple #[.int .i64 (Lib.atoiSat s.data.toList), .iface 342 (.pointer (some ⟨N, 0, none⟩))]) ∧ w.heap.size ≤ N ∧ w'.heap[N]? = some (.cells #[.string ⟨#[65, 116, 111, 105]⟩, .string s, .iface tp p] 350 (0, 0)) ∧ Below w.heap.size w w' := Any.strconv_Atoi_range_var Tryz.laysC172 s hlim h tp p w hvar
def Tryz.lays138_ren : Go.Shelf.Ren := ⟨fun | 138 => 53 | 195 => 93 | 218 => 94 | 143 => 67 | 219 => 103 | 217 => 143 | 225 => 144 | 224 => 145 | 267 => 146 | 266 => 184 | 314 => 185 | n => n, fun | 9 => 9 | 3 => 3 | 4 => 4 | 5 => 5 | 0 => 0 | 46 => 137 | 146 => 193 | 51 => 192 | n => n, fun | 1 => 5 | n => n⟩
theorem Tryz.lays138 : Go.Proofs.Lays.n138 Tryz.prog Tryz.lays138_ren := {
  mixed := by kernel_rfl
  f138 := Tryz.func53.trans (congrArg some (by kernel_rfl))
  f143 := Tryz.func67.trans (congrArg some (by kernel_rfl))
  f195 := Tryz.func93.trans (congrArg some (by kernel_rfl))
  f217 := Tryz.func143.trans (congrArg some (by kernel_rfl))
  f218 := Tryz.func94.trans (congrArg some (by kernel_rfl))
  f219 := Tryz.func103.trans (congrArg some (by kernel_rfl))
  f224 := Tryz.func145.trans (congrArg some (by kernel_rfl))
  f225 := Tryz.func144.trans (congrArg some (by kernel_rfl))
  f266 := Tryz.func184.trans (congrArg some (by kernel_rfl))
  f267 := Tryz.func146.trans (congrArg some (by kernel_rfl))
  f314 := Tryz.func185.trans (congrArg some (by kernel_rfl))
  t0 := Tryz.underlying0
  a0 := Tryz.isAgg0
  z0 := Tryz.sizeOf0
  v0 := Tryz.zeroValue0
  t3 := Tryz.underlying3
  a3 := Tryz.isAgg3
  z3 := Tryz.sizeOf3
  v3 := Tryz.zeroValue3
  t4 := Tryz.underlying4
  a4 := Tryz.isAgg4
  z4 := Tryz.sizeOf4
  v4 := Tryz.zeroValue4
  t5 := Tryz.underlying5
  a5 := Tryz.isAgg5
  z5 := Tryz.sizeOf5
  v5 := Tryz.zeroValue5
  t9 := Tryz.underlying9
  a9 := Tryz.isAgg9
  z9 := Tryz.sizeOf9
  v9 := Tryz.zeroValue9
  t46 := Tryz.underlying137
  a46 := Tryz.isAgg137
  z46 := Tryz.sizeOf137
  v46 := Tryz.zeroValue137
  t51 := Tryz.underlying192
  a51 := Tryz.isAgg192
  z51 := Tryz.sizeOf192
  v51 := Tryz.zeroValue192
  t146 := Tryz.underlying193
  a146 := Tryz.isAgg193
  z146 := Tryz.sizeOf193
  v146 := Tryz.zeroValue193
  g1 := by kernel_rfl }
open Go.RowKit Go.Lib in
/-- strings.Count AT A substr OF ONE BYTE ('hp'): "Count counts the number of non-overlapping instances of substr in s.": IT RETURNS 'Lib.countByte s (that byte)'; the world is as it was. ✋ NO CONTRACT HERE YET at an empty substr (utf8.RuneCountInString) or at a longer one (a loop over strings.Index). (LAID: no walk: one application.) -/
theorem Tryz.strings_Count_one (s : ByteArray) (c : UInt8) (w : World) :
    Calls Tryz.prog 53 #[.string s, .string ⟨#[c]⟩] w fun e w' => e = .returned (.int .i64 (Lib.countByte s.data.toList c)) ∧ w' = w := Any.strings_Count_one Tryz.lays138 s c w
def Tryz.lays101_ren : Go.Shelf.Ren := ⟨fun | 101 => 169 | 208 => 217 | 206 => 97 | n => n, fun | 9 => 9 | 4 => 4 | 3 => 3 | n => n, fun | n => n⟩
theorem Tryz.lays101 : Go.Proofs.Lays.n101 Tryz.prog Tryz.lays101_ren := {
  mixed := by kernel_rfl
  f101 := Tryz.func169.trans (congrArg some (by kernel_rfl))
  f206 := Tryz.func97.trans (congrArg some (by kernel_rfl))
  f208 := Tryz.func217.trans (congrArg some (by kernel_rfl))
  t3 := Tryz.underlying3
  a3 := Tryz.isAgg3
  z3 := Tryz.sizeOf3
  v3 := Tryz.zeroValue3
  t4 := Tryz.underlying4
  a4 := Tryz.isAgg4
  z4 := Tryz.sizeOf4
  v4 := Tryz.zeroValue4
  t9 := Tryz.underlying9
  a9 := Tryz.isAgg9
  z9 := Tryz.sizeOf9
  v9 := Tryz.zeroValue9 }
open Go.RowKit Go.Lib in
/-- strings.TrimPrefix: "TrimPrefix returns s without the provided leading prefix string. If s doesn't start with prefix, s is returned unchanged.": IT RETURNS 'Lib.trimPrefix s prefix'; the world is as it was. (LAID: no walk: one application.) -/
theorem Tryz.strings_TrimPrefix (s p : ByteArray) (w : World) :
    Calls Tryz.prog 169 #[.string s, .string p] w fun e w' => e = .returned (.string ⟨(Lib.trimPrefix s.data.toList p.data.toList).toArray⟩) ∧ w' = w := Any.strings_TrimPrefix Tryz.lays101 s p w
def Tryz.lays146_ren : Go.Shelf.Ren := ⟨fun | 146 => 27 | 221 => 63 | 268 => 100 | 138 => 53 | 143 => 67 | 195 => 93 | 197 => 102 | 218 => 94 | 219 => 103 | 260 => 142 | 217 => 143 | 225 => 144 | 224 => 145 | 267 => 146 | 266 => 184 | 314 => 185 | n => n, fun | 9 => 9 | 31 => 52 | 3 => 3 | 4 => 4 | 0 => 0 | 105 => 201 | 21 => 21 | 5 => 5 | 46 => 137 | 119 => 273 | 139 => 276 | 138 => 275 | 146 => 193 | 51 => 192 | n => n, fun | 1 => 5 | 3 => 6 | 4 => 7 | n => n⟩
theorem Tryz.lays146 : Go.Proofs.Lays.n146 Tryz.prog Tryz.lays146_ren := {
  mixed := by kernel_rfl
  f138 := Tryz.func53.trans (congrArg some (by kernel_rfl))
  f143 := Tryz.func67.trans (congrArg some (by kernel_rfl))
  f146 := Tryz.func27.trans (congrArg some (by kernel_rfl))
  f195 := Tryz.func93.trans (congrArg some (by kernel_rfl))
  f197 := Tryz.func102.trans (congrArg some (by kernel_rfl))
  f217 := Tryz.func143.trans (congrArg some (by kernel_rfl))
  f218 := Tryz.func94.trans (congrArg some (by kernel_rfl))
  f219 := Tryz.func103.trans (congrArg some (by kernel_rfl))
  f221 := Tryz.func63.trans (congrArg some (by kernel_rfl))
  f224 := Tryz.func145.trans (congrArg some (by kernel_rfl))
  f225 := Tryz.func144.trans (congrArg some (by kernel_rfl))
  f260 := Tryz.func142.trans (congrArg some (by kernel_rfl))
  f266 := Tryz.func184.trans (congrArg some (by kernel_rfl))
  f267 := Tryz.func146.trans (congrArg some (by kernel_rfl))
  f268 := Tryz.func100.trans (congrArg some (by kernel_rfl))
  f314 := Tryz.func185.trans (congrArg some (by kernel_rfl))
  t0 := Tryz.underlying0
  a0 := Tryz.isAgg0
  z0 := Tryz.sizeOf0
  v0 := Tryz.zeroValue0
  t3 := Tryz.underlying3
  a3 := Tryz.isAgg3
  z3 := Tryz.sizeOf3
  v3 := Tryz.zeroValue3
  t4 := Tryz.underlying4
  a4 := Tryz.isAgg4
  z4 := Tryz.sizeOf4
  v4 := Tryz.zeroValue4
  t5 := Tryz.underlying5
  a5 := Tryz.isAgg5
  z5 := Tryz.sizeOf5
  v5 := Tryz.zeroValue5
  t9 := Tryz.underlying9
  a9 := Tryz.isAgg9
  z9 := Tryz.sizeOf9
  v9 := Tryz.zeroValue9
  t21 := Tryz.underlying21
  a21 := Tryz.isAgg21
  z21 := Tryz.sizeOf21
  v21 := Tryz.zeroValue21
  t31 := Tryz.underlying52
  a31 := Tryz.isAgg52
  z31 := Tryz.sizeOf52
  v31 := Tryz.zeroValue52
  t46 := Tryz.underlying137
  a46 := Tryz.isAgg137
  z46 := Tryz.sizeOf137
  v46 := Tryz.zeroValue137
  t51 := Tryz.underlying192
  a51 := Tryz.isAgg192
  z51 := Tryz.sizeOf192
  v51 := Tryz.zeroValue192
  t105 := Tryz.underlying201
  a105 := Tryz.isAgg201
  z105 := Tryz.sizeOf201
  v105 := Tryz.zeroValue201
  t119 := Tryz.underlying273
  a119 := Tryz.isAgg273
  z119 := Tryz.sizeOf273
  t138 := Tryz.underlying275
  a138 := Tryz.isAgg275
  z138 := Tryz.sizeOf275
  v138 := Tryz.zeroValue275
  t139 := Tryz.underlying276
  a139 := Tryz.isAgg276
  z139 := Tryz.sizeOf276
  v139 := Tryz.zeroValue276
  t146 := Tryz.underlying193
  a146 := Tryz.isAgg193
  z146 := Tryz.sizeOf193
  v146 := Tryz.zeroValue193
  g1 := by kernel_rfl
  g3 := by kernel_rfl
  g4 := by kernel_rfl }
open Go.RowKit Go.Lib in
/-- strings.Split. (LAID: no walk: one application.) -/
theorem Tryz.strings_Split (s sep : ByteArray) (m : Int) (w : World) (hs : s.size < 4294967281) (hm : w.cell? ⟨5, 0, none⟩ = some (.int .i64 m)) (h1 : 1 ≤ sep.size) :
    Calls Tryz.prog 27 #[.string s, .string sep] w fun e w' =>
      e = .returned (.slice (some ⟨w.heap.size, 0, none⟩) (Lib.countB s sep + 1) (Lib.countB s sep + 1)) ∧ w' = w.alloc (.cells ((Lib.splitB sep 0 (Lib.countB s sep) s).map Value.string).toArray 9) := Any.strings_Split Tryz.lays146 (by kernel_rfl) s sep m w hs hm h1
def Tryz.lays154_ren : Go.Shelf.Ren := ⟨fun | 154 => 65 | 138 => 53 | 165 => 59 | 143 => 67 | 166 => 60 | 197 => 102 | 169 => 30 | 195 => 93 | 218 => 94 | 240 => 62 | 241 => 98 | 219 => 103 | 260 => 142 | 276 => 99 | 277 => 141 | 217 => 143 | 225 => 144 | 224 => 145 | 267 => 146 | 266 => 184 | 314 => 185 | n => n, fun | 9 => 9 | 3 => 3 | 4 => 4 | 72 => 86 | 0 => 0 | 76 => 141 | 105 => 201 | 21 => 21 | 5 => 5 | 70 => 84 | 20 => 20 | 37 => 24 | 75 => 88 | 127 => 146 | 164 => 198 | 46 => 137 | 119 => 273 | 139 => 276 | 138 => 275 | 146 => 193 | 51 => 192 | 80 => 94 | n => n, fun | 1 => 5 | 3 => 6 | 4 => 7 | n => n⟩
theorem Tryz.lays154 : Go.Proofs.Lays.n154 Tryz.prog Tryz.lays154_ren := {
  mixed := by kernel_rfl
  f138 := Tryz.func53.trans (congrArg some (by kernel_rfl))
  f143 := Tryz.func67.trans (congrArg some (by kernel_rfl))
  f154 := Tryz.func65.trans (congrArg some (by kernel_rfl))
  f165 := Tryz.func59.trans (congrArg some (by kernel_rfl))
  f166 := Tryz.func60.trans (congrArg some (by kernel_rfl))
  f169 := Tryz.func30.trans (congrArg some (by kernel_rfl))
  f195 := Tryz.func93.trans (congrArg some (by kernel_rfl))
  f197 := Tryz.func102.trans (congrArg some (by kernel_rfl))
  f217 := Tryz.func143.trans (congrArg some (by kernel_rfl))
  f218 := Tryz.func94.trans (congrArg some (by kernel_rfl))
  f219 := Tryz.func103.trans (congrArg some (by kernel_rfl))
  f224 := Tryz.func145.trans (congrArg some (by kernel_rfl))
  f225 := Tryz.func144.trans (congrArg some (by kernel_rfl))
  f240 := Tryz.func62.trans (congrArg some (by kernel_rfl))
  f241 := Tryz.func98.trans (congrArg some (by kernel_rfl))
  f260 := Tryz.func142.trans (congrArg some (by kernel_rfl))
  f266 := Tryz.func184.trans (congrArg some (by kernel_rfl))
  f267 := Tryz.func146.trans (congrArg some (by kernel_rfl))
  f276 := Tryz.func99.trans (congrArg some (by kernel_rfl))
  f277 := Tryz.func141.trans (congrArg some (by kernel_rfl))
  f314 := Tryz.func185.trans (congrArg some (by kernel_rfl))
  t0 := Tryz.underlying0
  a0 := Tryz.isAgg0
  z0 := Tryz.sizeOf0
  v0 := Tryz.zeroValue0
  t3 := Tryz.underlying3
  a3 := Tryz.isAgg3
  z3 := Tryz.sizeOf3
  v3 := Tryz.zeroValue3
  t4 := Tryz.underlying4
  a4 := Tryz.isAgg4
  z4 := Tryz.sizeOf4
  v4 := Tryz.zeroValue4
  t5 := Tryz.underlying5
  a5 := Tryz.isAgg5
  z5 := Tryz.sizeOf5
  v5 := Tryz.zeroValue5
  t9 := Tryz.underlying9
  a9 := Tryz.isAgg9
  z9 := Tryz.sizeOf9
  v9 := Tryz.zeroValue9
  t20 := Tryz.underlying20
  a20 := Tryz.isAgg20
  z20 := Tryz.sizeOf20
  v20 := Tryz.zeroValue20
  t21 := Tryz.underlying21
  a21 := Tryz.isAgg21
  z21 := Tryz.sizeOf21
  v21 := Tryz.zeroValue21
  t37 := Tryz.underlying24
  a37 := Tryz.isAgg24
  z37 := Tryz.sizeOf24
  v37 := Tryz.zeroValue24
  t46 := Tryz.underlying137
  a46 := Tryz.isAgg137
  z46 := Tryz.sizeOf137
  v46 := Tryz.zeroValue137
  t51 := Tryz.underlying192
  a51 := Tryz.isAgg192
  z51 := Tryz.sizeOf192
  v51 := Tryz.zeroValue192
  t70 := Tryz.underlying84
  a70 := Tryz.isAgg84
  z70 := Tryz.sizeOf84
  v70 := Tryz.zeroValue84
  t72 := Tryz.underlying86
  a72 := Tryz.isAgg86
  z72 := Tryz.sizeOf86
  v72 := Tryz.zeroValue86
  t75 := Tryz.underlying88
  a75 := Tryz.isAgg88
  z75 := Tryz.sizeOf88
  v75 := Tryz.zeroValue88
  t76 := Tryz.underlying141
  a76 := Tryz.isAgg141
  z76 := Tryz.sizeOf141
  v76 := Tryz.zeroValue141
  t105 := Tryz.underlying201
  a105 := Tryz.isAgg201
  z105 := Tryz.sizeOf201
  v105 := Tryz.zeroValue201
  t119 := Tryz.underlying273
  a119 := Tryz.isAgg273
  z119 := Tryz.sizeOf273
  t127 := Tryz.underlying146
  a127 := Tryz.isAgg146
  z127 := Tryz.sizeOf146
  v127 := Tryz.zeroValue146
  t138 := Tryz.underlying275
  a138 := Tryz.isAgg275
  z138 := Tryz.sizeOf275
  v138 := Tryz.zeroValue275
  t139 := Tryz.underlying276
  a139 := Tryz.isAgg276
  z139 := Tryz.sizeOf276
  v139 := Tryz.zeroValue276
  t146 := Tryz.underlying193
  a146 := Tryz.isAgg193
  z146 := Tryz.sizeOf193
  v146 := Tryz.zeroValue193
  t164 := Tryz.underlying198
  a164 := Tryz.isAgg198
  z164 := Tryz.sizeOf198
  v164 := Tryz.zeroValue198
  g1 := by kernel_rfl
  g3 := by kernel_rfl
  g4 := by kernel_rfl }
theorem Tryz.Builder_Extra_154 : Builder.Extra Tryz.prog Tryz.lays154_ren := {
  sizeBuilder := by kernel_rfl
  liesBuilder := by kernel_rfl
  t5 := Tryz.underlying5
  a5 := Tryz.isAgg5
  z5 := Tryz.sizeOf5
  v5 := Tryz.zeroValue5
  infoByte := by kernel_rfl
  cellsByte := by kernel_rfl
  sizeByte := by kernel_rfl
  neB5 := by decide }
open Go.RowKit Go.Lib in
/-- strings.Replace: "Replace returns a copy of the string s with the first n non-overlapping instances of old replaced by new. .. If n < 0, there is no limit on the number of replacements.": AT AN old THAT IS NOT EMPTY: IT RETURNS 'Lib.replace s old new n'. Below the heap's end the world is as it was. IT ASKS, as strings.Index's contract: 'len(s) < 4294967281', 'hm'; and that what comes out has room: 'len(s) + Count(s, old) * len(new) ≤ 2^47'. (LAID: no walk: one application.) -/
theorem Tryz.strings_Replace (s old new : ByteArray) (n : Int) (m : Int) (w : World) (hs : s.size < 4294967281) (hm : w.cell? ⟨5, 0, none⟩ = some (.int .i64 m)) (h1 : 1 ≤ old.size) (hlen : s.size + Lib.countB s old * new.size ≤ 140737488355328) :
    Calls Tryz.prog 65 #[.string s, .string old, .string new, .int .i64 n] w fun e w' =>
      e = .returned (.string ⟨(Lib.replace s.data.toList old.data.toList new.data.toList n).toArray⟩) ∧ Below w.heap.size w w' := Any.strings_Replace Tryz.lays154 Tryz.Builder_Extra_154 s old new n m w hs hm h1 hlen
def Tryz.lays105_ren : Go.Shelf.Ren := ⟨fun | 105 => 25 | 212 => 57 | 99 => 58 | 165 => 59 | 166 => 60 | 170 => 61 | 169 => 30 | 263 => 95 | 264 => 96 | 206 => 97 | 240 => 62 | 241 => 98 | 276 => 99 | 277 => 141 | n => n, fun | 9 => 9 | 3 => 3 | 4 => 4 | 20 => 20 | 0 => 0 | 46 => 137 | 109 => 138 | 5 => 5 | 72 => 86 | 76 => 141 | 51 => 192 | 146 => 193 | 53 => 195 | 148 => 196 | 70 => 84 | 37 => 24 | 75 => 88 | 127 => 146 | 164 => 198 | 80 => 94 | n => n, fun | n => n⟩
theorem Tryz.lays105 : Go.Proofs.Lays.n105 Tryz.prog Tryz.lays105_ren := {
  mixed := by kernel_rfl
  f99 := Tryz.func58.trans (congrArg some (by kernel_rfl))
  f105 := Tryz.func25.trans (congrArg some (by kernel_rfl))
  f165 := Tryz.func59.trans (congrArg some (by kernel_rfl))
  f166 := Tryz.func60.trans (congrArg some (by kernel_rfl))
  f169 := Tryz.func30.trans (congrArg some (by kernel_rfl))
  f170 := Tryz.func61.trans (congrArg some (by kernel_rfl))
  f206 := Tryz.func97.trans (congrArg some (by kernel_rfl))
  f212 := Tryz.func57.trans (congrArg some (by kernel_rfl))
  f240 := Tryz.func62.trans (congrArg some (by kernel_rfl))
  f241 := Tryz.func98.trans (congrArg some (by kernel_rfl))
  f263 := Tryz.func95.trans (congrArg some (by kernel_rfl))
  f264 := Tryz.func96.trans (congrArg some (by kernel_rfl))
  f276 := Tryz.func99.trans (congrArg some (by kernel_rfl))
  f277 := Tryz.func141.trans (congrArg some (by kernel_rfl))
  t0 := Tryz.underlying0
  a0 := Tryz.isAgg0
  z0 := Tryz.sizeOf0
  v0 := Tryz.zeroValue0
  t3 := Tryz.underlying3
  a3 := Tryz.isAgg3
  z3 := Tryz.sizeOf3
  v3 := Tryz.zeroValue3
  t4 := Tryz.underlying4
  a4 := Tryz.isAgg4
  z4 := Tryz.sizeOf4
  v4 := Tryz.zeroValue4
  t5 := Tryz.underlying5
  a5 := Tryz.isAgg5
  z5 := Tryz.sizeOf5
  v5 := Tryz.zeroValue5
  t9 := Tryz.underlying9
  a9 := Tryz.isAgg9
  z9 := Tryz.sizeOf9
  v9 := Tryz.zeroValue9
  t20 := Tryz.underlying20
  a20 := Tryz.isAgg20
  z20 := Tryz.sizeOf20
  v20 := Tryz.zeroValue20
  t37 := Tryz.underlying24
  a37 := Tryz.isAgg24
  z37 := Tryz.sizeOf24
  v37 := Tryz.zeroValue24
  t46 := Tryz.underlying137
  a46 := Tryz.isAgg137
  z46 := Tryz.sizeOf137
  v46 := Tryz.zeroValue137
  t51 := Tryz.underlying192
  a51 := Tryz.isAgg192
  z51 := Tryz.sizeOf192
  v51 := Tryz.zeroValue192
  t53 := Tryz.underlying195
  a53 := Tryz.isAgg195
  z53 := Tryz.sizeOf195
  v53 := Tryz.zeroValue195
  t70 := Tryz.underlying84
  a70 := Tryz.isAgg84
  z70 := Tryz.sizeOf84
  v70 := Tryz.zeroValue84
  t72 := Tryz.underlying86
  a72 := Tryz.isAgg86
  z72 := Tryz.sizeOf86
  v72 := Tryz.zeroValue86
  t75 := Tryz.underlying88
  a75 := Tryz.isAgg88
  z75 := Tryz.sizeOf88
  v75 := Tryz.zeroValue88
  t76 := Tryz.underlying141
  a76 := Tryz.isAgg141
  z76 := Tryz.sizeOf141
  v76 := Tryz.zeroValue141
  t109 := Tryz.underlying138
  a109 := Tryz.isAgg138
  z109 := Tryz.sizeOf138
  v109 := Tryz.zeroValue138
  t127 := Tryz.underlying146
  a127 := Tryz.isAgg146
  z127 := Tryz.sizeOf146
  v127 := Tryz.zeroValue146
  t146 := Tryz.underlying193
  a146 := Tryz.isAgg193
  z146 := Tryz.sizeOf193
  v146 := Tryz.zeroValue193
  t148 := Tryz.underlying196
  a148 := Tryz.isAgg196
  z148 := Tryz.sizeOf196
  v148 := Tryz.zeroValue196
  t164 := Tryz.underlying198
  a164 := Tryz.isAgg198
  z164 := Tryz.sizeOf198
  v164 := Tryz.zeroValue198 }
theorem Tryz.Builder_Extra_105 : Builder.Extra Tryz.prog Tryz.lays105_ren := {
  sizeBuilder := by kernel_rfl
  liesBuilder := by kernel_rfl
  t5 := Tryz.underlying5
  a5 := Tryz.isAgg5
  z5 := Tryz.sizeOf5
  v5 := Tryz.zeroValue5
  infoByte := by kernel_rfl
  cellsByte := by kernel_rfl
  sizeByte := by kernel_rfl
  neB5 := by decide }
open Go.RowKit Go.Lib in
/-- **strings.Repeat: count ≥ 0, the result within one allocation: count copies of s.** (LAID: no walk: one application.) -/
theorem Tryz.strings_Repeat (s : ByteArray) (c : Nat) (w : World) (hc : c ≤ 9223372036854775807) (hlen : s.size * c ≤ 140737488355328) :
    Calls Tryz.prog 25 #[.string s, .int .i64 c] w fun e w' => e = .returned (.string ⟨(Lib.repeatL s.data.toList c).toArray⟩) ∧ Below w.heap.size w w' := Any.strings_Repeat Tryz.lays105 Tryz.Builder_Extra_105 s c w hc hlen
def Tryz.lays229_ren : Go.Shelf.Ren := ⟨fun | 229 => 88 | n => n, fun | 9 => 9 | 40 => 186 | 31 => 52 | 152 => 230 | 3 => 3 | 0 => 0 | 4 => 4 | 21 => 21 | 154 => 232 | n => n, fun | n => n⟩
theorem Tryz.lays229 : Go.Proofs.Lays.n229 Tryz.prog Tryz.lays229_ren := {
  mixed := by kernel_rfl
  f229 := Tryz.func88.trans (congrArg some (by kernel_rfl))
  t0 := Tryz.underlying0
  a0 := Tryz.isAgg0
  z0 := Tryz.sizeOf0
  v0 := Tryz.zeroValue0
  t3 := Tryz.underlying3
  a3 := Tryz.isAgg3
  z3 := Tryz.sizeOf3
  v3 := Tryz.zeroValue3
  t4 := Tryz.underlying4
  a4 := Tryz.isAgg4
  z4 := Tryz.sizeOf4
  v4 := Tryz.zeroValue4
  t9 := Tryz.underlying9
  a9 := Tryz.isAgg9
  z9 := Tryz.sizeOf9
  v9 := Tryz.zeroValue9
  t21 := Tryz.underlying21
  a21 := Tryz.isAgg21
  z21 := Tryz.sizeOf21
  v21 := Tryz.zeroValue21
  t31 := Tryz.underlying52
  a31 := Tryz.isAgg52
  z31 := Tryz.sizeOf52
  v31 := Tryz.zeroValue52
  t40 := Tryz.underlying186
  a40 := Tryz.isAgg186
  z40 := Tryz.sizeOf186
  v40 := Tryz.zeroValue186
  t152 := Tryz.underlying230
  a152 := Tryz.isAgg230
  z152 := Tryz.sizeOf230
  v152 := Tryz.zeroValue230
  t154 := Tryz.underlying232
  a154 := Tryz.isAgg232
  z154 := Tryz.sizeOf232
  v154 := Tryz.zeroValue232 }
open Go.RowKit Go.Lib in
theorem Tryz.strings_FieldsFunc_grows (g : Nat) (lb : Array Value) (eg : ∀ args w, (callFunc g args).run Tryz.prog w = .ok (.enter g args) w) (p : Nat → Bool) (s : ByteArray) (w : World) (hs : s.size ≤ 4294967296) (hp : PredGrows Tryz.prog g lb p w) :
    Calls Tryz.prog 88 #[.string s, .func (.func g) #[] lb] w fun e w' => ∃ A, e = .returned (.slice (some ⟨A, 0, none⟩) (Lib.goFieldsP p s).length (Lib.goFieldsP p s).length) ∧ w.heap.size ≤ A ∧
      w'.ownsRow w.heap.size 9 1 (.slice (some ⟨A, 0, none⟩) (Lib.goFieldsP p s).length (Lib.goFieldsP p s).length) (Lib.goFieldsP p s).length ((Lib.goFieldsP p s).map Value.string) ∧ Below w.heap.size w w' := Any.strings_FieldsFunc_grows Tryz.lays229 g lb eg p s w hs hp (by kernel_rfl) (by kernel_rfl)
end Go.Proofs
