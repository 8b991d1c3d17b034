/-
  DERIVED. Several texts in one: LensE, LensF, LensG, Rcd, Byt, Fld, FldS, RdA, RdB, RdC, RdD, RdE, RdF, RsfA, RsfH.
-/
import Derived.Test.YtgohdcccfkjooaaGreatDoorGac
import Derived.Test.YtgohdcccfkjooaaGreatDoorHSurfI
import Derived.Test.YtgohdcccfkjooaaGreatDoorGaa
import Derived.Lib.UnsafeStr
import Derived.Laws.IdiomStrings
import Derived.Lib.FieldsP
import Derived.Lib.Split
import Derived.Lib.SpaceUEq
import Derived.Test.YtgohdcccfkjooaaGreatDoorGab
import Derived.Deep.DeepCutAuto
namespace Go.Proofs.YtgohdcccfkjooaaGreatDoor
open Go.RowKit

/-- a call that gives back a slice of records of k ints each in memory of its own -/
def RetI (w : World) (k : Nat) (zs : List Int) (n : Nat) (e : Ending) (w' : World) : Prop :=
  ∃ a c, e = .returned (.slice a n c) ∧ IRp (fun b => w.heap.size ≤ b ∧ b < w'.heap.size) w' k a n c zs ∧ (a = none → c = 0) ∧ Below w.heap.size w w'

theorem own_irp {w : World} {base k n : Nat} {T : TypeId} {v : Value} {zs : List Int} (h : w.ownsRow base T k v n (zs.map (Value.int .i64))) : ∃ a c, v = .slice a n c ∧ (a = none → c = 0) ∧ IRp (fun b => base ≤ b ∧ b < w.heap.size) w k a n c zs := by
  have hl := h.1
  rw [List.length_map] at hl
  rcases id h.2 with ⟨rfl, rfl⟩ | ⟨g, cap, cur, rfl, q1, q2, q3, q4, q5, q6⟩
  · obtain rfl : zs = [] := List.length_eq_zero_iff.1 (by rw [hl, Nat.zero_mul])
    exact ⟨none, 0, rfl, fun _ => rfl, IRp.nil _ _ _ _ _⟩
  · refine ⟨_, cap, rfl, (fun e => by cases e), hl, q3, fun hn => ⟨g, 0, rfl, ⟨q1, lt_of_block q2⟩, fun j hj => ?_⟩⟩
    have hj2 : j < zs.length := by omega
    have hc := h.cells (g := g) rfl j (.int .i64 (zs.getD j 0)) (by rw [List.getElem?_map, List.getElem?_eq_getElem hj2]; simp [List.getD_eq_getElem?_getD, hj2])
    rw [Addr.add_mid] at hc
    exact hc

theorem IRp.none {S : Nat → Prop} {w : World} {k n c : Nat} {zs : List Int} (h : IRp S w k Option.none n c zs) : n = 0 ∧ zs = [] := by
  have : n = 0 := by
    apply Decidable.byContradiction; intro hn
    obtain ⟨b, off, e, _⟩ := h.2.2 (by omega)
    cases e
  subst this
  exact ⟨rfl, List.length_eq_zero_iff.1 (by rw [h.1, Nat.zero_mul])⟩

/-- append of records of ints to a row of the call's own -/
theorem wpList_append_irs {ops : Array Oper} {rest : List Oper} {o : Oper} {a : Act} {Q : Exit → Act → World → Prop} {w : World} {T ST : TypeId} {z : Value} {k bytes : Nat} (hST : Tryz.prog.underlying ST = some (.slice T)) (hT : (Tryz.prog.info? T).map (fun i => (i.zero, i.size, i.bytes)) = some (some z, k, bytes)) (hz : z.cells.size = k) (hk : 0 < k) (hby : bytes ≤ 10000)
    (hgd : o.guard = none) (s x : Operand)
    (ho : o.op = .call { callee := .builtin .append, args := #[s, x], argTypes := #[ST, ST] }) (base : Nat) (v : Value) (n : Nat) (xs : List Int)
    (hs : a.eval s = v) (hrow : w.ownsRow base T k v n (xs.map (Value.int .i64))) (S : Nat → Prop) (sp : Option Addr) (m c : Nat) (ys : List Int) (hx : a.eval x = .slice sp m c) (hy : IRp S w k sp m c ys) (hc : sp = Option.none → c = 0) (hn : n + m ≤ 10000000) (hbase : base ≤ w.heap.size)
    (h : ∀ v' w', w'.ownsRow base T k v' (n + m) ((xs ++ ys).map (Value.int .i64)) → w.grownBy w' v.ownBlock → wpList Tryz.prog ops Q rest (a.put o.dst v') w') :
    wpList Tryz.prog ops Q (o :: rest) a w := by
  have hl := hy.1
  refine wpList_append_cells hgd s x ST ho base T z k bytes hST hT hz hk v n _ hs hrow sp m c (ys.map (Value.int .i64)) hx (by rw [List.length_map, hl]) ?_ (by simp [Value.oneCell']) ?_ (Nat.le_trans (Nat.mul_le_mul hn hby) (by omega)) (by omega) hbase ?_
  · intro hm
    obtain ⟨b, off, e, _, hc⟩ := hy.2.2 hm
    refine ⟨b, off, e, fun j u hj => ?_⟩
    have hjl : j < ys.length := by
      apply Decidable.byContradiction; intro hcon
      rw [List.getElem?_eq_none (by simp; omega)] at hj; cases hj
    have := hc j (by omega)
    rw [List.getElem?_map, List.getElem?_eq_getElem hjl] at hj
    simp at hj; subst hj
    rw [this]
    simp [List.getD_eq_getElem?_getD, hjl]
  · intro e
    subst e
    exact ⟨(hy.none).1, hc rfl⟩
  · intro v' w' h1 h2
    exact h v' w' (by rw [List.map_append]; exact h1) h2

theorem Tryz.infoFilm3 : (Tryz.prog.info? 67).map (fun i => (i.zero, i.size, i.bytes)) = some (some (.agg #[.int .i64 0, .int .i64 0, .int .i64 0]), 3, 24) := by kernel_rfl
theorem Tryz.infoChange3 : (Tryz.prog.info? 72).map (fun i => (i.zero, i.size, i.bytes)) = some (some (.agg #[.int .i64 0, .int .i64 0, .int .i64 0]), 3, 24) := by kernel_rfl
theorem Tryz.infoSurf3 : (Tryz.prog.info? 70).map (fun i => (i.zero, i.size, i.bytes)) = some (some (.agg #[.int .i64 0, .int .i64 0, .int .i64 0, .int .i64 0, .int .i64 0, .int .i64 0, .int .i64 0, .int .i64 0, .int .i64 0, .int .i64 0, .int .i64 0, .int .i64 0, .int .i64 0, .string emptyS, .int .i64 0, .int .i64 0, .int .i64 0, .int .i64 0, .int .i64 0, .int .i64 0, .int .i64 0, .slice none 0 0]), 22, 200) := by kernel_rfl
set_option maxRecDepth 100000 in
set_option maxHeartbeats 800000 in
theorem clone_film (zs : List Int) (a : Option Addr) (n c : Nat) (w : World) (h : IR w.heap.size w 3 a n c zs) (hn : n ≤ 1000000) (hc : a = none → c = 0) :
    Calls Tryz.prog 242 #[.slice a n c] w (RetI w 3 zs n) := by
  have H := Lib.hid h; clear h
  cases a with
  | none =>
    obtain rfl := hc rfl
    have heq := fun w => Lib.run_eql_slice_nil (P := Tryz.prog) w 68 67 none n 0 0 0 Tryz.underlying68
    go_enter Tryz.func242, Tryz.ntmps242
    go_wp2
    go_ret
    obtain ⟨rfl, rfl⟩ := (H.out.irp (S := fun _ => True) (fun _ _ => trivial)).none
    exact ⟨none, 0, rfl, IRp.nil _ _ _ _ _, fun _ => rfl, Below.refl _ _⟩
  | some ad =>
    clear hc
    have heq := fun w => Lib.run_eql_slice_nil (P := Tryz.prog) w 68 67 (some ad) n c 0 0 Tryz.underlying68
    go_enter Tryz.func242, Tryz.ntmps242
    go_wp2_with (refine wpList_append_irs Tryz.underlying68 Tryz.infoFilm3 rfl (by omega) (by omega) rfl (.tmp 5) (.tmp 6) rfl w.heap.size (.slice (some ⟨w.heap.size, 0, none⟩) 0 0) 0 [] rfl (World.ownsRow_made w #[] 0 (Nat.le_refl _) (by simp) rfl) (fun b => b < w.heap.size) (some ad) n c zs rfl (IR.irp (H.out.below ((Below.refl _ _).alloc (Nat.le_refl _) _) (Nat.le_refl _)) (fun _ h => h)) (fun e => by cases e) (by omega) (by simp) ?_; intro v' w1 hown hgrow; have hbel : Below w.heap.size w w1 := ((Below.refl _ _).alloc (Nat.le_refl _) _).grown hgrow (by simp) (by intro k hk; simp [Value.ownBlock] at hk; omega); have Hown := Lib.hid hown; have Hbel := Lib.hid hbel; clear hown hgrow hbel)
    go_wp2
    go_ret
    obtain ⟨a', c', rfl, h1, h2⟩ := own_irp (zs := zs) (by simpa using Hown.out)
    exact ⟨a', c', rfl, by simpa using h2, h1, Hbel.out⟩

end Go.Proofs.YtgohdcccfkjooaaGreatDoor

namespace Go.Proofs.YtgohdcccfkjooaaGreatDoor
open Go.RowKit

/-- a surface with its coating -/
structure SurfC where
  s : Surf
  zs : List Int

def cells22 (s : Surf) (a : Option Addr) (n c : Nat) : List Value := [.int .i64 s.kind, .int .i64 s.curv, .int .i64 s.conic, .int .i64 s.curvX, .int .i64 s.conicX, .int .i64 s.a0, .int .i64 s.a1, .int .i64 s.a2, .int .i64 s.a3, .int .i64 s.p0, .int .i64 s.p1, .int .i64 s.order, .int .i64 s.thick, .string s.glass, .int .i64 s.semi, .int .i64 s.hole, .int .i64 s.dx, .int .i64 s.dy, .int .i64 s.ax, .int .i64 s.ay, .int .i64 s.az, .slice a n c]

/-- how it lies in memory -/
def SurfR : Rep SurfC := fun S w x cs => ∃ a n c, cs = cells22 x.s a n c ∧ IRp S w 3 a n c x.zs ∧ n ≤ 1000000 ∧ (a = none → c = 0) ∧ x.s.glass.size ≤ 9223372036854775807

theorem surfOk : RepOk 22 SurfR where
  len := by rintro S w x cs ⟨a, n, c, rfl, _⟩; rfl
  kept := by rintro S T w w' x cs ⟨a, n, c, e, h, r⟩ hk hs; exact ⟨a, n, c, e, h.kept hk hs, r⟩
  one := by rintro S w x cs ⟨a, n, c, rfl, _⟩ v hv; unfold cells22 at hv; simp only [List.mem_cons, List.not_mem_nil, or_false] at hv; rcases hv with rfl | rfl | rfl | rfl | rfl | rfl | rfl | rfl | rfl | rfl | rfl | rfl | rfl | rfl | rfl | rfl | rfl | rfl | rfl | rfl | rfl | rfl <;> rfl

/-- a store behind an allocation -/
theorem setCell_alloc (w : World) (cs : Array Value) (T : TypeId) (i : Nat) (v : Value) : (w.alloc (.cells cs T)).setCell ⟨w.heap.size, i, none⟩ v = w.alloc (.cells (cs.setIfInBounds i v) T) := by
  have e : (w.heap.push (Obj.cells cs T)).modify w.heap.size (fun o => match o with | .cells cs t fr => .cells (cs.setIfInBounds i v) t fr | o => o) = w.heap.push (Obj.cells (cs.setIfInBounds i v) T) := by
    apply Array.ext
    · simp
    · intro j h1 h2
      rw [Array.getElem_modify, Array.getElem_push, Array.getElem_push]
      by_cases hj : j < w.heap.size
      · rw [if_neg (by omega), dif_pos hj, dif_pos hj]
      · have : w.heap.size = j := by simp at h2; omega
        rw [if_pos this, dif_neg hj, dif_neg hj]
  show ({ w.alloc (.cells cs T) with heap := _ } : World) = { w with heap := _ }
  rw [← e]
  rfl
theorem setCells_alloc : ∀ (vs : List Value) (w : World) (pre old post : List Value) (T : TypeId), old.length = vs.length → (w.alloc (.cells (pre ++ old ++ post).toArray T)).setCells w.heap.size pre.length vs = w.alloc (.cells (pre ++ vs ++ post).toArray T)
  | [], w, pre, old, post, T, h => by
    obtain rfl : old = [] := List.length_eq_zero_iff.1 h
    rfl
  | v :: vs, w, pre, o :: old, post, T, h => by
    rw [World.setCells, setCell_alloc]
    have e : ((pre ++ o :: old ++ post).toArray.setIfInBounds pre.length v) = ((pre ++ [v]) ++ old ++ post).toArray := by
      rw [List.setIfInBounds_toArray, List.append_assoc, List.set_append, if_neg (by omega), Nat.sub_self]
      simp
    rw [e]
    have := setCells_alloc vs w (pre ++ [v]) old post T (by simpa using h)
    rw [List.length_append] at this
    simpa using this
theorem W22_alloc (w : World) (cs : List Value) (hs : cs.length = 22) (s : Surf) (a : Option Addr) (n c : Nat) : W22 (w.alloc (.cells cs.toArray 70)) w.heap.size s a n c = w.alloc (.cells #[.int .i64 s.kind, .int .i64 s.curv, .int .i64 s.conic, .int .i64 s.curvX, .int .i64 s.conicX, .int .i64 s.a0, .int .i64 s.a1, .int .i64 s.a2, .int .i64 s.a3, .int .i64 s.p0, .int .i64 s.p1, .int .i64 s.order, .int .i64 s.thick, .string s.glass, .int .i64 s.semi, .int .i64 s.hole, .int .i64 s.dx, .int .i64 s.dy, .int .i64 s.ax, .int .i64 s.ay, .int .i64 s.az, .slice a n c] 70) := by
  have := setCells_alloc (cells22 s a n c) w [] cs [] 70 (by rw [hs]; rfl)
  simp only [List.nil_append, List.append_nil, List.length_nil] at this
  exact this

/-- a surface is stored into a variable just made -/
theorem wpL_store_new {ops : Array Oper} {rest : List Oper} {op : Oper} {ac : Act} {W : World} {Q : Exit → Act → World → Prop} (s : Surf) (a : Option Addr) (n c : Nat) (w : World) (hW : W = w.alloc (.cells #[.int .i64 0, .int .i64 0, .int .i64 0, .int .i64 0, .int .i64 0, .int .i64 0, .int .i64 0, .int .i64 0, .int .i64 0, .int .i64 0, .int .i64 0, .int .i64 0, .int .i64 0, .string emptyS, .int .i64 0, .int .i64 0, .int .i64 0, .int .i64 0, .int .i64 0, .int .i64 0, .int .i64 0, .slice none 0 0] 70)) (hgd : op.guard = none) (x y : Operand) (ho : op.op = .store 70 x y)
    (hx : ac.eval x = .pointer (some ⟨w.heap.size, 0, none⟩)) (hy : ac.eval y = .agg #[.int .i64 s.kind, .int .i64 s.curv, .int .i64 s.conic, .int .i64 s.curvX, .int .i64 s.conicX, .int .i64 s.a0, .int .i64 s.a1, .int .i64 s.a2, .int .i64 s.a3, .int .i64 s.p0, .int .i64 s.p1, .int .i64 s.order, .int .i64 s.thick, .string s.glass, .int .i64 s.semi, .int .i64 s.hole, .int .i64 s.dx, .int .i64 s.dy, .int .i64 s.ax, .int .i64 s.ay, .int .i64 s.az, .slice a n c]) (hk : wpList Tryz.prog ops Q rest (ac.put op.dst undef) (w.alloc (.cells #[.int .i64 s.kind, .int .i64 s.curv, .int .i64 s.conic, .int .i64 s.curvX, .int .i64 s.conicX, .int .i64 s.a0, .int .i64 s.a1, .int .i64 s.a2, .int .i64 s.a3, .int .i64 s.p0, .int .i64 s.p1, .int .i64 s.order, .int .i64 s.thick, .string s.glass, .int .i64 s.semi, .int .i64 s.hole, .int .i64 s.dx, .int .i64 s.dy, .int .i64 s.ax, .int .i64 s.ay, .int .i64 s.az, .slice a n c] 70))) : wpList Tryz.prog ops Q (op :: rest) ac W := by
  subst hW
  refine wpL_store_surf s a n c (heap_alloc_new w _) rfl hgd x y ho hx hy ?_
  rw [W22_alloc w [.int .i64 0, .int .i64 0, .int .i64 0, .int .i64 0, .int .i64 0, .int .i64 0, .int .i64 0, .int .i64 0, .int .i64 0, .int .i64 0, .int .i64 0, .int .i64 0, .int .i64 0, .string emptyS, .int .i64 0, .int .i64 0, .int .i64 0, .int .i64 0, .int .i64 0, .int .i64 0, .int .i64 0, .slice none 0 0] rfl]
  exact hk

/-- a surface is loaded out of a list -/
theorem wpL_load_at {ops : Array Oper} {rest : List Oper} {op : Oper} {ac : Act} {w : World} {Q : Exit → Act → World → Prop} {b o : Nat} {s : Surf} {a : Option Addr} {n c : Nat} (h : w.rangeAt b o (cells22 s a n c)) (hgd : op.guard = none) (x : Operand) (ho : op.op = .load 70 x)
    (hx : ac.eval x = .pointer (some ⟨b, o, none⟩)) (hk : wpList Tryz.prog ops Q rest (ac.put op.dst (.agg #[.int .i64 s.kind, .int .i64 s.curv, .int .i64 s.conic, .int .i64 s.curvX, .int .i64 s.conicX, .int .i64 s.a0, .int .i64 s.a1, .int .i64 s.a2, .int .i64 s.a3, .int .i64 s.p0, .int .i64 s.p1, .int .i64 s.order, .int .i64 s.thick, .string s.glass, .int .i64 s.semi, .int .i64 s.hole, .int .i64 s.dx, .int .i64 s.dy, .int .i64 s.ax, .int .i64 s.ay, .int .i64 s.az, .slice a n c])) w) : wpList Tryz.prog ops Q (op :: rest) ac w :=
  wpList_load_mid hgd 70 x ho b o hx (cells22 s a n c) _ h Tryz.underlying70 rfl Tryz.infoSurf hk

theorem wpList_taken {P : Program} {ops : Array Oper} {Q : Exit → Act → World → Prop} {a : Act} {w : World} {rest : List Oper} {o : Oper} (hw : Region.wanted o (yielded ops a.tmps) = true)
    (h : ∀ K : Act → World → Prop, (∀ a w, wpList P ops Q rest a w → K a w) → o.wp P a w K Q) : wpList P ops Q (o :: rest) a w :=
  wpList_step fun K hK => by rw [if_pos hw]; exact h K hK
/-- .. under a guard -/
theorem wpL_load_surfG {ops : Array Oper} {rest : List Oper} {op : Oper} {ac : Act} {w : World} {Q : Exit → Act → World → Prop} {g : Nat} {s : Surf} {a : Option Addr} {n c : Nat} (h : SurfB w g s a n c) (hgd : Region.wanted op (yielded ops ac.tmps) = true) (x : Operand) (ho : op.op = .load 70 x)
    (hx : ac.eval x = .pointer (some ⟨g, 0, none⟩)) (hk : wpList Tryz.prog ops Q rest (ac.put op.dst (.agg #[.int .i64 s.kind, .int .i64 s.curv, .int .i64 s.conic, .int .i64 s.curvX, .int .i64 s.conicX, .int .i64 s.a0, .int .i64 s.a1, .int .i64 s.a2, .int .i64 s.a3, .int .i64 s.p0, .int .i64 s.p1, .int .i64 s.order, .int .i64 s.thick, .string s.glass, .int .i64 s.semi, .int .i64 s.hole, .int .i64 s.dx, .int .i64 s.dy, .int .i64 s.ax, .int .i64 s.ay, .int .i64 s.az, .slice a n c])) w) : wpList Tryz.prog ops Q (op :: rest) ac w :=
  wpList_taken hgd fun _K hK => wp_load_mid 70 x ho g 0 hx [.int .i64 s.kind, .int .i64 s.curv, .int .i64 s.conic, .int .i64 s.curvX, .int .i64 s.conicX, .int .i64 s.a0, .int .i64 s.a1, .int .i64 s.a2, .int .i64 s.a3, .int .i64 s.p0, .int .i64 s.p1, .int .i64 s.order, .int .i64 s.thick, .string s.glass, .int .i64 s.semi, .int .i64 s.hole, .int .i64 s.dx, .int .i64 s.dy, .int .i64 s.ax, .int .i64 s.ay, .int .i64 s.az, .slice a n c] _ h.range Tryz.underlying70 rfl Tryz.infoSurf (hK _ _ hk)
theorem wpL_load_atG {ops : Array Oper} {rest : List Oper} {op : Oper} {ac : Act} {w : World} {Q : Exit → Act → World → Prop} {b o : Nat} {s : Surf} {a : Option Addr} {n c : Nat} (h : w.rangeAt b o (cells22 s a n c)) (hgd : Region.wanted op (yielded ops ac.tmps) = true) (x : Operand) (ho : op.op = .load 70 x)
    (hx : ac.eval x = .pointer (some ⟨b, o, none⟩)) (hk : wpList Tryz.prog ops Q rest (ac.put op.dst (.agg #[.int .i64 s.kind, .int .i64 s.curv, .int .i64 s.conic, .int .i64 s.curvX, .int .i64 s.conicX, .int .i64 s.a0, .int .i64 s.a1, .int .i64 s.a2, .int .i64 s.a3, .int .i64 s.p0, .int .i64 s.p1, .int .i64 s.order, .int .i64 s.thick, .string s.glass, .int .i64 s.semi, .int .i64 s.hole, .int .i64 s.dx, .int .i64 s.dy, .int .i64 s.ax, .int .i64 s.ay, .int .i64 s.az, .slice a n c])) w) : wpList Tryz.prog ops Q (op :: rest) ac w :=
  wpList_taken hgd fun _K hK => wp_load_mid 70 x ho b o hx (cells22 s a n c) _ h Tryz.underlying70 rfl Tryz.infoSurf (hK _ _ hk)

theorem SurfB.coat {w : World} {g : Nat} {s : Surf} {a : Option Addr} {n c : Nat} (h : SurfB w g s a n c) (a' : Option Addr) (n' c' : Nat) : SurfB (w.setCell ⟨g, 21, none⟩ (.slice a' n' c')) g s a' n' c' := by
  have := obj_setCell h 21 (.slice a' n' c')
  simp only [List.setIfInBounds_toArray, List.set_cons_zero, List.set_cons_succ] at this
  exact this

/-- a surface with a coating of its own -/
def RetBare (w : World) (s : Surf) (zs : List Int) (n : Nat) (e : Ending) (w' : World) : Prop :=
  ∃ a c, e = .returned (.agg #[.int .i64 s.kind, .int .i64 s.curv, .int .i64 s.conic, .int .i64 s.curvX, .int .i64 s.conicX, .int .i64 s.a0, .int .i64 s.a1, .int .i64 s.a2, .int .i64 s.a3, .int .i64 s.p0, .int .i64 s.p1, .int .i64 s.order, .int .i64 s.thick, .string s.glass, .int .i64 s.semi, .int .i64 s.hole, .int .i64 s.dx, .int .i64 s.dy, .int .i64 s.ax, .int .i64 s.ay, .int .i64 s.az, .slice a n c]) ∧ IRp (fun b => w.heap.size ≤ b ∧ b < w'.heap.size) w' 3 a n c zs ∧ (a = none → c = 0) ∧ Below w.heap.size w w'

set_option maxRecDepth 100000 in
set_option maxHeartbeats 1600000 in
theorem bare_any (s : Surf) (zs : List Int) (a : Option Addr) (n c : Nat) (w : World) (hz : IR w.heap.size w 3 a n c zs) (hn : n ≤ 1000000) (hc : a = none → c = 0) :
    Calls Tryz.prog 213 #[.agg #[.int .i64 s.kind, .int .i64 s.curv, .int .i64 s.conic, .int .i64 s.curvX, .int .i64 s.conicX, .int .i64 s.a0, .int .i64 s.a1, .int .i64 s.a2, .int .i64 s.a3, .int .i64 s.p0, .int .i64 s.p1, .int .i64 s.order, .int .i64 s.thick, .string s.glass, .int .i64 s.semi, .int .i64 s.hole, .int .i64 s.dx, .int .i64 s.dy, .int .i64 s.ax, .int .i64 s.ay, .int .i64 s.az, .slice a n c]] w (RetBare w s zs n) := by
  have h1 := SurfB.new w s a n c
  have h2 := heap_alloc_new (w.alloc (.cells #[.int .i64 s.kind, .int .i64 s.curv, .int .i64 s.conic, .int .i64 s.curvX, .int .i64 s.conicX, .int .i64 s.a0, .int .i64 s.a1, .int .i64 s.a2, .int .i64 s.a3, .int .i64 s.p0, .int .i64 s.p1, .int .i64 s.order, .int .i64 s.thick, .string s.glass, .int .i64 s.semi, .int .i64 s.hole, .int .i64 s.dx, .int .i64 s.dy, .int .i64 s.ax, .int .i64 s.ay, .int .i64 s.az, .slice a n c] 70)) (.cells #[.int .i64 0, .int .i64 0, .int .i64 0, .int .i64 0, .int .i64 0, .int .i64 0, .int .i64 0, .int .i64 0, .int .i64 0, .int .i64 0, .int .i64 0, .int .i64 0, .int .i64 0, .string emptyS, .int .i64 0, .int .i64 0, .int .i64 0, .int .i64 0, .int .i64 0, .int .i64 0, .int .i64 0, .slice none 0 0] 70)
  have hb := below_al (o := .cells #[.int .i64 0, .int .i64 0, .int .i64 0, .int .i64 0, .int .i64 0, .int .i64 0, .int .i64 0, .int .i64 0, .int .i64 0, .int .i64 0, .int .i64 0, .int .i64 0, .int .i64 0, .string emptyS, .int .i64 0, .int .i64 0, .int .i64 0, .int .i64 0, .int .i64 0, .int .i64 0, .int .i64 0, .slice none 0 0] 70) (below_al (o := .cells #[.int .i64 s.kind, .int .i64 s.curv, .int .i64 s.conic, .int .i64 s.curvX, .int .i64 s.conicX, .int .i64 s.a0, .int .i64 s.a1, .int .i64 s.a2, .int .i64 s.a3, .int .i64 s.p0, .int .i64 s.p1, .int .i64 s.order, .int .i64 s.thick, .string s.glass, .int .i64 s.semi, .int .i64 s.hole, .int .i64 s.dx, .int .i64 s.dy, .int .i64 s.ax, .int .i64 s.ay, .int .i64 s.az, .slice a n c] 70) (Below.refl w.heap.size w))
  rw [size_alloc] at h2
  have H1 := Lib.hid h1; have H2 := Lib.hid h2; have Hz := Lib.hid hz; have Hc := Lib.hid hc; have Hb := Lib.hid hb
  clear h1 h2 hz hc hb
  go_enter Tryz.func213, Tryz.ntmps213
  go_upto_region 1 with fail
  refine step_world (fun wx => SurfB wx w.heap.size s a n c ∧ wx.heap[w.heap.size + 1]? = some (.cells #[.int .i64 0, .int .i64 0, .int .i64 0, .int .i64 0, .int .i64 0, .int .i64 0, .int .i64 0, .int .i64 0, .int .i64 0, .int .i64 0, .int .i64 0, .int .i64 0, .int .i64 0, .string emptyS, .int .i64 0, .int .i64 0, .int .i64 0, .int .i64 0, .int .i64 0, .int .i64 0, .int .i64 0, .slice none 0 0] 70 (0, 0)) ∧ Below w.heap.size w wx) ⟨SurfB.go (B := w.heap.size + 1) H1.out ((Below.refl _ _).alloc (by simp) _) (by omega), H2.out, Hb.out⟩ ?_
  clear H1 H2 Hb
  rintro w1 ⟨h1, h2, hb⟩
  have hl1 := h1.lt; have hl2 := lt_of_block h2
  obtain ⟨k0, k1, k2, k3, k4, k5, k6, k7, k8, k9, k10, k11, k12, k13, k14, k15, k16, k17, k18, k19, k20, k21⟩ := h1.cells
  have H1 := Lib.hid h1; have H2 := Lib.hid h2; have Hb := Lib.hid hb
  clear h1 h2 hb k0 k1 k2 k3 k4 k5 k6 k7 k8 k9 k10 k11 k12 k13 k14 k15 k16 k17 k18 k19 k20
  go_wp2_with (first
    | ((with_reducible refine (clone_film zs a n c _ (Hz.out.go Hb.out) hn Hc.out).mono ?_); rintro e w2 ⟨a', c', rfl, hi, hc, hb2⟩; clear k21; have fz := SurfB.free (SurfB.go H1.out hb2 hl1) 21; have k21 := (SurfB.cells (SurfB.go H1.out hb2 hl1)).2.2.2.2.2.2.2.2.2.2.2.2.2.2.2.2.2.2.2.2.2; have Hi := Lib.hid hi; have Hc2 := Lib.hid hc; have Hb2 := Lib.hid hb2; clear hi hc hb2)
    | (refine wpL_load_surf (SurfB.coat (SurfB.go H1.out Hb2.out hl1) a' n c') rfl (.tmp 1) rfl rfl ?_)
    | (refine wpL_store_surf s a' n c' (obj_other ((Hb2.out.block _ hl2).trans H2.out) ⟨w.heap.size, 21, none⟩ (by simp) _) rfl rfl (.tmp 2) (.tmp 7) rfl rfl rfl ?_))
  refine bodyPost_ret (ret_surf (s := s) (a := a') (n := n) (c := c') rfl rfl (SurfB.stored (obj_other ((Hb2.out.block _ hl2).trans H2.out) ⟨w.heap.size, 21, none⟩ (by simp) _) rfl s a' n c')) rfl ?_
  refine ⟨a', c', rfl, Hi.out.kept ((keptOn_setCells w.heap.size [_] 21 w2).mono ?_ |>.trans ((keptOn_setCells (w.heap.size + 1) (cells22 s a' n c') 0 _).mono ?_)) ?_, Hc2.out, ?_⟩
  · intro b hb; have := hb.1; omega
  · intro b hb; have := hb.1; omega
  · intro b hb
    refine ⟨by have := hb.1; have := Hb.out.size; omega, ?_⟩
    have := size_setCells (w.heap.size + 1) (cells22 s a' n c') 0 (w2.setCell ⟨w.heap.size, 21, none⟩ (.slice a' n c'))
    show b < ((w2.setCell ⟨w.heap.size, 21, none⟩ (.slice a' n c')).setCells (w.heap.size + 1) 0 (cells22 s a' n c')).heap.size
    rw [this]
    simpa using hb.2
  · exact Below.put22 ((below_chain Hb.out Hb2.out).setCell (p := ⟨w.heap.size, 21, none⟩) (Nat.le_refl _) _) (by omega) _ _ _ _

/-- make of an empty row of records -/
theorem wpList_make_rec {ops : Array Oper} {rest : List Oper} {o : Oper} {a : Act} {Q : Exit → Act → World → Prop} {w : World} {α : Type} (R : Rep α) {k : Nat} {T ST : TypeId} {z : Value} {bytes : Nat} (hST : Tryz.prog.underlying ST = some (.slice T)) (hT : (Tryz.prog.info? T).map (fun i => (i.zero, i.size, i.bytes)) = some (some z, k, bytes)) (hby : bytes ≤ 10000)
    (hgd : o.guard = none) (x y : Operand) (ho : o.op = Op.makeSlice ST x y) (n : Nat) (hx : a.eval x = .int .i64 0) (hy : a.eval y = .int .i64 (n : Int)) (hn : n ≤ 1000000)
    (h : ∀ w', OwnR R k T w.heap.size w' (.slice (some ⟨w.heap.size, 0, none⟩) 0 n) [] → Below w.heap.size w w' → wpList Tryz.prog ops Q rest (a.put o.dst (.slice (some ⟨w.heap.size, 0, none⟩) 0 n)) w') : wpList Tryz.prog ops Q (o :: rest) a w := by
  obtain ⟨i, hi1, hi2, hi3, hi4⟩ := info_of hT
  refine wpList_make_own w hgd x y ST ho w.heap.size T i z k hST hi1 hi2 hi3 .i64 .i64 (n : Int) n hx hy rfl ?_ (by unfold maxLen; omega) (Nat.le_refl _) ?_
  · rw [hi4]; exact Nat.le_trans (Nat.mul_le_mul hby hn) (by omega)
  · intro w' h1 h2
    exact h w' ⟨[], rfl, by simp, h1, fun i x cs h => by simp at h⟩ ((Below.refl _ _).grown h2 (Nat.le_refl _) (fun k hk => by cases hk))

/-- a list of records in memory of its own -/
def RetOwnR {α : Type} (R : Rep α) (k : Nat) (T : TypeId) (w : World) (l : List α) (e : Ending) (w' : World) : Prop :=
  ∃ g c, e = .returned (.slice (some ⟨g, 0, none⟩) l.length c) ∧ OwnR R k T w.heap.size w' (.slice (some ⟨g, 0, none⟩) l.length c) l ∧ Below w.heap.size w w'

theorem take_next {α : Type} {l : List α} {k : Nat} {x : α} (h : l[k]? = some x) : l.take (k + 1) = l.take k ++ [x] := by
  rw [List.take_add_one, h]; rfl

set_option maxRecDepth 100000 in
set_option maxHeartbeats 1600000 in
theorem own_surf (l : List SurfC) (a : Option Addr) (n c : Nat) (w : World) (h : RR SurfR 22 (fun b => b < w.heap.size) w a n c l) (hn : n ≤ 1000000) :
    Calls Tryz.prog 212 #[.slice a n c, .func (.func 213) #[] #[]] w (RetOwnR SurfR 22 70 w l) := by
  have H := Lib.hid h; clear h
  have hlen := H.out.1
  go_enter Tryz.func212, Tryz.ntmps212
  go_wp2_with (at_make; refine wpList_make_rec SurfR Tryz.underlying34 Tryz.infoSurf3 (by omega) rfl _ _ rfl n rfl rfl hn ?_; intro w1 ho hb; have Ho := Lib.hid ho; have Hb := Lib.hid hb; clear ho hb)
  go_loopw [5, 13] (fun v iv wr => ∃ k : Nat, k ≤ n ∧ iv = .int .i64 (k : Int) ∧ OwnR SurfR 22 70 w.heap.size wr v (l.take k) ∧ (∃ g c, v = .slice (some ⟨g, 0, none⟩) k c) ∧ Below w.heap.size w wr) (fun _ iv _ => n - (intOf iv).toNat)
  case atStart => exact ⟨0, by omega, rfl, Ho.out, ⟨_, _, rfl⟩, Hb.out⟩
  case round =>
    obtain ⟨k, hk, rfl, ho, ⟨g1, c1, rfl⟩, hb⟩ := hrel
    have Ho2 := Lib.hid ho; have Hb2 := Lib.hid hb
    clear ho hb
    by_cases hkn : k < n
    · obtain ⟨b, off, x, cs, rfl, hlt, hx, ⟨a2, n2, c2, rfl, hz, hn2, hc2, hg2⟩, hr⟩ := (H.out.go surfOk Hb2.out).at hkn
      have Hx := Lib.hid hx; have Hz := Lib.hid (hz.ir (fun _ h => h)); have Hc2 := Lib.hid hc2; have Hr := Lib.hid hr; have Hg2 := Lib.hid hg2
      clear hx hz hc2 hr hg2
      have Hl : (l.take k).length = k := by rw [List.length_take, hlen]; omega
      go_wp2_with (first
        | (refine wpL_load_at Hr.out rfl (.tmp 15) rfl rfl ?_)
        | (refine wpL_store_new x.s a2 n2 c2 _ rfl rfl (.tmp 7) (.tmp 16) rfl rfl rfl ?_)
        | (refine wpL_load_surf (SurfB.new _ x.s a2 n2 c2) rfl (.tmp 7) rfl rfl ?_)
        | ((with_reducible refine (bare_any x.s x.zs _ n2 c2 _ (Hz.out.go ((Below.refl _ _).alloc (Nat.le_refl _) _)) hn2 Hc2.out).mono ?_); rintro e w2 ⟨a', c', rfl, hi, hc, hb3⟩; have Hi := Lib.hid hi; have Hc3 := Lib.hid hc; have Hb3 := Lib.hid (below_chain (below_al (Below.refl _ _)) hb3); have hy : SurfR (fun b => w.heap.size ≤ b ∧ b < w2.heap.size ∧ (Value.slice (some ⟨g1, 0, none⟩) k c1).ownBlock ≠ some b) w2 x (cells22 x.s a' n2 c') := ⟨a', n2, c', rfl, hi.kept (KeptOn.refl _ _) (fun b hb => ⟨by have := hb.1; have := Hb2.out.size; simp at *; omega, hb.2, Ho2.out.fresh (by have := hb.1; simp at this; omega)⟩), hn2, hc, Hg2.out⟩; have Hy := Lib.hid hy; clear hi hc hb3 hy)
        | (refine wpList_append_rec surfOk Tryz.underlying34 Tryz.infoSurf3 rfl (by omega) (by omega) rfl (.tmp 17) (.tmp 21) rfl w.heap.size w2 (.slice (some ⟨g1, 0, none⟩) k c1) (l.take k) x (cells22 x.s a' n2 c') rfl (Ho2.out.go surfOk Hb3.out) rfl rfl Hy.out (by omega) (Nat.le_trans Hb2.out.size Hb3.out.size) ?_; intro g3 cap3 w3 ho3 hb4; have Ho3 := Lib.hid ho3; have Hb4 := Lib.hid hb4; clear ho3 hb4))
      go_roundw
      case rel => exact ⟨k + 1, by omega, by go_num, by rw [take_next Hx.out]; have := Ho3.out; rwa [Hl] at this, ⟨_, _, rfl⟩, Hb4.out _ _ (Nat.le_refl _) (below_chain Hb2.out Hb3.out)⟩
      case measure => simp [intOf]; omega
    · obtain rfl : k = n := by omega
      go_wp2
      go_ret
      have := Ho2.out
      rw [← hlen, List.take_length] at this
      exact ⟨g1, c1, by rw [hlen]; rfl, by rw [hlen]; rw [hlen] at this; exact this, Hb2.out⟩

end Go.Proofs.YtgohdcccfkjooaaGreatDoor

namespace Go.Proofs.YtgohdcccfkjooaaGreatDoor
open Go.RowKit

/-- a configuration, with its changes -/
structure ConfC where
  nm : ByteArray
  zs : List Int

def ConfR : Rep ConfC := fun S w x cs => ∃ a n c, cs = [.string x.nm, .slice a n c] ∧ IRp S w 3 a n c x.zs ∧ n ≤ 1000000 ∧ (a = none → c = 0) ∧ x.nm.size ≤ 9223372036854775807

theorem confOk : RepOk 2 ConfR where
  len := by rintro S w x cs ⟨a, n, c, rfl, _⟩; rfl
  kept := by rintro S T w w' x cs ⟨a, n, c, e, h, r⟩ hk hs; exact ⟨a, n, c, e, h.kept hk hs, r⟩
  one := by rintro S w x cs ⟨a, n, c, rfl, _⟩ v hv; simp only [List.mem_cons, List.not_mem_nil, or_false] at hv; rcases hv with rfl | rfl <;> rfl

end Go.Proofs.YtgohdcccfkjooaaGreatDoor

namespace Go.Proofs.YtgohdcccfkjooaaGreatDoor
end Go.Proofs.YtgohdcccfkjooaaGreatDoor

namespace Go.Proofs.YtgohdcccfkjooaaGreatDoor
open Go.RowKit

abbrev bs (l : List UInt8) : ByteArray := ⟨l.toArray⟩
theorem bs_data (l : List UInt8) : (bs l).data.toList = l := rfl
theorem bs_append (a b : List UInt8) : bs a ++ bs b = bs (a ++ b) := by
  apply ByteArray.ext; simp
end Go.Proofs.YtgohdcccfkjooaaGreatDoor

namespace Go.Proofs.YtgohdcccfkjooaaGreatDoor
open Go.Lib

/-! ### one byte searched for -/
theorem index1_none (c : UInt8) : ∀ (A : List UInt8), (∀ b ∈ A, b ≠ c) → index A [c] = -1
  | [], _ => rfl
  | b :: A, h => by
    have ih := index1_none c A (fun d hd => h d (List.mem_cons_of_mem _ hd))
    have hb := h b List.mem_cons_self
    have hp : ([c] : List UInt8).isPrefixOf (b :: A) = false := by
      show ((c : UInt8) == b && _) = false
      rw [Bool.and_eq_false_iff]
      exact Or.inl (beq_eq_false_iff_ne.2 (fun e => hb e.symm))
    rw [index, hp, ih]; rfl
theorem index1_at (c : UInt8) : ∀ (A f : List UInt8), (∀ b ∈ A, b ≠ c) → index (A ++ c :: f) [c] = A.length
  | [], f, _ => by
    have hp : ([c] : List UInt8).isPrefixOf (c :: f) = true := by
      show ((c : UInt8) == c && _) = true
      simp
    rw [List.nil_append, index, hp]; rfl
  | b :: A, f, h => by
    have ih := index1_at c A f (fun d hd => h d (List.mem_cons_of_mem _ hd))
    have hb := h b List.mem_cons_self
    have hp : ([c] : List UInt8).isPrefixOf (b :: (A ++ c :: f)) = false := by
      show ((c : UInt8) == b && _) = false
      rw [Bool.and_eq_false_iff]
      exact Or.inl (beq_eq_false_iff_ne.2 (fun e => hb e.symm))
    have hm : ((A.length : Int) == -1) = false := by rw [beq_eq_false_iff_ne]; omega
    rw [List.cons_append, index, hp, ih, hm, List.length_cons]
    simp
/-- a list parted at the first c -/
theorem parted (c : UInt8) : ∀ (l : List UInt8), (∀ b ∈ l, b ≠ c) ∨ ∃ A f, (∀ b ∈ A, b ≠ c) ∧ l = A ++ c :: f
  | [] => Or.inl (by simp)
  | b :: l => by
    by_cases hb : b = c
    · exact Or.inr ⟨[], l, by simp, by rw [hb]; rfl⟩
    · rcases parted c l with h | ⟨A, f, h, e⟩
      · exact Or.inl (by simp only [List.mem_cons, forall_eq_or_imp]; exact ⟨hb, h⟩)
      · exact Or.inr ⟨b :: A, f, by simp only [List.mem_cons, forall_eq_or_imp]; exact ⟨hb, h⟩, by rw [e]; rfl⟩
theorem linesOf_none : ∀ (l w : List UInt8), (∀ b ∈ l, b ≠ 10) → linesOf w l = [w ++ l]
  | [], w, _ => by simp [linesOf]
  | b :: l, w, h => by
    have hb : (b == 10) = false := beq_eq_false_iff_ne.2 (h b List.mem_cons_self)
    rw [linesOf, hb, if_neg (by simp), linesOf_none l _ (fun d hd => h d (List.mem_cons_of_mem _ hd))]; simp
theorem linesOf_at : ∀ (A w f : List UInt8), (∀ b ∈ A, b ≠ 10) → linesOf w (A ++ 10 :: f) = (w ++ A) :: linesOf [] f
  | [], w, f, _ => by simp [linesOf]
  | b :: A, w, f, h => by
    have hb : (b == 10) = false := beq_eq_false_iff_ne.2 (h b List.mem_cons_self)
    rw [List.cons_append, linesOf, hb, if_neg (by simp), linesOf_at A _ f (fun d hd => h d (List.mem_cons_of_mem _ hd))]; simp
theorem count_at (c : UInt8) {A f : List UInt8} (h : ∀ b ∈ A, b ≠ c) : count (A ++ c :: f) [c] = 1 + count f [c] := by
  rw [count_hit (i := A.length) (by simp) (index1_at c A f h)]
  congr 2
  rw [show A.length + ([c] : List UInt8).length = A.length + 1 from rfl, ← List.drop_drop, List.drop_left]; rfl
theorem split_lines : ∀ (n : Nat) (l : List UInt8), l.length ≤ n → splitK [10] 0 (count l [10]) l = linesOf [] l
  | n, l, hn => by
    rcases parted 10 l with h | ⟨A, f, h, rfl⟩
    · rw [count_miss (index1_none 10 l h), linesOf_none l _ h]; rfl
    · match n, hn with
      | 0, hn => simp at hn
      | n + 1, hn =>
        have hm : ((A.length : Int) == -1) = false := by rw [beq_eq_false_iff_ne]; omega
        rw [count_at 10 h, Nat.add_comm, splitK, index1_at 10 A f h, hm, if_neg (by simp), linesOf_at A _ f h, Int.toNat_natCast, Nat.add_zero, List.take_left]
        rw [show A.length + ([10] : List UInt8).length = A.length + 1 from rfl, ← List.drop_drop, List.drop_left]
        rw [show List.drop 1 (10 :: f) = f from rfl, split_lines n f (by simp at hn; omega)]; rfl
theorem splitB_lines (l : List UInt8) : (splitB (bs [10]) 0 (countB (bs l) (bs [10])) (bs l)) = (linesOf [] l).map bs := by
  have h := splitB_data (bs [10]) 0 (countB (bs l) (bs [10])) (bs l)
  rw [show countB (bs l) (bs [10]) = count l [10] from rfl] at h ⊢
  rw [show (bs [10]).data.toList = [10] from rfl, show (bs l).data.toList = l from rfl, split_lines l.length l (Nat.le_refl _)] at h
  rw [← h, List.map_map]
  exact (List.map_id'' (fun x => rfl) _).symm
theorem count_lines : ∀ (n : Nat) (l : List UInt8), l.length ≤ n → (linesOf [] l).length = count l [10] + 1
  | n, l, hn => by
    rcases parted 10 l with h | ⟨A, f, h, rfl⟩
    · rw [count_miss (index1_none 10 l h), linesOf_none l _ h]; rfl
    · match n, hn with
      | 0, hn => simp at hn
      | n + 1, hn => rw [count_at 10 h, linesOf_at A _ f h, List.length_cons, count_lines n f (by simp at hn; omega)]; omega

/-! ### words -/
theorem bs_ext (l : List UInt8) (a b : Nat) : (bs l).extract a b = bs ((l.drop a).take (b - a)) := by
  apply ByteArray.ext
  apply Array.ext'
  simp [ByteArray.data_extract, List.take_drop]
def begun (l : List UInt8) (pos : Nat) : Option Nat → List UInt8
  | none => []
  | some a => (l.drop a).take (pos - a)
theorem getD_drop' (l : List UInt8) (p j : Nat) : (l.drop p).getD j 0 = l.getD (p + j) 0 := by simp [List.getD, List.getElem?_drop]
theorem drop_cons {l : List UInt8} {pos : Nat} (h : pos < l.length) : l.drop pos = l.getD pos 0 :: l.drop (pos + 1) := by
  rw [List.drop_eq_getElem_cons h, List.getD_eq_getElem?_getD, List.getElem?_eq_getElem h]; rfl
theorem take_more (l : List UInt8) (a pos k : Nat) (h : a ≤ pos) : (l.drop a).take (pos - a) ++ (l.drop pos).take k = (l.drop a).take (pos + k - a) := by
  have e : l.drop pos = (l.drop a).drop (pos - a) := by rw [List.drop_drop]; congr 1; omega
  rw [e, show pos + k - a = (pos - a) + k by omega, List.take_add]
end Go.Proofs.YtgohdcccfkjooaaGreatDoor

namespace Go.Proofs.YtgohdcccfkjooaaGreatDoor
open Go.Lib

def isS (b : UInt8) : Bool := b == 32
/-- the words of a line; v the word that is begun -/
def wordsS : List UInt8 → List UInt8 → List (List UInt8)
  | v, [] => if v = [] then [] else [v]
  | v, b :: l => if isS b then (if v = [] then wordsS [] l else v :: wordsS [] l) else wordsS (v ++ [b]) l
def spS (r : Nat) : Bool := r == 32
theorem isS_iff (b : UInt8) : isS b = spS b.toNat := by
  unfold isS spS
  rw [Bool.eq_iff_iff]
  simp only [beq_iff_eq]
  exact ⟨fun h => by rw [h]; rfl, fun h => UInt8.toNat.inj h⟩
theorem spS_iff (r : Nat) : spS r = true ↔ r = 32 := by unfold spS; simp
theorem spS_no (r : Nat) : spS r = false ↔ r ≠ 32 := by unfold spS; rw [beq_eq_false_iff_ne]
theorem decN_s (n b0 b1 b2 b3 : Nat) : spS (decodeN n b0 b1 b2 b3).1 = true → (decodeN n b0 b1 b2 b3).2 = 1 ∧ b0 = 32 := by
  rw [spS_iff]
  unfold decodeN
  repeat' split
  all_goals first
    | (intro h; exact ⟨rfl, h⟩)
    | (intro h; simp only at h; omega)
theorem decN_sno (n b0 b1 b2 b3 : Nat) : spS (decodeN n b0 b1 b2 b3).1 = false → b0 ≠ 32 := by
  rw [spS_no]
  unfold decodeN
  repeat' split
  all_goals (intro h; simp only at h; omega)
theorem s_cont {b : UInt8} (h : b.toNat / 64 = 2) : isS b = false := by
  rw [isS_iff, spS_no]; omega
theorem dec_s {l : List UInt8} {pos : Nat} (h : spS (Utf8.decode (bs l) pos).1 = true) : (Utf8.decode (bs l) pos).2 = 1 ∧ isS (l.getD pos 0) = true := by
  rw [decode_N] at h ⊢
  obtain ⟨h1, h2⟩ := decN_s _ _ _ _ _ h
  refine ⟨h1, ?_⟩
  rw [isS_iff, spS_iff]; exact h2
theorem dec_sno {l : List UInt8} {pos : Nat} (hp : pos < l.length) (h : spS (Utf8.decode (bs l) pos).1 = false) : pos + (Utf8.decode (bs l) pos).2 ≤ l.length ∧ 1 ≤ (Utf8.decode (bs l) pos).2 ∧ ∀ j, j < (Utf8.decode (bs l) pos).2 → isS (l.getD (pos + j) 0) = false := by
  rw [decode_N] at h ⊢
  rw [show (bs l).data.toList = l from rfl] at h ⊢
  have h1 := decN_sno _ _ _ _ _ h
  have h2 := decodeN_le_n' (l.length - pos) (l.getD pos 0).toNat (l.getD (pos + 1) 0).toNat (l.getD (pos + 2) 0).toNat (l.getD (pos + 3) 0).toNat (by omega)
  obtain ⟨c1, c2, c3, c4⟩ := decodeN_conts (l.length - pos) (l.getD pos 0).toNat (l.getD (pos + 1) 0).toNat (l.getD (pos + 2) 0).toNat (l.getD (pos + 3) 0).toNat
  have h5 := decodeN_ge1 (l.length - pos) (l.getD pos 0).toNat (l.getD (pos + 1) 0).toNat (l.getD (pos + 2) 0).toNat (l.getD (pos + 3) 0).toNat
  refine ⟨by omega, h5, fun j hj => ?_⟩
  match j, hj with
  | 0, _ => rw [Nat.add_zero, isS_iff, spS_no]; exact h1
  | 1, hj => exact s_cont (c1 (by omega)).1
  | 2, hj => exact s_cont (c2 (by omega)).1
  | 3, hj => exact s_cont (c3 (by omega)).1
  | j + 4, hj => omega
theorem wordsS_sp {w l : List UInt8} {b : UInt8} (h : isS b = true) : wordsS w (b :: l) = (if w = [] then [] else [w]) ++ wordsS [] l := by
  rw [wordsS, h, if_pos rfl]
  split <;> simp
theorem wordsS_take : ∀ (k : Nat) (w l : List UInt8), k ≤ l.length → (∀ j, j < k → isS (l.getD j 0) = false) → wordsS w l = wordsS (w ++ l.take k) (l.drop k)
  | 0, w, l, _, _ => by simp
  | k + 1, w, [], h, _ => by simp at h
  | k + 1, w, b :: l, h, hs => by
    have h0 := hs 0 (by omega)
    rw [List.getD_cons_zero] at h0
    rw [wordsS, h0, if_neg (by simp), wordsS_take k (w ++ [b]) l (by simp at h; omega) (fun j hj => by have := hs (j + 1) (by omega); rwa [List.getD_cons_succ] at this)]
    simp
theorem spansS_words (l : List UInt8) : ∀ (f pos : Nat) (st : Option Nat) (acc : List (Nat × Nat)), l.length ≤ pos + f → pos ≤ l.length → (∀ a, st = some a → a < pos) →
    (closeSpans (bs l) (spansFromP spS (bs l) f pos st acc)).map (fun x => (bs l).extract x.1 x.2) = acc.map (fun x => (bs l).extract x.1 x.2) ++ (wordsS (begun l pos st) (l.drop pos)).map bs := by
  have hend : ∀ (pos : Nat) (st : Option Nat) (acc : List (Nat × Nat)), pos = l.length → (∀ a, st = some a → a < pos) →
      (closeSpans (bs l) (acc, st)).map (fun x => (bs l).extract x.1 x.2) = acc.map (fun x => (bs l).extract x.1 x.2) ++ (wordsS (begun l pos st) (l.drop pos)).map bs := by
    intro pos st acc hp hst
    subst hp
    rw [List.drop_length]
    cases st with
    | none => simp [closeSpans, begun, wordsS]
    | some a =>
      have ha := hst a rfl
      have hne : ¬ begun l l.length (some a) = [] := by
        intro e
        have := congrArg List.length e
        simp [begun] at this; omega
      simp only [closeSpans, wordsS]
      rw [if_neg hne, List.map_append, List.map_cons, List.map_nil, bs_ext]; rfl
  intro f
  induction f with
  | zero =>
    intro pos st acc hl hp hst
    exact hend pos st acc (by omega) hst
  | succ f ih =>
    intro pos st acc hl hp hst
    by_cases hlt : pos < l.length
    · have hsz : pos < (bs l).size := hlt
      cases hs : spS (Utf8.decode (bs l) pos).1
      · obtain ⟨k1, k2, k3⟩ := dec_sno hlt hs
        have hw := wordsS_take (Utf8.decode (bs l) pos).2 (begun l pos st) (l.drop pos) (by rw [List.length_drop]; omega) (fun j hj => by rw [getD_drop']; exact k3 j hj)
        rw [List.drop_drop] at hw
        rw [hw]
        cases st with
        | none =>
          rw [spansFromP, if_pos hsz, hs, if_neg (by simp)]
          rw [ih _ _ _ (by omega) (by omega) (fun a ha => by cases ha; omega)]
          simp only [begun, List.nil_append]
          congr 4
          omega
        | some a =>
          rw [spansFromP, if_pos hsz, hs, if_neg (by simp)]
          have ha := hst a rfl
          rw [ih _ _ _ (by omega) (by omega) (fun b hb => by cases hb; omega)]
          simp only [begun]
          rw [take_more l a pos _ (by omega)]
      · obtain ⟨k1, k2⟩ := dec_s hs
        rw [drop_cons hlt, wordsS_sp k2]
        cases st with
        | none =>
          rw [spansFromP, if_pos hsz, hs, if_pos rfl]
          rw [k1, ih _ _ _ (by omega) (by omega) (fun a ha => by cases ha)]
          simp [begun]
        | some a =>
          rw [spansFromP, if_pos hsz, hs, if_pos rfl]
          have ha := hst a rfl
          have hne : ¬ begun l pos (some a) = [] := by
            intro e
            have := congrArg List.length e
            simp [begun] at this; omega
          rw [k1, ih _ _ _ (by omega) (by omega) (fun a ha => by cases ha)]
          rw [if_neg hne, List.map_append, List.map_append, List.map_cons, List.map_nil, List.append_assoc, bs_ext]; rfl
    · rw [spansFromP_end _ _ _ _ _ _ (show ¬ pos < (bs l).size from hlt)]
      exact hend pos st acc (by omega) hst
theorem fieldsS_words (l : List UInt8) : goFieldsP spS (bs l) = (wordsS [] l).map bs := by
  have h := spansS_words l l.length 0 none [] (by omega) (Nat.zero_le _) (fun a h => by cases h)
  unfold goFieldsP spansOfP
  rw [show (bs l).size = l.length from rfl, h]
  simp [begun]
end Go.Proofs.YtgohdcccfkjooaaGreatDoor

namespace Go.Proofs.YtgohdcccfkjooaaGreatDoor
open Go.RowKit

end Go.Proofs.YtgohdcccfkjooaaGreatDoor

namespace Go.Proofs.YtgohdcccfkjooaaGreatDoor
open Go.RowKit

end Go.Proofs.YtgohdcccfkjooaaGreatDoor

namespace Go.Proofs.YtgohdcccfkjooaaGreatDoor
open Go.RowKit

/-- a slice of ints does not lie in a variable of a long integer -/
theorem LG.notVar {N : Nat} {w : World} {s x : Bool} {a p : Option Addr} {n c q r g : Nat} {z : Int} {T : TypeId} {fr : Nat × Nat} (h : LG N w s a n c z) (hg : w.heap[g]? = some (.cells #[.bool x, .slice p q r] T fr)) : ∀ b off, a = some ⟨b, off, none⟩ → 0 < n → b ≠ g := by
  intro b off e h0 he
  subst he e
  obtain ⟨b', off', e, _, hc⟩ := h.2.1.at h0
  cases e
  have h1 := hc 0 h0
  rw [Nat.add_zero] at h1
  simp only [World.cell?, hg] at h1
  match off, h1 with
  | 0, h1 => cases h1
  | 1, h1 => cases h1
  | k + 2, h1 => simp at h1

/-- block g holds the long integer z -/
def LV (w : World) (g : Nat) (z : Int) : Prop :=
  ∃ s p q c, w.heap[g]? = some (.cells #[.bool s, .slice p q c] 221 (0, 0)) ∧ LG w.heap.size w s p q c z

theorem LV.below {w w' : World} {g : Nat} {z : Int} (h : LV w g z) (hb : Below w.heap.size w w') : LV w' g z := by
  obtain ⟨s, p, q, c, h1, h2⟩ := h
  exact ⟨s, p, q, c, (hb.block g (lt_of_block h1)).trans h1, h2.go hb⟩
theorem LV.lt {w : World} {g : Nat} {z : Int} (h : LV w g z) : g < w.heap.size := let ⟨_, _, _, _, h1, _⟩ := h; lt_of_block h1
theorem LV.alloc {w : World} {g : Nat} {z : Int} (h : LV w g z) (o : Obj) : LV (w.alloc o) g z := h.below ((Below.refl _ _).alloc (Nat.le_refl _) _)
theorem LV.new {w : World} {s : Bool} {p : Option Addr} {q c : Nat} {z : Int} (h : LG w.heap.size w s p q c z) : LV (w.alloc (.cells #[.bool s, .slice p q c] 221)) w.heap.size z :=
  ⟨s, p, q, c, heap_alloc_new _ _, by simpa using h.go ((Below.refl _ _).alloc (Nat.le_refl _) _)⟩
theorem LG.setVar {w : World} {g : Nat} {z z' : Int} {s : Bool} {p : Option Addr} {q c : Nat} (hv : LV w g z') (h : LG w.heap.size w s p q c z) (u v : Value) :
    LG ((w.setCell ⟨g, 0, none⟩ u).setCell ⟨g, 1, none⟩ v).heap.size ((w.setCell ⟨g, 0, none⟩ u).setCell ⟨g, 1, none⟩ v) s p q c z := by
  obtain ⟨s', p', q', c', h1, _⟩ := hv
  have hne := h.notVar h1
  have := (h.setCell ⟨g, 0, none⟩ u hne).setCell ⟨g, 1, none⟩ v hne
  simpa using this
theorem LV.store {w : World} {g : Nat} {z z' : Int} {s : Bool} {p : Option Addr} {q c : Nat} (hv : LV w g z') (h : LG w.heap.size w s p q c z) :
    LV ((w.setCell ⟨g, 0, none⟩ (.bool s)).setCell ⟨g, 1, none⟩ (.slice p q c)) g z := by
  have h2 := h.setVar hv (.bool s) (.slice p q c)
  obtain ⟨s', p', q', c', h1, _⟩ := hv
  refine ⟨s, p, q, c, ?_, h2⟩
  rw [obj_setCell (w := w.setCell ⟨g, 0, none⟩ (.bool s)) (by exact obj_setCell h1 0 (.bool s)) 1 (.slice p q c)]
  rfl
theorem LV.other {w : World} {g k : Nat} {z z' : Int} (h : LV w k z) (hv : LV w g z') (hne : g ≠ k) (u v : Value) : LV ((w.setCell ⟨g, 0, none⟩ u).setCell ⟨g, 1, none⟩ v) k z := by
  obtain ⟨s, p, q, c, h1, h2⟩ := h
  exact ⟨s, p, q, c, obj_other (obj_other h1 _ hne _) _ hne _, h2.setVar hv u v⟩
theorem digits_size {u k : Nat} (h : (digs u).length ≤ k) (hk : 1 ≤ k) : (Lib.decDigits u).length ≤ 9 * k := by
  rw [Lib.decDigits_length]
  rcases nDigits_digs u with e | e
  · omega
  · subst e; rw [Lib.nDigits_small (by omega)]; omega
end Go.Proofs.YtgohdcccfkjooaaGreatDoor

namespace Go.Proofs.YtgohdcccfkjooaaGreatDoor
open Go.RowKit

end Go.Proofs.YtgohdcccfkjooaaGreatDoor

namespace Go.Proofs.YtgohdcccfkjooaaGreatDoor
open Go.RowKit

def fits (z : Int) : Bool := decide (-9223372036854775808 ≤ z ∧ z ≤ 9223372036854775807)
end Go.Proofs.YtgohdcccfkjooaaGreatDoor

namespace Go.Proofs.YtgohdcccfkjooaaGreatDoor
open Go.RowKit

/-- what Parse gives: the number and the error -/
def parN (l : List UInt8) (d : Nat) : Int := match decForm l with
  | none => 0
  | some p => if p ≤ d ∧ fits (numV l * 10 ^ (d - p)) = true then numV l * 10 ^ (d - p) else 0
def parE (l : List UInt8) (d : Nat) : Int := match decForm l with
  | none => 5
  | some p => if p ≤ d then (if fits (numV l * 10 ^ (d - p)) = true then 0 else 6) else 5
def kTop : Nat := 5000
attribute [irreducible] kTop
end Go.Proofs.YtgohdcccfkjooaaGreatDoor

namespace Go.Proofs.YtgohdcccfkjooaaGreatDoor
open Go.RowKit

end Go.Proofs.YtgohdcccfkjooaaGreatDoor

namespace Go.Proofs.YtgohdcccfkjooaaGreatDoor
open Go.RowKit

theorem eq4' (s : Surf) (w : World) : (Op.equalIn 10000 64 (.agg #[.int .i64 s.a0, .int .i64 s.a1, .int .i64 s.a2, .int .i64 s.a3]) (.agg #[.int .i64 s.a0, .int .i64 s.a1, .int .i64 s.a2, .int .i64 s.a3])).run Tryz.prog w = .ok true w := by
  have h := eq_ints 9998 (n := 4) (k' := .i64) Tryz.underlying64 (by kernel_rfl) Tryz.underlying3 (by kernel_rfl) [s.a0, s.a1, s.a2, s.a3] [s.a0, s.a1, s.a2, s.a3] rfl rfl w
  simpa using h
theorem eq2' (s : Surf) (w : World) : (Op.equalIn 10000 65 (.agg #[.int .i64 s.p0, .int .i64 s.p1]) (.agg #[.int .i64 s.p0, .int .i64 s.p1])).run Tryz.prog w = .ok true w := by
  have h := eq_ints 9998 (n := 2) (k' := .i64) Tryz.underlying65 (by kernel_rfl) Tryz.underlying3 (by kernel_rfl) [s.p0, s.p1] [s.p0, s.p1] rfl rfl w
  simpa using h

set_option maxRecDepth 100000 in
set_option maxHeartbeats 6400000 in
theorem refSame_eq (s : Surf) (xs : List Int) (a b : Option Addr) (n c d : Nat) (w : World) (hx : IR w.heap.size w 3 a n c xs) (hy : IR w.heap.size w 3 b n d xs) (hn : n ≤ 1000000) :
    Calls Tryz.prog 56 #[.agg #[.int .i64 s.kind, .int .i64 s.curv, .int .i64 s.conic, .int .i64 s.curvX, .int .i64 s.conicX, .int .i64 s.a0, .int .i64 s.a1, .int .i64 s.a2, .int .i64 s.a3, .int .i64 s.p0, .int .i64 s.p1, .int .i64 s.order, .int .i64 s.thick, .string s.glass, .int .i64 s.semi, .int .i64 s.hole, .int .i64 s.dx, .int .i64 s.dy, .int .i64 s.ax, .int .i64 s.ay, .int .i64 s.az, .slice a n c], .agg #[.int .i64 s.kind, .int .i64 s.curv, .int .i64 s.conic, .int .i64 s.curvX, .int .i64 s.conicX, .int .i64 s.a0, .int .i64 s.a1, .int .i64 s.a2, .int .i64 s.a3, .int .i64 s.p0, .int .i64 s.p1, .int .i64 s.order, .int .i64 s.thick, .string s.glass, .int .i64 s.semi, .int .i64 s.hole, .int .i64 s.dx, .int .i64 s.dy, .int .i64 s.ax, .int .i64 s.ay, .int .i64 s.az, .slice b n d]] w (RetB w (.bool true)) := by
  obtain ⟨e1, e2⟩ := heap_two w (.cells #[.int .i64 s.kind, .int .i64 s.curv, .int .i64 s.conic, .int .i64 s.curvX, .int .i64 s.conicX, .int .i64 s.a0, .int .i64 s.a1, .int .i64 s.a2, .int .i64 s.a3, .int .i64 s.p0, .int .i64 s.p1, .int .i64 s.order, .int .i64 s.thick, .string s.glass, .int .i64 s.semi, .int .i64 s.hole, .int .i64 s.dx, .int .i64 s.dy, .int .i64 s.ax, .int .i64 s.ay, .int .i64 s.az, .slice a n c] 70) (.cells #[.int .i64 s.kind, .int .i64 s.curv, .int .i64 s.conic, .int .i64 s.curvX, .int .i64 s.conicX, .int .i64 s.a0, .int .i64 s.a1, .int .i64 s.a2, .int .i64 s.a3, .int .i64 s.p0, .int .i64 s.p1, .int .i64 s.order, .int .i64 s.thick, .string s.glass, .int .i64 s.semi, .int .i64 s.hole, .int .i64 s.dx, .int .i64 s.dy, .int .i64 s.ax, .int .i64 s.ay, .int .i64 s.az, .slice b n d] 70)
  have hb := below_two (w := w) (.cells #[.int .i64 s.kind, .int .i64 s.curv, .int .i64 s.conic, .int .i64 s.curvX, .int .i64 s.conicX, .int .i64 s.a0, .int .i64 s.a1, .int .i64 s.a2, .int .i64 s.a3, .int .i64 s.p0, .int .i64 s.p1, .int .i64 s.order, .int .i64 s.thick, .string s.glass, .int .i64 s.semi, .int .i64 s.hole, .int .i64 s.dx, .int .i64 s.dy, .int .i64 s.ax, .int .i64 s.ay, .int .i64 s.az, .slice a n c] 70) (.cells #[.int .i64 s.kind, .int .i64 s.curv, .int .i64 s.conic, .int .i64 s.curvX, .int .i64 s.conicX, .int .i64 s.a0, .int .i64 s.a1, .int .i64 s.a2, .int .i64 s.a3, .int .i64 s.p0, .int .i64 s.p1, .int .i64 s.order, .int .i64 s.thick, .string s.glass, .int .i64 s.semi, .int .i64 s.hole, .int .i64 s.dx, .int .i64 s.dy, .int .i64 s.ax, .int .i64 s.ay, .int .i64 s.az, .slice b n d] 70)
  have Hx := Lib.hid hx; have Hy := Lib.hid hy; have E1 := Lib.hid e1; have E2 := Lib.hid e2; have Hb := Lib.hid hb
  clear hx hy e1 e2 hb
  go_enter Tryz.func56, Tryz.ntmps56
  go_upto_region 1 with fail
  refine step_world (fun wx => SurfB wx w.heap.size s a n c ∧ SurfB wx (w.heap.size + 1) s b n d ∧ Below w.heap.size w wx) ⟨E1.out, E2.out, Hb.out⟩ ?_
  clear E1 E2 Hb
  rintro w1 ⟨h1, h2, hb⟩
  have hl1 := h1.lt
  have hl2 := h2.lt
  have c1 := h1.cells.2.2.2.2.2.2.2.2.2.2.2.2.2.2.2.2.2.2.2.2.2
  have c2 := h2.cells.2.2.2.2.2.2.2.2.2.2.2.2.2.2.2.2.2.2.2.2.2
  have H1 := Lib.hid h1; have H2 := Lib.hid h2; have Hb := Lib.hid hb
  clear h1 h2 hb
  go_wp2_with fail
  go_loopw [5] (fun iv wr => ∃ k : Nat, k ≤ n ∧ iv = .int .i64 (k : Int) ∧ SurfB wr w.heap.size s a n c ∧ SurfB wr (w.heap.size + 1) s b n d ∧ Below w.heap.size w wr) (fun iv _ => n - (intOf iv).toNat)
  case atStart => exact ⟨0, Nat.zero_le _, rfl, H1.out, H2.out, Hb.out⟩
  case round =>
    clear c1 c2 H1 H2 Hb hl1 hl2
    obtain ⟨k, hk, rfl, h1, h2, hb⟩ := hrel
    have hl1 := h1.lt
    have hl2 := h2.lt
    have c1 := h1.cells.2.2.2.2.2.2.2.2.2.2.2.2.2.2.2.2.2.2.2.2.2
    have c2 := h2.cells.2.2.2.2.2.2.2.2.2.2.2.2.2.2.2.2.2.2.2.2.2
    have H1 := Lib.hid h1; have H2 := Lib.hid h2; have Hb := Lib.hid hb
    clear h1 h2 hb
    by_cases hkn : k < n
    · obtain ⟨b1, o1, rfl, l1, x0, x1, x2⟩ := (Hx.out.go Hb.out).at3 hkn
      obtain ⟨b2, o2, rfl, l2, y0, y1, y2⟩ := (Hy.out.go Hb.out).at3 hkn
      generalize xs.getD (k * 3) 0 = p0 at *
      generalize xs.getD (k * 3 + 1) 0 = p1 at *
      generalize xs.getD (k * 3 + 2) 0 = p2 at *
      go_wp2_with fail
      go_quiet (fail)
      go_wp2_with fail
      go_roundw
      case rel => exact ⟨k + 1, by omega, by go_num, SurfB.of_dr H1.out, SurfB.of_dr H2.out, below_drewN Hb.out _⟩
      case measure => simp [intOf]; omega
    · obtain rfl : k = n := by omega
      go_upto_region 8 with fail
      clear c1 c2 Hx Hy
      obtain ⟨k0, k1, k2, k3, k4, k5, k6, k7, k8, k9, k10, k11, k12, k13, k14, k15, k16, k17, k18, k19, k20, k21⟩ := H1.out.cells
      obtain ⟨j0, j1, j2, j3, j4, j5, j6, j7, j8, j9, j10, j11, j12, j13, j14, j15, j16, j17, j18, j19, j20, j21⟩ := H2.out.cells
      have e4 := eq4' s wr
      have e2 := eq2' s wr
      clear H1 H2
      go_wp2
      go_ret
      exact ⟨rfl, Hb.out⟩

end Go.Proofs.YtgohdcccfkjooaaGreatDoor
