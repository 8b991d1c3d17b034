/-
  DERIVED. Several texts in one: LensE, LensF, DrA, LensG, RlA, RsfA, RsfH.
-/
import Derived.Test.YthommhfppeonpaaGreatDoorGad
import Derived.Test.YthommhfppeonpaaGreatDoorHSurfI
namespace Go.Proofs.YthommhfppeonpaaGreatDoor
open Go.RowKit

/-- a call that gives back a slice of records of k ints each in memory of its own -/
def RetI (w : World) (k : Nat) (zs : List Int) (n : Nat) (e : Ending) (w' : World) : Prop :=
  ∃ a c, e = .returned (.slice a n c) ∧ IRp (fun b => w.heap.size ≤ b ∧ b < w'.heap.size) w' k a n c zs ∧ (a = none → c = 0) ∧ Below w.heap.size w w'

theorem own_irp {w : World} {base k n : Nat} {T : TypeId} {v : Value} {zs : List Int} (h : w.ownsRow base T k v n (zs.map (Value.int .i64))) : ∃ a c, v = .slice a n c ∧ (a = none → c = 0) ∧ IRp (fun b => base ≤ b ∧ b < w.heap.size) w k a n c zs := by
  have hl := h.1
  rw [List.length_map] at hl
  rcases id h.2 with ⟨rfl, rfl⟩ | ⟨g, cap, cur, rfl, q1, q2, q3, q4, q5, q6⟩
  · obtain rfl : zs = [] := List.length_eq_zero_iff.1 (by rw [hl, Nat.zero_mul])
    exact ⟨none, 0, rfl, fun _ => rfl, IRp.nil _ _ _ _ _⟩
  · refine ⟨_, cap, rfl, (fun e => by cases e), hl, q3, fun hn => ⟨g, 0, rfl, ⟨q1, lt_of_block q2⟩, fun j hj => ?_⟩⟩
    have hj2 : j < zs.length := by omega
    have hc := h.cells (g := g) rfl j (.int .i64 (zs.getD j 0)) (by rw [List.getElem?_map, List.getElem?_eq_getElem hj2]; simp [List.getD_eq_getElem?_getD, hj2])
    rw [Addr.add_mid] at hc
    exact hc

theorem IRp.none {S : Nat → Prop} {w : World} {k n c : Nat} {zs : List Int} (h : IRp S w k Option.none n c zs) : n = 0 ∧ zs = [] := by
  have : n = 0 := by
    apply Decidable.byContradiction; intro hn
    obtain ⟨b, off, e, _⟩ := h.2.2 (by omega)
    cases e
  subst this
  exact ⟨rfl, List.length_eq_zero_iff.1 (by rw [h.1, Nat.zero_mul])⟩

/-- append of records of ints to a row of the call's own -/
theorem wpList_append_irs {ops : Array Oper} {rest : List Oper} {o : Oper} {a : Act} {Q : Exit → Act → World → Prop} {w : World} {T ST : TypeId} {z : Value} {k bytes : Nat} (hST : Tryz.prog.underlying ST = some (.slice T)) (hT : (Tryz.prog.info? T).map (fun i => (i.zero, i.size, i.bytes)) = some (some z, k, bytes)) (hz : z.cells.size = k) (hk : 0 < k) (hby : bytes ≤ 10000)
    (hgd : o.guard = none) (s x : Operand)
    (ho : o.op = .call { callee := .builtin .append, args := #[s, x], argTypes := #[ST, ST] }) (base : Nat) (v : Value) (n : Nat) (xs : List Int)
    (hs : a.eval s = v) (hrow : w.ownsRow base T k v n (xs.map (Value.int .i64))) (S : Nat → Prop) (sp : Option Addr) (m c : Nat) (ys : List Int) (hx : a.eval x = .slice sp m c) (hy : IRp S w k sp m c ys) (hc : sp = Option.none → c = 0) (hn : n + m ≤ 10000000) (hbase : base ≤ w.heap.size)
    (h : ∀ v' w', w'.ownsRow base T k v' (n + m) ((xs ++ ys).map (Value.int .i64)) → w.grownBy w' v.ownBlock → wpList Tryz.prog ops Q rest (a.put o.dst v') w') :
    wpList Tryz.prog ops Q (o :: rest) a w := by
  have hl := hy.1
  refine wpList_append_cells hgd s x ST ho base T z k bytes hST hT hz hk v n _ hs hrow sp m c (ys.map (Value.int .i64)) hx (by rw [List.length_map, hl]) ?_ (by simp [Value.oneCell']) ?_ (Nat.le_trans (Nat.mul_le_mul hn hby) (by omega)) (by omega) hbase ?_
  · intro hm
    obtain ⟨b, off, e, _, hc⟩ := hy.2.2 hm
    refine ⟨b, off, e, fun j u hj => ?_⟩
    have hjl : j < ys.length := by
      apply Decidable.byContradiction; intro hcon
      rw [List.getElem?_eq_none (by simp; omega)] at hj; cases hj
    have := hc j (by omega)
    rw [List.getElem?_map, List.getElem?_eq_getElem hjl] at hj
    simp at hj; subst hj
    rw [this]
    simp [List.getD_eq_getElem?_getD, hjl]
  · intro e
    subst e
    exact ⟨(hy.none).1, hc rfl⟩
  · intro v' w' h1 h2
    exact h v' w' (by rw [List.map_append]; exact h1) h2

theorem Tryz.infoFilm3 : (Tryz.prog.info? 138).map (fun i => (i.zero, i.size, i.bytes)) = some (some (.agg #[.int .i64 0, .int .i64 0, .int .i64 0]), 3, 24) := by kernel_rfl
theorem Tryz.infoChange3 : (Tryz.prog.info? 102).map (fun i => (i.zero, i.size, i.bytes)) = some (some (.agg #[.int .i64 0, .int .i64 0, .int .i64 0]), 3, 24) := by kernel_rfl
theorem Tryz.infoField2 : (Tryz.prog.info? 84).map (fun i => (i.zero, i.size, i.bytes)) = some (some (.agg #[.int .i64 0, .int .i64 0]), 2, 16) := by kernel_rfl
theorem Tryz.infoWave2 : (Tryz.prog.info? 86).map (fun i => (i.zero, i.size, i.bytes)) = some (some (.agg #[.int .i64 0, .int .i64 0]), 2, 16) := by kernel_rfl
theorem Tryz.infoSurf3 : (Tryz.prog.info? 92).map (fun i => (i.zero, i.size, i.bytes)) = some (some (.agg #[.int .i64 0, .int .i64 0, .int .i64 0, .int .i64 0, .int .i64 0, .int .i64 0, .int .i64 0, .int .i64 0, .int .i64 0, .int .i64 0, .int .i64 0, .int .i64 0, .int .i64 0, .string emptyS, .int .i64 0, .int .i64 0, .int .i64 0, .int .i64 0, .int .i64 0, .int .i64 0, .int .i64 0, .slice none 0 0]), 22, 200) := by kernel_rfl
theorem Tryz.infoConfig3 : (Tryz.prog.info? 136).map (fun i => (i.zero, i.size, i.bytes)) = some (some (.agg #[.string emptyS, .slice none 0 0]), 2, 40) := by kernel_rfl

set_option maxRecDepth 100000 in
set_option maxHeartbeats 800000 in
theorem clone_film (zs : List Int) (a : Option Addr) (n c : Nat) (w : World) (h : IR w.heap.size w 3 a n c zs) (hn : n ≤ 1000000) (hc : a = none → c = 0) :
    Calls Tryz.prog 93 #[.slice a n c] w (RetI w 3 zs n) := by
  have H := Lib.hid h; clear h
  cases a with
  | none =>
    obtain rfl := hc rfl
    have heq := fun w => Lib.run_eql_slice_nil (P := Tryz.prog) w 90 138 none n 0 0 0 Tryz.underlying90
    go_enter Tryz.func93, Tryz.ntmps93
    go_wp2
    go_ret
    obtain ⟨rfl, rfl⟩ := (H.out.irp (S := fun _ => True) (fun _ _ => trivial)).none
    exact ⟨none, 0, rfl, IRp.nil _ _ _ _ _, fun _ => rfl, Below.refl _ _⟩
  | some ad =>
    clear hc
    have heq := fun w => Lib.run_eql_slice_nil (P := Tryz.prog) w 90 138 (some ad) n c 0 0 Tryz.underlying90
    go_enter Tryz.func93, Tryz.ntmps93
    go_wp2_with (refine wpList_append_irs Tryz.underlying90 Tryz.infoFilm3 rfl (by omega) (by omega) rfl (.tmp 5) (.tmp 6) rfl w.heap.size (.slice (some ⟨w.heap.size, 0, none⟩) 0 0) 0 [] rfl (World.ownsRow_made w #[] 0 (Nat.le_refl _) (by simp) rfl) (fun b => b < w.heap.size) (some ad) n c zs rfl (IR.irp (H.out.below ((Below.refl _ _).alloc (Nat.le_refl _) _) (Nat.le_refl _)) (fun _ h => h)) (fun e => by cases e) (by omega) (by simp) ?_; intro v' w1 hown hgrow; have hbel : Below w.heap.size w w1 := ((Below.refl _ _).alloc (Nat.le_refl _) _).grown hgrow (by simp) (by intro k hk; simp [Value.ownBlock] at hk; omega); have Hown := Lib.hid hown; have Hbel := Lib.hid hbel; clear hown hgrow hbel)
    go_wp2
    go_ret
    obtain ⟨a', c', rfl, h1, h2⟩ := own_irp (zs := zs) (by simpa using Hown.out)
    exact ⟨a', c', rfl, by simpa using h2, h1, Hbel.out⟩

set_option maxRecDepth 100000 in
set_option maxHeartbeats 800000 in
theorem clone_change (zs : List Int) (a : Option Addr) (n c : Nat) (w : World) (h : IR w.heap.size w 3 a n c zs) (hn : n ≤ 1000000) (hc : a = none → c = 0) :
    Calls Tryz.prog 94 #[.slice a n c] w (RetI w 3 zs n) := by
  have H := Lib.hid h; clear h
  cases a with
  | none =>
    obtain rfl := hc rfl
    have heq := fun w => Lib.run_eql_slice_nil (P := Tryz.prog) w 134 102 none n 0 0 0 Tryz.underlying134
    go_enter Tryz.func94, Tryz.ntmps94
    go_wp2
    go_ret
    obtain ⟨rfl, rfl⟩ := (H.out.irp (S := fun _ => True) (fun _ _ => trivial)).none
    exact ⟨none, 0, rfl, IRp.nil _ _ _ _ _, fun _ => rfl, Below.refl _ _⟩
  | some ad =>
    clear hc
    have heq := fun w => Lib.run_eql_slice_nil (P := Tryz.prog) w 134 102 (some ad) n c 0 0 Tryz.underlying134
    go_enter Tryz.func94, Tryz.ntmps94
    go_wp2_with (refine wpList_append_irs Tryz.underlying134 Tryz.infoChange3 rfl (by omega) (by omega) rfl (.tmp 5) (.tmp 6) rfl w.heap.size (.slice (some ⟨w.heap.size, 0, none⟩) 0 0) 0 [] rfl (World.ownsRow_made w #[] 0 (Nat.le_refl _) (by simp) rfl) (fun b => b < w.heap.size) (some ad) n c zs rfl (IR.irp (H.out.below ((Below.refl _ _).alloc (Nat.le_refl _) _) (Nat.le_refl _)) (fun _ h => h)) (fun e => by cases e) (by omega) (by simp) ?_; intro v' w1 hown hgrow; have hbel : Below w.heap.size w w1 := ((Below.refl _ _).alloc (Nat.le_refl _) _).grown hgrow (by simp) (by intro k hk; simp [Value.ownBlock] at hk; omega); have Hown := Lib.hid hown; have Hbel := Lib.hid hbel; clear hown hgrow hbel)
    go_wp2
    go_ret
    obtain ⟨a', c', rfl, h1, h2⟩ := own_irp (zs := zs) (by simpa using Hown.out)
    exact ⟨a', c', rfl, by simpa using h2, h1, Hbel.out⟩

set_option maxRecDepth 100000 in
set_option maxHeartbeats 800000 in
theorem clone_field (zs : List Int) (a : Option Addr) (n c : Nat) (w : World) (h : IR w.heap.size w 2 a n c zs) (hn : n ≤ 1000000) (hc : a = none → c = 0) :
    Calls Tryz.prog 56 #[.slice a n c] w (RetI w 2 zs n) := by
  have H := Lib.hid h; clear h
  cases a with
  | none =>
    obtain rfl := hc rfl
    have heq := fun w => Lib.run_eql_slice_nil (P := Tryz.prog) w 43 84 none n 0 0 0 Tryz.underlying43
    go_enter Tryz.func56, Tryz.ntmps56
    go_wp2
    go_ret
    obtain ⟨rfl, rfl⟩ := (H.out.irp (S := fun _ => True) (fun _ _ => trivial)).none
    exact ⟨none, 0, rfl, IRp.nil _ _ _ _ _, fun _ => rfl, Below.refl _ _⟩
  | some ad =>
    clear hc
    have heq := fun w => Lib.run_eql_slice_nil (P := Tryz.prog) w 43 84 (some ad) n c 0 0 Tryz.underlying43
    go_enter Tryz.func56, Tryz.ntmps56
    go_wp2_with (refine wpList_append_irs Tryz.underlying43 Tryz.infoField2 rfl (by omega) (by omega) rfl (.tmp 5) (.tmp 6) rfl w.heap.size (.slice (some ⟨w.heap.size, 0, none⟩) 0 0) 0 [] rfl (World.ownsRow_made w #[] 0 (Nat.le_refl _) (by simp) rfl) (fun b => b < w.heap.size) (some ad) n c zs rfl (IR.irp (H.out.below ((Below.refl _ _).alloc (Nat.le_refl _) _) (Nat.le_refl _)) (fun _ h => h)) (fun e => by cases e) (by omega) (by simp) ?_; intro v' w1 hown hgrow; have hbel : Below w.heap.size w w1 := ((Below.refl _ _).alloc (Nat.le_refl _) _).grown hgrow (by simp) (by intro k hk; simp [Value.ownBlock] at hk; omega); have Hown := Lib.hid hown; have Hbel := Lib.hid hbel; clear hown hgrow hbel)
    go_wp2
    go_ret
    obtain ⟨a', c', rfl, h1, h2⟩ := own_irp (zs := zs) (by simpa using Hown.out)
    exact ⟨a', c', rfl, by simpa using h2, h1, Hbel.out⟩

set_option maxRecDepth 100000 in
set_option maxHeartbeats 800000 in
theorem clone_wave (zs : List Int) (a : Option Addr) (n c : Nat) (w : World) (h : IR w.heap.size w 2 a n c zs) (hn : n ≤ 1000000) (hc : a = none → c = 0) :
    Calls Tryz.prog 57 #[.slice a n c] w (RetI w 2 zs n) := by
  have H := Lib.hid h; clear h
  cases a with
  | none =>
    obtain rfl := hc rfl
    have heq := fun w => Lib.run_eql_slice_nil (P := Tryz.prog) w 44 86 none n 0 0 0 Tryz.underlying44
    go_enter Tryz.func57, Tryz.ntmps57
    go_wp2
    go_ret
    obtain ⟨rfl, rfl⟩ := (H.out.irp (S := fun _ => True) (fun _ _ => trivial)).none
    exact ⟨none, 0, rfl, IRp.nil _ _ _ _ _, fun _ => rfl, Below.refl _ _⟩
  | some ad =>
    clear hc
    have heq := fun w => Lib.run_eql_slice_nil (P := Tryz.prog) w 44 86 (some ad) n c 0 0 Tryz.underlying44
    go_enter Tryz.func57, Tryz.ntmps57
    go_wp2_with (refine wpList_append_irs Tryz.underlying44 Tryz.infoWave2 rfl (by omega) (by omega) rfl (.tmp 5) (.tmp 6) rfl w.heap.size (.slice (some ⟨w.heap.size, 0, none⟩) 0 0) 0 [] rfl (World.ownsRow_made w #[] 0 (Nat.le_refl _) (by simp) rfl) (fun b => b < w.heap.size) (some ad) n c zs rfl (IR.irp (H.out.below ((Below.refl _ _).alloc (Nat.le_refl _) _) (Nat.le_refl _)) (fun _ h => h)) (fun e => by cases e) (by omega) (by simp) ?_; intro v' w1 hown hgrow; have hbel : Below w.heap.size w w1 := ((Below.refl _ _).alloc (Nat.le_refl _) _).grown hgrow (by simp) (by intro k hk; simp [Value.ownBlock] at hk; omega); have Hown := Lib.hid hown; have Hbel := Lib.hid hbel; clear hown hgrow hbel)
    go_wp2
    go_ret
    obtain ⟨a', c', rfl, h1, h2⟩ := own_irp (zs := zs) (by simpa using Hown.out)
    exact ⟨a', c', rfl, by simpa using h2, h1, Hbel.out⟩


end Go.Proofs.YthommhfppeonpaaGreatDoor

namespace Go.Proofs.YthommhfppeonpaaGreatDoor
open Go.RowKit

/-- a surface with its coating -/
structure SurfC where
  s : Surf
  zs : List Int

def cells22 (s : Surf) (a : Option Addr) (n c : Nat) : List Value := [.int .i64 s.kind, .int .i64 s.curv, .int .i64 s.conic, .int .i64 s.curvX, .int .i64 s.conicX, .int .i64 s.a0, .int .i64 s.a1, .int .i64 s.a2, .int .i64 s.a3, .int .i64 s.p0, .int .i64 s.p1, .int .i64 s.order, .int .i64 s.thick, .string s.glass, .int .i64 s.semi, .int .i64 s.hole, .int .i64 s.dx, .int .i64 s.dy, .int .i64 s.ax, .int .i64 s.ay, .int .i64 s.az, .slice a n c]

/-- how it lies in memory -/
def SurfR : Rep SurfC := fun S w x cs => ∃ a n c, cs = cells22 x.s a n c ∧ IRp S w 3 a n c x.zs ∧ n ≤ 1000000 ∧ (a = none → c = 0) ∧ x.s.glass.size ≤ 9223372036854775807

theorem surfOk : RepOk 22 SurfR where
  len := by rintro S w x cs ⟨a, n, c, rfl, _⟩; rfl
  kept := by rintro S T w w' x cs ⟨a, n, c, e, h, r⟩ hk hs; exact ⟨a, n, c, e, h.kept hk hs, r⟩
  one := by rintro S w x cs ⟨a, n, c, rfl, _⟩ v hv; unfold cells22 at hv; simp only [List.mem_cons, List.not_mem_nil, or_false] at hv; rcases hv with rfl | rfl | rfl | rfl | rfl | rfl | rfl | rfl | rfl | rfl | rfl | rfl | rfl | rfl | rfl | rfl | rfl | rfl | rfl | rfl | rfl | rfl <;> rfl

/-- a store behind an allocation -/
theorem setCell_alloc (w : World) (cs : Array Value) (T : TypeId) (i : Nat) (v : Value) : (w.alloc (.cells cs T)).setCell ⟨w.heap.size, i, none⟩ v = w.alloc (.cells (cs.setIfInBounds i v) T) := by
  have e : (w.heap.push (Obj.cells cs T)).modify w.heap.size (fun o => match o with | .cells cs t fr => .cells (cs.setIfInBounds i v) t fr | o => o) = w.heap.push (Obj.cells (cs.setIfInBounds i v) T) := by
    apply Array.ext
    · simp
    · intro j h1 h2
      rw [Array.getElem_modify, Array.getElem_push, Array.getElem_push]
      by_cases hj : j < w.heap.size
      · rw [if_neg (by omega), dif_pos hj, dif_pos hj]
      · have : w.heap.size = j := by simp at h2; omega
        rw [if_pos this, dif_neg hj, dif_neg hj]
  show ({ w.alloc (.cells cs T) with heap := _ } : World) = { w with heap := _ }
  rw [← e]
  rfl
theorem setCells_alloc : ∀ (vs : List Value) (w : World) (pre old post : List Value) (T : TypeId), old.length = vs.length → (w.alloc (.cells (pre ++ old ++ post).toArray T)).setCells w.heap.size pre.length vs = w.alloc (.cells (pre ++ vs ++ post).toArray T)
  | [], w, pre, old, post, T, h => by
    obtain rfl : old = [] := List.length_eq_zero_iff.1 h
    rfl
  | v :: vs, w, pre, o :: old, post, T, h => by
    rw [World.setCells, setCell_alloc]
    have e : ((pre ++ o :: old ++ post).toArray.setIfInBounds pre.length v) = ((pre ++ [v]) ++ old ++ post).toArray := by
      rw [List.setIfInBounds_toArray, List.append_assoc, List.set_append, if_neg (by omega), Nat.sub_self]
      simp
    rw [e]
    have := setCells_alloc vs w (pre ++ [v]) old post T (by simpa using h)
    rw [List.length_append] at this
    simpa using this
theorem W22_alloc (w : World) (cs : List Value) (hs : cs.length = 22) (s : Surf) (a : Option Addr) (n c : Nat) : W22 (w.alloc (.cells cs.toArray 92)) w.heap.size s a n c = w.alloc (.cells #[.int .i64 s.kind, .int .i64 s.curv, .int .i64 s.conic, .int .i64 s.curvX, .int .i64 s.conicX, .int .i64 s.a0, .int .i64 s.a1, .int .i64 s.a2, .int .i64 s.a3, .int .i64 s.p0, .int .i64 s.p1, .int .i64 s.order, .int .i64 s.thick, .string s.glass, .int .i64 s.semi, .int .i64 s.hole, .int .i64 s.dx, .int .i64 s.dy, .int .i64 s.ax, .int .i64 s.ay, .int .i64 s.az, .slice a n c] 92) := by
  have := setCells_alloc (cells22 s a n c) w [] cs [] 92 (by rw [hs]; rfl)
  simp only [List.nil_append, List.append_nil, List.length_nil] at this
  exact this

/-- a surface is stored into a variable just made -/
theorem wpL_store_new {ops : Array Oper} {rest : List Oper} {op : Oper} {ac : Act} {W : World} {Q : Exit → Act → World → Prop} (s : Surf) (a : Option Addr) (n c : Nat) (w : World) (hW : W = w.alloc (.cells #[.int .i64 0, .int .i64 0, .int .i64 0, .int .i64 0, .int .i64 0, .int .i64 0, .int .i64 0, .int .i64 0, .int .i64 0, .int .i64 0, .int .i64 0, .int .i64 0, .int .i64 0, .string emptyS, .int .i64 0, .int .i64 0, .int .i64 0, .int .i64 0, .int .i64 0, .int .i64 0, .int .i64 0, .slice none 0 0] 92)) (hgd : op.guard = none) (x y : Operand) (ho : op.op = .store 92 x y)
    (hx : ac.eval x = .pointer (some ⟨w.heap.size, 0, none⟩)) (hy : ac.eval y = .agg #[.int .i64 s.kind, .int .i64 s.curv, .int .i64 s.conic, .int .i64 s.curvX, .int .i64 s.conicX, .int .i64 s.a0, .int .i64 s.a1, .int .i64 s.a2, .int .i64 s.a3, .int .i64 s.p0, .int .i64 s.p1, .int .i64 s.order, .int .i64 s.thick, .string s.glass, .int .i64 s.semi, .int .i64 s.hole, .int .i64 s.dx, .int .i64 s.dy, .int .i64 s.ax, .int .i64 s.ay, .int .i64 s.az, .slice a n c]) (hk : wpList Tryz.prog ops Q rest (ac.put op.dst undef) (w.alloc (.cells #[.int .i64 s.kind, .int .i64 s.curv, .int .i64 s.conic, .int .i64 s.curvX, .int .i64 s.conicX, .int .i64 s.a0, .int .i64 s.a1, .int .i64 s.a2, .int .i64 s.a3, .int .i64 s.p0, .int .i64 s.p1, .int .i64 s.order, .int .i64 s.thick, .string s.glass, .int .i64 s.semi, .int .i64 s.hole, .int .i64 s.dx, .int .i64 s.dy, .int .i64 s.ax, .int .i64 s.ay, .int .i64 s.az, .slice a n c] 92))) : wpList Tryz.prog ops Q (op :: rest) ac W := by
  subst hW
  refine wpL_store_surf s a n c (heap_alloc_new w _) rfl hgd x y ho hx hy ?_
  rw [W22_alloc w [.int .i64 0, .int .i64 0, .int .i64 0, .int .i64 0, .int .i64 0, .int .i64 0, .int .i64 0, .int .i64 0, .int .i64 0, .int .i64 0, .int .i64 0, .int .i64 0, .int .i64 0, .string emptyS, .int .i64 0, .int .i64 0, .int .i64 0, .int .i64 0, .int .i64 0, .int .i64 0, .int .i64 0, .slice none 0 0] rfl]
  exact hk

/-- a surface is loaded out of a list -/
theorem wpL_load_at {ops : Array Oper} {rest : List Oper} {op : Oper} {ac : Act} {w : World} {Q : Exit → Act → World → Prop} {b o : Nat} {s : Surf} {a : Option Addr} {n c : Nat} (h : w.rangeAt b o (cells22 s a n c)) (hgd : op.guard = none) (x : Operand) (ho : op.op = .load 92 x)
    (hx : ac.eval x = .pointer (some ⟨b, o, none⟩)) (hk : wpList Tryz.prog ops Q rest (ac.put op.dst (.agg #[.int .i64 s.kind, .int .i64 s.curv, .int .i64 s.conic, .int .i64 s.curvX, .int .i64 s.conicX, .int .i64 s.a0, .int .i64 s.a1, .int .i64 s.a2, .int .i64 s.a3, .int .i64 s.p0, .int .i64 s.p1, .int .i64 s.order, .int .i64 s.thick, .string s.glass, .int .i64 s.semi, .int .i64 s.hole, .int .i64 s.dx, .int .i64 s.dy, .int .i64 s.ax, .int .i64 s.ay, .int .i64 s.az, .slice a n c])) w) : wpList Tryz.prog ops Q (op :: rest) ac w :=
  wpList_load_mid hgd 92 x ho b o hx (cells22 s a n c) _ h Tryz.underlying92 rfl Tryz.infoSurf hk

theorem wpList_taken {P : Program} {ops : Array Oper} {Q : Exit → Act → World → Prop} {a : Act} {w : World} {rest : List Oper} {o : Oper} (hw : Region.wanted o (yielded ops a.tmps) = true)
    (h : ∀ K : Act → World → Prop, (∀ a w, wpList P ops Q rest a w → K a w) → o.wp P a w K Q) : wpList P ops Q (o :: rest) a w :=
  wpList_step fun K hK => by rw [if_pos hw]; exact h K hK
/-- .. under a guard -/
theorem wpL_load_surfG {ops : Array Oper} {rest : List Oper} {op : Oper} {ac : Act} {w : World} {Q : Exit → Act → World → Prop} {g : Nat} {s : Surf} {a : Option Addr} {n c : Nat} (h : SurfB w g s a n c) (hgd : Region.wanted op (yielded ops ac.tmps) = true) (x : Operand) (ho : op.op = .load 92 x)
    (hx : ac.eval x = .pointer (some ⟨g, 0, none⟩)) (hk : wpList Tryz.prog ops Q rest (ac.put op.dst (.agg #[.int .i64 s.kind, .int .i64 s.curv, .int .i64 s.conic, .int .i64 s.curvX, .int .i64 s.conicX, .int .i64 s.a0, .int .i64 s.a1, .int .i64 s.a2, .int .i64 s.a3, .int .i64 s.p0, .int .i64 s.p1, .int .i64 s.order, .int .i64 s.thick, .string s.glass, .int .i64 s.semi, .int .i64 s.hole, .int .i64 s.dx, .int .i64 s.dy, .int .i64 s.ax, .int .i64 s.ay, .int .i64 s.az, .slice a n c])) w) : wpList Tryz.prog ops Q (op :: rest) ac w :=
  wpList_taken hgd fun _K hK => wp_load_mid 92 x ho g 0 hx [.int .i64 s.kind, .int .i64 s.curv, .int .i64 s.conic, .int .i64 s.curvX, .int .i64 s.conicX, .int .i64 s.a0, .int .i64 s.a1, .int .i64 s.a2, .int .i64 s.a3, .int .i64 s.p0, .int .i64 s.p1, .int .i64 s.order, .int .i64 s.thick, .string s.glass, .int .i64 s.semi, .int .i64 s.hole, .int .i64 s.dx, .int .i64 s.dy, .int .i64 s.ax, .int .i64 s.ay, .int .i64 s.az, .slice a n c] _ h.range Tryz.underlying92 rfl Tryz.infoSurf (hK _ _ hk)
theorem wpL_load_atG {ops : Array Oper} {rest : List Oper} {op : Oper} {ac : Act} {w : World} {Q : Exit → Act → World → Prop} {b o : Nat} {s : Surf} {a : Option Addr} {n c : Nat} (h : w.rangeAt b o (cells22 s a n c)) (hgd : Region.wanted op (yielded ops ac.tmps) = true) (x : Operand) (ho : op.op = .load 92 x)
    (hx : ac.eval x = .pointer (some ⟨b, o, none⟩)) (hk : wpList Tryz.prog ops Q rest (ac.put op.dst (.agg #[.int .i64 s.kind, .int .i64 s.curv, .int .i64 s.conic, .int .i64 s.curvX, .int .i64 s.conicX, .int .i64 s.a0, .int .i64 s.a1, .int .i64 s.a2, .int .i64 s.a3, .int .i64 s.p0, .int .i64 s.p1, .int .i64 s.order, .int .i64 s.thick, .string s.glass, .int .i64 s.semi, .int .i64 s.hole, .int .i64 s.dx, .int .i64 s.dy, .int .i64 s.ax, .int .i64 s.ay, .int .i64 s.az, .slice a n c])) w) : wpList Tryz.prog ops Q (op :: rest) ac w :=
  wpList_taken hgd fun _K hK => wp_load_mid 92 x ho b o hx (cells22 s a n c) _ h Tryz.underlying92 rfl Tryz.infoSurf (hK _ _ hk)

theorem SurfB.coat {w : World} {g : Nat} {s : Surf} {a : Option Addr} {n c : Nat} (h : SurfB w g s a n c) (a' : Option Addr) (n' c' : Nat) : SurfB (w.setCell ⟨g, 21, none⟩ (.slice a' n' c')) g s a' n' c' := by
  have := obj_setCell h 21 (.slice a' n' c')
  simp only [List.setIfInBounds_toArray, List.set_cons_zero, List.set_cons_succ] at this
  exact this

/-- a surface with a coating of its own -/
def RetBare (w : World) (s : Surf) (zs : List Int) (n : Nat) (e : Ending) (w' : World) : Prop :=
  ∃ a c, e = .returned (.agg #[.int .i64 s.kind, .int .i64 s.curv, .int .i64 s.conic, .int .i64 s.curvX, .int .i64 s.conicX, .int .i64 s.a0, .int .i64 s.a1, .int .i64 s.a2, .int .i64 s.a3, .int .i64 s.p0, .int .i64 s.p1, .int .i64 s.order, .int .i64 s.thick, .string s.glass, .int .i64 s.semi, .int .i64 s.hole, .int .i64 s.dx, .int .i64 s.dy, .int .i64 s.ax, .int .i64 s.ay, .int .i64 s.az, .slice a n c]) ∧ IRp (fun b => w.heap.size ≤ b ∧ b < w'.heap.size) w' 3 a n c zs ∧ (a = none → c = 0) ∧ Below w.heap.size w w'

set_option maxRecDepth 100000 in
set_option maxHeartbeats 1600000 in
theorem bare_any (s : Surf) (zs : List Int) (a : Option Addr) (n c : Nat) (w : World) (hz : IR w.heap.size w 3 a n c zs) (hn : n ≤ 1000000) (hc : a = none → c = 0) :
    Calls Tryz.prog 59 #[.agg #[.int .i64 s.kind, .int .i64 s.curv, .int .i64 s.conic, .int .i64 s.curvX, .int .i64 s.conicX, .int .i64 s.a0, .int .i64 s.a1, .int .i64 s.a2, .int .i64 s.a3, .int .i64 s.p0, .int .i64 s.p1, .int .i64 s.order, .int .i64 s.thick, .string s.glass, .int .i64 s.semi, .int .i64 s.hole, .int .i64 s.dx, .int .i64 s.dy, .int .i64 s.ax, .int .i64 s.ay, .int .i64 s.az, .slice a n c]] w (RetBare w s zs n) := by
  have h1 := SurfB.new w s a n c
  have h2 := heap_alloc_new (w.alloc (.cells #[.int .i64 s.kind, .int .i64 s.curv, .int .i64 s.conic, .int .i64 s.curvX, .int .i64 s.conicX, .int .i64 s.a0, .int .i64 s.a1, .int .i64 s.a2, .int .i64 s.a3, .int .i64 s.p0, .int .i64 s.p1, .int .i64 s.order, .int .i64 s.thick, .string s.glass, .int .i64 s.semi, .int .i64 s.hole, .int .i64 s.dx, .int .i64 s.dy, .int .i64 s.ax, .int .i64 s.ay, .int .i64 s.az, .slice a n c] 92)) (.cells #[.int .i64 0, .int .i64 0, .int .i64 0, .int .i64 0, .int .i64 0, .int .i64 0, .int .i64 0, .int .i64 0, .int .i64 0, .int .i64 0, .int .i64 0, .int .i64 0, .int .i64 0, .string emptyS, .int .i64 0, .int .i64 0, .int .i64 0, .int .i64 0, .int .i64 0, .int .i64 0, .int .i64 0, .slice none 0 0] 92)
  have hb := below_al (o := .cells #[.int .i64 0, .int .i64 0, .int .i64 0, .int .i64 0, .int .i64 0, .int .i64 0, .int .i64 0, .int .i64 0, .int .i64 0, .int .i64 0, .int .i64 0, .int .i64 0, .int .i64 0, .string emptyS, .int .i64 0, .int .i64 0, .int .i64 0, .int .i64 0, .int .i64 0, .int .i64 0, .int .i64 0, .slice none 0 0] 92) (below_al (o := .cells #[.int .i64 s.kind, .int .i64 s.curv, .int .i64 s.conic, .int .i64 s.curvX, .int .i64 s.conicX, .int .i64 s.a0, .int .i64 s.a1, .int .i64 s.a2, .int .i64 s.a3, .int .i64 s.p0, .int .i64 s.p1, .int .i64 s.order, .int .i64 s.thick, .string s.glass, .int .i64 s.semi, .int .i64 s.hole, .int .i64 s.dx, .int .i64 s.dy, .int .i64 s.ax, .int .i64 s.ay, .int .i64 s.az, .slice a n c] 92) (Below.refl w.heap.size w))
  rw [size_alloc] at h2
  have H1 := Lib.hid h1; have H2 := Lib.hid h2; have Hz := Lib.hid hz; have Hc := Lib.hid hc; have Hb := Lib.hid hb
  clear h1 h2 hz hc hb
  go_enter Tryz.func59, Tryz.ntmps59
  go_upto_region 1 with fail
  refine step_world (fun wx => SurfB wx w.heap.size s a n c ∧ wx.heap[w.heap.size + 1]? = some (.cells #[.int .i64 0, .int .i64 0, .int .i64 0, .int .i64 0, .int .i64 0, .int .i64 0, .int .i64 0, .int .i64 0, .int .i64 0, .int .i64 0, .int .i64 0, .int .i64 0, .int .i64 0, .string emptyS, .int .i64 0, .int .i64 0, .int .i64 0, .int .i64 0, .int .i64 0, .int .i64 0, .int .i64 0, .slice none 0 0] 92 (0, 0)) ∧ Below w.heap.size w wx) ⟨SurfB.go (B := w.heap.size + 1) H1.out ((Below.refl _ _).alloc (by simp) _) (by omega), H2.out, Hb.out⟩ ?_
  clear H1 H2 Hb
  rintro w1 ⟨h1, h2, hb⟩
  have hl1 := h1.lt; have hl2 := lt_of_block h2
  obtain ⟨k0, k1, k2, k3, k4, k5, k6, k7, k8, k9, k10, k11, k12, k13, k14, k15, k16, k17, k18, k19, k20, k21⟩ := h1.cells
  have H1 := Lib.hid h1; have H2 := Lib.hid h2; have Hb := Lib.hid hb
  clear h1 h2 hb k0 k1 k2 k3 k4 k5 k6 k7 k8 k9 k10 k11 k12 k13 k14 k15 k16 k17 k18 k19 k20
  go_wp2_with (first
    | ((with_reducible refine (clone_film zs a n c _ (Hz.out.go Hb.out) hn Hc.out).mono ?_); rintro e w2 ⟨a', c', rfl, hi, hc, hb2⟩; clear k21; have fz := SurfB.free (SurfB.go H1.out hb2 hl1) 21; have k21 := (SurfB.cells (SurfB.go H1.out hb2 hl1)).2.2.2.2.2.2.2.2.2.2.2.2.2.2.2.2.2.2.2.2.2; have Hi := Lib.hid hi; have Hc2 := Lib.hid hc; have Hb2 := Lib.hid hb2; clear hi hc hb2)
    | (refine wpL_load_surf (SurfB.coat (SurfB.go H1.out Hb2.out hl1) a' n c') rfl (.tmp 1) rfl rfl ?_)
    | (refine wpL_store_surf s a' n c' (obj_other ((Hb2.out.block _ hl2).trans H2.out) ⟨w.heap.size, 21, none⟩ (by simp) _) rfl rfl (.tmp 2) (.tmp 7) rfl rfl rfl ?_))
  refine bodyPost_ret (ret_surf (s := s) (a := a') (n := n) (c := c') rfl rfl (SurfB.stored (obj_other ((Hb2.out.block _ hl2).trans H2.out) ⟨w.heap.size, 21, none⟩ (by simp) _) rfl s a' n c')) rfl ?_
  refine ⟨a', c', rfl, Hi.out.kept ((keptOn_setCells w.heap.size [_] 21 w2).mono ?_ |>.trans ((keptOn_setCells (w.heap.size + 1) (cells22 s a' n c') 0 _).mono ?_)) ?_, Hc2.out, ?_⟩
  · intro b hb; have := hb.1; omega
  · intro b hb; have := hb.1; omega
  · intro b hb
    refine ⟨by have := hb.1; have := Hb.out.size; omega, ?_⟩
    have := size_setCells (w.heap.size + 1) (cells22 s a' n c') 0 (w2.setCell ⟨w.heap.size, 21, none⟩ (.slice a' n c'))
    show b < ((w2.setCell ⟨w.heap.size, 21, none⟩ (.slice a' n c')).setCells (w.heap.size + 1) 0 (cells22 s a' n c')).heap.size
    rw [this]
    simpa using hb.2
  · exact Below.put22 ((below_chain Hb.out Hb2.out).setCell (p := ⟨w.heap.size, 21, none⟩) (Nat.le_refl _) _) (by omega) _ _ _ _

/-- make of an empty row of records -/
theorem wpList_make_rec {ops : Array Oper} {rest : List Oper} {o : Oper} {a : Act} {Q : Exit → Act → World → Prop} {w : World} {α : Type} (R : Rep α) {k : Nat} {T ST : TypeId} {z : Value} {bytes : Nat} (hST : Tryz.prog.underlying ST = some (.slice T)) (hT : (Tryz.prog.info? T).map (fun i => (i.zero, i.size, i.bytes)) = some (some z, k, bytes)) (hby : bytes ≤ 10000)
    (hgd : o.guard = none) (x y : Operand) (ho : o.op = Op.makeSlice ST x y) (n : Nat) (hx : a.eval x = .int .i64 0) (hy : a.eval y = .int .i64 (n : Int)) (hn : n ≤ 1000000)
    (h : ∀ w', OwnR R k T w.heap.size w' (.slice (some ⟨w.heap.size, 0, none⟩) 0 n) [] → Below w.heap.size w w' → wpList Tryz.prog ops Q rest (a.put o.dst (.slice (some ⟨w.heap.size, 0, none⟩) 0 n)) w') : wpList Tryz.prog ops Q (o :: rest) a w := by
  obtain ⟨i, hi1, hi2, hi3, hi4⟩ := info_of hT
  refine wpList_make_own w hgd x y ST ho w.heap.size T i z k hST hi1 hi2 hi3 .i64 .i64 (n : Int) n hx hy rfl ?_ (by unfold maxLen; omega) (Nat.le_refl _) ?_
  · rw [hi4]; exact Nat.le_trans (Nat.mul_le_mul hby hn) (by omega)
  · intro w' h1 h2
    exact h w' ⟨[], rfl, by simp, h1, fun i x cs h => by simp at h⟩ ((Below.refl _ _).grown h2 (Nat.le_refl _) (fun k hk => by cases hk))

/-- a list of records in memory of its own -/
def RetOwnR {α : Type} (R : Rep α) (k : Nat) (T : TypeId) (w : World) (l : List α) (e : Ending) (w' : World) : Prop :=
  ∃ g c, e = .returned (.slice (some ⟨g, 0, none⟩) l.length c) ∧ OwnR R k T w.heap.size w' (.slice (some ⟨g, 0, none⟩) l.length c) l ∧ Below w.heap.size w w'

theorem take_next {α : Type} {l : List α} {k : Nat} {x : α} (h : l[k]? = some x) : l.take (k + 1) = l.take k ++ [x] := by
  rw [List.take_add_one, h]; rfl

set_option maxRecDepth 100000 in
set_option maxHeartbeats 1600000 in
theorem own_surf (l : List SurfC) (a : Option Addr) (n c : Nat) (w : World) (h : RR SurfR 22 (fun b => b < w.heap.size) w a n c l) (hn : n ≤ 1000000) :
    Calls Tryz.prog 58 #[.slice a n c, .func (.func 59) #[] #[]] w (RetOwnR SurfR 22 92 w l) := by
  have H := Lib.hid h; clear h
  have hlen := H.out.1
  go_enter Tryz.func58, Tryz.ntmps58
  go_wp2_with (at_make; refine wpList_make_rec SurfR Tryz.underlying45 Tryz.infoSurf3 (by omega) rfl _ _ rfl n rfl rfl hn ?_; intro w1 ho hb; have Ho := Lib.hid ho; have Hb := Lib.hid hb; clear ho hb)
  go_loopw [5, 13] (fun v iv wr => ∃ k : Nat, k ≤ n ∧ iv = .int .i64 (k : Int) ∧ OwnR SurfR 22 92 w.heap.size wr v (l.take k) ∧ (∃ g c, v = .slice (some ⟨g, 0, none⟩) k c) ∧ Below w.heap.size w wr) (fun _ iv _ => n - (intOf iv).toNat)
  case atStart => exact ⟨0, by omega, rfl, Ho.out, ⟨_, _, rfl⟩, Hb.out⟩
  case round =>
    obtain ⟨k, hk, rfl, ho, ⟨g1, c1, rfl⟩, hb⟩ := hrel
    have Ho2 := Lib.hid ho; have Hb2 := Lib.hid hb
    clear ho hb
    by_cases hkn : k < n
    · obtain ⟨b, off, x, cs, rfl, hlt, hx, ⟨a2, n2, c2, rfl, hz, hn2, hc2, hg2⟩, hr⟩ := (H.out.go surfOk Hb2.out).at hkn
      have Hx := Lib.hid hx; have Hz := Lib.hid (hz.ir (fun _ h => h)); have Hc2 := Lib.hid hc2; have Hr := Lib.hid hr; have Hg2 := Lib.hid hg2
      clear hx hz hc2 hr hg2
      have Hl : (l.take k).length = k := by rw [List.length_take, hlen]; omega
      go_wp2_with (first
        | (refine wpL_load_at Hr.out rfl (.tmp 15) rfl rfl ?_)
        | (refine wpL_store_new x.s a2 n2 c2 _ rfl rfl (.tmp 7) (.tmp 16) rfl rfl rfl ?_)
        | (refine wpL_load_surf (SurfB.new _ x.s a2 n2 c2) rfl (.tmp 7) rfl rfl ?_)
        | ((with_reducible refine (bare_any x.s x.zs _ n2 c2 _ (Hz.out.go ((Below.refl _ _).alloc (Nat.le_refl _) _)) hn2 Hc2.out).mono ?_); rintro e w2 ⟨a', c', rfl, hi, hc, hb3⟩; have Hi := Lib.hid hi; have Hc3 := Lib.hid hc; have Hb3 := Lib.hid (below_chain (below_al (Below.refl _ _)) hb3); have hy : SurfR (fun b => w.heap.size ≤ b ∧ b < w2.heap.size ∧ (Value.slice (some ⟨g1, 0, none⟩) k c1).ownBlock ≠ some b) w2 x (cells22 x.s a' n2 c') := ⟨a', n2, c', rfl, hi.kept (KeptOn.refl _ _) (fun b hb => ⟨by have := hb.1; have := Hb2.out.size; simp at *; omega, hb.2, Ho2.out.fresh (by have := hb.1; simp at this; omega)⟩), hn2, hc, Hg2.out⟩; have Hy := Lib.hid hy; clear hi hc hb3 hy)
        | (refine wpList_append_rec surfOk Tryz.underlying45 Tryz.infoSurf3 rfl (by omega) (by omega) rfl (.tmp 17) (.tmp 21) rfl w.heap.size w2 (.slice (some ⟨g1, 0, none⟩) k c1) (l.take k) x (cells22 x.s a' n2 c') rfl (Ho2.out.go surfOk Hb3.out) rfl rfl Hy.out (by omega) (Nat.le_trans Hb2.out.size Hb3.out.size) ?_; intro g3 cap3 w3 ho3 hb4; have Ho3 := Lib.hid ho3; have Hb4 := Lib.hid hb4; clear ho3 hb4))
      go_roundw
      case rel => exact ⟨k + 1, by omega, by go_num, by rw [take_next Hx.out]; have := Ho3.out; rwa [Hl] at this, ⟨_, _, rfl⟩, Hb4.out _ _ (Nat.le_refl _) (below_chain Hb2.out Hb3.out)⟩
      case measure => simp [intOf]; omega
    · obtain rfl : k = n := by omega
      go_wp2
      go_ret
      have := Ho2.out
      rw [← hlen, List.take_length] at this
      exact ⟨g1, c1, by rw [hlen]; rfl, by rw [hlen]; rw [hlen] at this; exact this, Hb2.out⟩

end Go.Proofs.YthommhfppeonpaaGreatDoor

namespace Go.Proofs.YthommhfppeonpaaGreatDoor
open Go.RowKit

/-- a slice of bytes -/
def BR (S : Nat → Prop) (w : World) (a : Option Addr) (n c : Nat) (zs : List Int) : Prop :=
  zs.length = n ∧ n ≤ c ∧ (∀ j, j < n → ∃ b off, a = some ⟨b, off, none⟩ ∧ S b ∧ w.cell? ⟨b, off + j, none⟩ = some (.int .u8 (zs.getD j 0)) ∧ 0 ≤ zs.getD j 0 ∧ zs.getD j 0 ≤ 255)
theorem BR.kept {S T : Nat → Prop} {w w' : World} {a : Option Addr} {n c : Nat} {zs : List Int} (h : BR S w a n c zs) (hk : KeptOn S w w') (hs : ∀ b, S b → T b) : BR T w' a n c zs :=
  ⟨h.1, h.2.1, fun j hj => let ⟨b, off, e, hb, hc, hr⟩ := h.2.2 j hj; ⟨b, off, e, hs b hb, (hk.cell (p := ⟨b, off + j, none⟩) hb).trans hc, hr⟩⟩
theorem BR.go {w w' : World} {a : Option Addr} {n c : Nat} {zs : List Int} (h : BR (fun b => b < w.heap.size) w a n c zs) (hb : Below w.heap.size w w') : BR (fun b => b < w'.heap.size) w' a n c zs :=
  h.kept (keptOn_below hb) (fun _b h => Nat.lt_of_lt_of_le h hb.size)

/-- a draft of a surface, its films apart -/
structure DrS where
  kind : Int
  c0 : Int
  c1 : Int
  k0 : Int
  k1 : Int
  h0 : Int
  h1 : Int
  h2 : Int
  h3 : Int
  p0 : Int
  p1 : Int
  order : Int
  thick : Int
  glass : Int
  semi : Int
  hole : Int
  b0 : Int
  b1 : Int
  b2 : Int
  b3 : Int
  b4 : Int
  films : List Int

def i8In (z : Int) : Prop := -128 ≤ z ∧ z ≤ 127
def i16In (z : Int) : Prop := -32768 ≤ z ∧ z ≤ 32767
def u8In (z : Int) : Prop := 0 ≤ z ∧ z ≤ 255
def u16In (z : Int) : Prop := 0 ≤ z ∧ z ≤ 65535

structure DrS.In (x : DrS) : Prop where
  kind : u8In x.kind
  c0 : i16In x.c0
  c1 : i16In x.c1
  k0 : i16In x.k0
  k1 : i16In x.k1
  h0 : i8In x.h0
  h1 : i8In x.h1
  h2 : i8In x.h2
  h3 : i8In x.h3
  p0 : i8In x.p0
  p1 : i8In x.p1
  order : i8In x.order
  thick : i16In x.thick
  glass : u8In x.glass
  semi : u8In x.semi
  hole : u8In x.hole
  b0 : i8In x.b0
  b1 : i8In x.b1
  b2 : i8In x.b2
  b3 : i8In x.b3
  b4 : i8In x.b4

def cellsDS (x : DrS) (a : Option Addr) (n c : Nat) : List Value := [.int .u8 x.kind, .int .i16 x.c0, .int .i16 x.c1, .int .i16 x.k0, .int .i16 x.k1, .int .i8 x.h0, .int .i8 x.h1, .int .i8 x.h2, .int .i8 x.h3, .int .i8 x.p0, .int .i8 x.p1, .int .i8 x.order, .int .i16 x.thick, .int .u8 x.glass, .int .u8 x.semi, .int .u8 x.hole, .int .i8 x.b0, .int .i8 x.b1, .int .i8 x.b2, .int .i8 x.b3, .int .i8 x.b4, .slice a n c]
abbrev drsV (x : DrS) (a : Option Addr) (n c : Nat) : Value := .agg #[.int .u8 x.kind, .int .i16 x.c0, .int .i16 x.c1, .int .i16 x.k0, .int .i16 x.k1, .int .i8 x.h0, .int .i8 x.h1, .int .i8 x.h2, .int .i8 x.h3, .int .i8 x.p0, .int .i8 x.p1, .int .i8 x.order, .int .i16 x.thick, .int .u8 x.glass, .int .u8 x.semi, .int .u8 x.hole, .int .i8 x.b0, .int .i8 x.b1, .int .i8 x.b2, .int .i8 x.b3, .int .i8 x.b4, .slice a n c]

def DrSR : Rep DrS := fun S w x cs => ∃ a n c, cs = cellsDS x a n c ∧ BR S w a n c x.films ∧ x.In
theorem drsOk : RepOk 22 DrSR where
  len := by rintro S w x cs ⟨a, n, c, rfl, _⟩; rfl
  kept := by rintro S T w w' x cs ⟨a, n, c, e, h, r⟩ hk hs; exact ⟨a, n, c, e, h.kept hk hs, r⟩
  one := by rintro S w x cs ⟨a, n, c, rfl, _⟩ v hv; unfold cellsDS at hv; simp only [List.mem_cons, List.not_mem_nil, or_false] at hv; rcases hv with rfl | rfl | rfl | rfl | rfl | rfl | rfl | rfl | rfl | rfl | rfl | rfl | rfl | rfl | rfl | rfl | rfl | rfl | rfl | rfl | rfl | rfl <;> rfl

/-- block g holds a draft of a surface -/
def DrSB (w : World) (g : Nat) (x : DrS) (a : Option Addr) (n c : Nat) : Prop := w.heap[g]? = some (.cells (cellsDS x a n c).toArray 126 (0, 0))
theorem DrSB.go {w w' : World} {g : Nat} {x : DrS} {a : Option Addr} {n c : Nat} (h : DrSB w g x a n c) (hb : Below w.heap.size w w') : DrSB w' g x a n c := (hb.block g (lt_of_block h)).trans h

theorem irp_new {w : World} {T : TypeId} {cs : Array Value} {ys : List Int} {k b : Nat} (hb : b = w.heap.size) (hk : ys.length = 1 * k) (h : cs = (ys.map (Value.int .i64)).toArray) : IRp (fun _ => True) (w.alloc (.cells cs T)) k (some ⟨b, 0, none⟩) 1 1 ys := by
  subst h hb
  refine ⟨hk, Nat.le_refl _, fun _ => ⟨_, 0, rfl, trivial, fun j hj => ?_⟩⟩
  have hj2 : j < ys.length := by omega
  have := obj_cell (heap_alloc_new w (.cells (ys.map (Value.int .i64)).toArray T)) j
  rw [Nat.zero_add, this]
  simp [List.getD_eq_getElem?_getD, hj2]

theorem getD_snoc {zs ys : List Int} {j : Nat} (h : j < zs.length) : (zs ++ ys).getD j 0 = zs.getD j 0 := by
  rw [List.getD_eq_getElem?_getD, List.getElem?_append_left h, List.getD_eq_getElem?_getD]
theorem getD_snocR {zs ys : List Int} {m j : Nat} (h : zs.length = m) : (zs ++ ys).getD (m + j) 0 = ys.getD j 0 := by
  rw [List.getD_eq_getElem?_getD, List.getElem?_append_right (by omega), List.getD_eq_getElem?_getD, show m + j - zs.length = j by omega]

theorem films_snoc {zs : List Int} {i : Nat} {a p q : Int} (hl : zs.length = i * 3) (h : (List.range i).all (filmB zs) = true) (hf : okFilm a p q = true) : (List.range (i + 1)).all (filmB (zs ++ [a, p, q])) = true := by
  rw [List.all_eq_true]
  intro j hj
  have hj := List.mem_range.1 hj
  by_cases e : j < i
  · have := List.all_eq_true.1 h j (List.mem_range.2 e)
    unfold filmB at *
    rw [getD_snoc (by omega), getD_snoc (by omega), getD_snoc (by omega)]
    exact this
  · obtain rfl : j = i := by omega
    unfold filmB
    have e0 := getD_snocR (ys := [a, p, q]) (j := 0) hl
    rw [getD_snocR hl, getD_snocR hl, show (zs ++ [a, p, q]).getD (j * 3) 0 = [a, p, q].getD 0 0 from e0]
    exact hf

def filmOf (n : Int) : List Int := [13000000 + 50000 * n, n.tmod 7, 1 + n.tmod 5]
def filmsOf (fs : List Int) (i : Nat) : List Int := ((List.range i).map fun j => filmOf (fs.getD j 0)).flatten
theorem filmsOf_next (fs : List Int) (i : Nat) : filmsOf fs (i + 1) = filmsOf fs i ++ filmOf (fs.getD i 0) := by
  unfold filmsOf; rw [List.range_succ, List.map_append, List.flatten_append]; simp

/-- films: at most three, each valid -/
def RetFilms (fs : List Int) (w : World) (e : Ending) (w' : World) : Prop :=
  ∃ a n c zs, zs = filmsOf fs (min 3 fs.length) ∧ e = .returned (.slice a n c) ∧ IRp (fun b => w.heap.size ≤ b ∧ b < w'.heap.size) w' 3 a n c zs ∧ (a = none → c = 0) ∧ n ≤ 3 ∧ (List.range n).all (filmB zs) = true ∧ Below w.heap.size w w'

theorem tmod_u8 {z : Int} (h : 0 ≤ z) (k : Int) (hk : 0 < k) : ∃ m, z.tmod k = m ∧ 0 ≤ m ∧ m < k := ⟨_, rfl, by rw [Int.tmod_eq_emod_of_nonneg h]; exact Int.emod_nonneg _ (by omega), by rw [Int.tmod_eq_emod_of_nonneg h]; exact Int.emod_lt_of_pos _ hk⟩

set_option maxRecDepth 100000 in
set_option maxHeartbeats 3200000 in
theorem films_any (x : DrS) (a : Option Addr) (n c : Nat) (w : World) (hf : BR (fun b => b < w.heap.size) w a n c x.films) :
    Calls Tryz.prog 82 #[drsV x a n c] w (RetFilms x.films w) := by
  have hfl := hf.1
  have Hf := Lib.hid hf; have Hfl := Lib.hid hfl; clear hf hfl
  have hg0 : DrSB (w.alloc (.cells (cellsDS x a n c).toArray 126)) w.heap.size x a n c := heap_alloc_new w _
  have hb0 := (Below.refl w.heap.size w).alloc (Nat.le_refl _) (.cells (cellsDS x a n c).toArray 126)
  have Hg0 := Lib.hid hg0; have Hb0 := Lib.hid hb0; clear hg0 hb0
  go_enter Tryz.func82, Tryz.ntmps82
  go_upto_region 1 with fail
  refine step_world (fun wx => DrSB wx w.heap.size x a n c ∧ Below w.heap.size w wx) ⟨Hg0.out, Hb0.out⟩ ?_
  clear Hg0 Hb0
  rintro w1 ⟨hg, hb⟩
  have hl := lt_of_block hg
  have Hg := Lib.hid hg; have Hb1 := Lib.hid hb; clear hg hb
  go_wp2_with fail
  go_loopw [3, 4] (fun v iv wr => ∃ (i : Nat) (zs : List Int), i ≤ 3 ∧ i ≤ n ∧ zs = filmsOf x.films i ∧ iv = .int .i64 (i : Int) ∧ wr.ownsRow (w.heap.size + 1) 138 3 v i (zs.map (Value.int .i64)) ∧ (List.range i).all (filmB zs) = true ∧ DrSB wr w.heap.size x a n c ∧ Below w.heap.size w wr) (fun _ iv _ => 3 - (intOf iv).toNat)
  case atStart => exact ⟨0, [], by omega, by omega, rfl, rfl, ⟨rfl, Or.inl ⟨rfl, rfl⟩⟩, rfl, Hg.out, Hb1.out⟩
  case round =>
    clear Hg Hb1 hl
    obtain ⟨i, zs, hi, hin', hzf, rfl, ho, hz, hg, hb⟩ := hrel
    have Hzf := Lib.hid hzf; clear hzf
    have c21 : wr.cell? ⟨w.heap.size, 21, none⟩ = some (.slice a n c) := (obj_cell hg 21).trans rfl
    have hl := lt_of_block hg
    have hlen := ho.1
    rw [List.length_map] at hlen
    have Ho := Lib.hid ho; have Hz := Lib.hid hz; have Hg := Lib.hid hg; have Hb := Lib.hid hb; have Hlen := Lib.hid hlen
    clear ho hz hg hb hlen
    by_cases hin : i < n
    · by_cases hi3 : i < 3
      · obtain ⟨b1, off, rfl, hlt, x0, hz0, hz1⟩ := (Hf.out.kept (keptOn_below Hb.out) (fun b h => h)).2.2 i hin
        have hnx := filmsOf_next x.films i
        generalize x.films.getD i 0 = z at *
        have Hnx := Lib.hid hnx; clear hnx
        obtain ⟨m7, e7, h70, h71⟩ := tmod_u8 hz0 7 (by omega)
        obtain ⟨m5, e5, h50, h51⟩ := tmod_u8 hz0 5 (by omega)
        have hltr : b1 < wr.heap.size := Nat.lt_of_lt_of_le hlt Hb.out.size
        have hbs : w.heap.size + 1 ≤ wr.heap.size := by omega
        go_wp2_with (refine wpList_append_irs Tryz.underlying90 Tryz.infoFilm3 rfl (by omega) (by omega) rfl (.tmp 23) (.tmp 33) rfl (w.heap.size + 1) _ i zs rfl (Ho.out.alloc _) (fun _ => True) _ 1 1 [13000000 + 50000 * z, m7, 1 + m5] rfl (irp_new rfl rfl rfl) (fun e => by cases e) (by omega) (by simp; omega) ?_; intro v' w4 hown4 hgrow; have Hown4 := Lib.hid hown4; have Hgrow := Lib.hid hgrow; clear hown4 hgrow)
        have hgrow := Hgrow.out
        have e1 := (grown_old (base := w.heap.size + 1) Ho.out hgrow (b := w.heap.size) (by omega) hbs).trans Hg.out
        have e3 := grown_below Hb.out Ho.out hgrow (by omega) hbs
        have hzn : zs ++ [13000000 + 50000 * z, m7, 1 + m5] = filmsOf x.films (i + 1) := by rw [Hnx.out, Hzf.out]; unfold filmOf; rw [e7, e5]
        have Hzn := Lib.hid hzn; clear hzn
        have hok : okFilm (13000000 + 50000 * z) m7 (1 + m5) = true := by simp [okFilm, outB]; omega
        have E1 := Lib.hid e1; have E3 := Lib.hid e3; have Hok := Lib.hid hok
        clear e1 e3 hok hgrow Hgrow
        go_roundw
        case rel => exact ⟨i + 1, _, by omega, by omega, Hzn.out, by go_num, Hown4.out, films_snoc Hlen.out Hz.out Hok.out, E1.out, E3.out⟩
        case measure => simp [intOf]; omega
      · go_wp2
        go_ret
        obtain ⟨a', c', rfl, h1, h2⟩ := own_irp Ho.out
        exact ⟨a', i, c', zs, by rw [Hzf.out, Hfl.out]; congr 1; omega, rfl, h2.kept (KeptOn.refl _ _) (fun b h => ⟨by omega, h.2⟩), h1, by omega, Hz.out, Hb.out⟩
    · go_wp2
      go_ret
      obtain ⟨a', c', rfl, h1, h2⟩ := own_irp Ho.out
      exact ⟨a', i, c', zs, by rw [Hzf.out, Hfl.out]; congr 1; omega, rfl, h2.kept (KeptOn.refl _ _) (fun b h => ⟨by omega, h.2⟩), h1, by omega, Hz.out, Hb.out⟩

end Go.Proofs.YthommhfppeonpaaGreatDoor

namespace Go.Proofs.YthommhfppeonpaaGreatDoor
open Go.RowKit

/-- a configuration, with its changes -/
structure ConfC where
  nm : ByteArray
  zs : List Int

def ConfR : Rep ConfC := fun S w x cs => ∃ a n c, cs = [.string x.nm, .slice a n c] ∧ IRp S w 3 a n c x.zs ∧ n ≤ 1000000 ∧ (a = none → c = 0) ∧ x.nm.size ≤ 9223372036854775807

theorem confOk : RepOk 2 ConfR where
  len := by rintro S w x cs ⟨a, n, c, rfl, _⟩; rfl
  kept := by rintro S T w w' x cs ⟨a, n, c, e, h, r⟩ hk hs; exact ⟨a, n, c, e, h.kept hk hs, r⟩
  one := by rintro S w x cs ⟨a, n, c, rfl, _⟩ v hv; simp only [List.mem_cons, List.not_mem_nil, or_false] at hv; rcases hv with rfl | rfl <;> rfl

def RetConf (w : World) (nm : ByteArray) (zs : List Int) (n : Nat) (e : Ending) (w' : World) : Prop :=
  ∃ a c, e = .returned (.agg #[.string nm, .slice a n c]) ∧ IRp (fun b => w.heap.size ≤ b ∧ b < w'.heap.size) w' 3 a n c zs ∧ (a = none → c = 0) ∧ Below w.heap.size w w'

theorem Tryz.infoConf : (Tryz.prog.info? 136).map (·.size) = some 2 := by kernel_rfl

set_option maxRecDepth 100000 in
set_option maxHeartbeats 1600000 in
theorem config_any (nm : ByteArray) (zs : List Int) (a : Option Addr) (n c : Nat) (w : World) (hz : IR w.heap.size w 3 a n c zs) (hn : n ≤ 1000000) (hc : a = none → c = 0) :
    Calls Tryz.prog 61 #[.agg #[.string nm, .slice a n c]] w (RetConf w nm zs n) := by
  have Hz := Lib.hid hz; have Hc := Lib.hid hc
  clear hz hc
  go_enter Tryz.func61, Tryz.ntmps61
  obtain ⟨e1, e2⟩ := heap_two w (.cells #[.string nm, .slice a n c] 136) (.cells #[.string emptyS, .slice none 0 0] 136)
  have hb0 := below_two (w := w) (.cells #[.string nm, .slice a n c] 136) (.cells #[.string emptyS, .slice none 0 0] 136)
  have E1 := Lib.hid e1; have E2 := Lib.hid e2; have Hb := Lib.hid hb0
  clear e1 e2 hb0
  go_upto_region 1 with fail
  refine step_world (fun wx => wx.heap[w.heap.size]? = some (.cells #[.string nm, .slice a n c] 136 (0, 0)) ∧ wx.heap[w.heap.size + 1]? = some (.cells #[.string emptyS, .slice none 0 0] 136 (0, 0)) ∧ Below w.heap.size w wx) ⟨E1.out, E2.out, Hb.out⟩ ?_
  clear E1 E2 Hb
  rintro w1 ⟨h1, h2, hb⟩
  have hl1 := lt_of_block h1; have hl2 := lt_of_block h2
  have k1 : w1.cell? ⟨w.heap.size, 1, none⟩ = some (.slice a n c) := by simp [World.cell?, h1]
  have H1 := Lib.hid h1; have H2 := Lib.hid h2; have Hb := Lib.hid hb
  clear h1 h2 hb
  go_wp2_with ((with_reducible refine (clone_change zs a n c _ (Hz.out.go Hb.out) hn Hc.out).mono ?_); rintro e w2 ⟨a', c', rfl, hi, hc, hb2⟩; clear k1; have g1 := (hb2.block _ hl1).trans H1.out; have g2 := (hb2.block _ hl2).trans H2.out
               have f1 : w2.frozen? ⟨w.heap.size, 1, none⟩ = false := by (simp [World.frozen?, g1])
               have f2 : w2.frozen? ⟨w.heap.size + 1, 0, none⟩ = false := by (simp [World.frozen?, g2])
               have f3 : w2.frozen? ⟨w.heap.size + 1, 1, none⟩ = false := by (simp [World.frozen?, g2])
               have c0 : w2.cell? ⟨w.heap.size, 0, none⟩ = some (.string nm) := by (simp [World.cell?, g1])
               have c1 : w2.cell? ⟨w.heap.size, 1, none⟩ = some (.slice a n c) := by (simp [World.cell?, g1])
               have d0 : w2.cell? ⟨w.heap.size + 1, 0, none⟩ = some (.string emptyS) := by (simp [World.cell?, g2])
               have d1 : w2.cell? ⟨w.heap.size + 1, 1, none⟩ = some (.slice none 0 0) := by (simp [World.cell?, g2])
               have Hi := Lib.hid hi; have Hc2 := Lib.hid hc; have Hb2 := Lib.hid hb2; clear hi hc hb2 g1 g2)
  have h3 := obj_setCell (obj_setCell (obj_other ((Hb2.out.block _ hl2).trans H2.out) ⟨w.heap.size, 1, none⟩ (by simp) (.slice a' n c')) 0 (.string nm)) 1 (.slice a' n c')
  refine bodyPost_ret (results_cell_row rfl _ _ (w.heap.size + 1) 136 #[.string nm, .slice a' n c'] (0, 0) _ rfl h3 Tryz.underlying136 rfl Tryz.infoConf) rfl ?_
  refine ⟨a', c', rfl, Hi.out.kept ((keptOn_setCells w.heap.size [_] 1 w2).mono ?_ |>.trans ((keptOn_setCells (w.heap.size + 1) [.string nm, .slice a' n c'] 0 _).mono ?_)) ?_, Hc2.out, ?_⟩
  · intro b hb; have := hb.1; omega
  · intro b hb; have := hb.1; omega
  · intro b hb
    refine ⟨by have := hb.1; have := Hb.out.size; omega, ?_⟩
    have := size_setCells (w.heap.size + 1) [.string nm, .slice a' n c'] 0 (w2.setCell ⟨w.heap.size, 1, none⟩ (.slice a' n c'))
    show b < ((w2.setCell ⟨w.heap.size, 1, none⟩ (.slice a' n c')).setCells (w.heap.size + 1) 0 [.string nm, .slice a' n c']).heap.size
    rw [this]
    simpa using hb.2
  · exact (((below_chain Hb.out Hb2.out).setCell (p := ⟨w.heap.size, 1, none⟩) (Nat.le_refl _) _).setCell (p := ⟨w.heap.size + 1, 0, none⟩) (Nat.le_succ _) _).setCell (p := ⟨w.heap.size + 1, 1, none⟩) (Nat.le_succ _) _

set_option maxRecDepth 100000 in
set_option maxHeartbeats 1600000 in
theorem own_conf (l : List ConfC) (a : Option Addr) (n c : Nat) (w : World) (h : RR ConfR 2 (fun b => b < w.heap.size) w a n c l) (hn : n ≤ 1000000) :
    Calls Tryz.prog 60 #[.slice a n c, .func (.func 61) #[] #[]] w (RetOwnR ConfR 2 136 w l) := by
  have H := Lib.hid h; clear h
  have hlen := H.out.1
  go_enter Tryz.func60, Tryz.ntmps60
  go_wp2_with (at_make; refine wpList_make_rec ConfR Tryz.underlying46 Tryz.infoConfig3 (by omega) rfl _ _ rfl n rfl rfl hn ?_; intro w1 ho hb; have Ho := Lib.hid ho; have Hb := Lib.hid hb; clear ho hb)
  go_loopw [5, 13] (fun v iv wr => ∃ k : Nat, k ≤ n ∧ iv = .int .i64 (k : Int) ∧ OwnR ConfR 2 136 w.heap.size wr v (l.take k) ∧ (∃ g c, v = .slice (some ⟨g, 0, none⟩) k c) ∧ Below w.heap.size w wr) (fun _ iv _ => n - (intOf iv).toNat)
  case atStart => exact ⟨0, by omega, rfl, Ho.out, ⟨_, _, rfl⟩, Hb.out⟩
  case round =>
    obtain ⟨k, hk, rfl, ho, ⟨g1, c1, rfl⟩, hb⟩ := hrel
    have Ho2 := Lib.hid ho; have Hb2 := Lib.hid hb
    clear ho hb
    by_cases hkn : k < n
    · obtain ⟨b, off, x, cs, rfl, hlt, hx, ⟨a2, n2, c2, rfl, hz, hn2, hc2, hg2⟩, hr⟩ := (H.out.go confOk Hb2.out).at hkn
      have r0 := hr 0 _ rfl
      have r1 := hr 1 _ rfl
      rw [Nat.add_zero] at r0
      have Hx := Lib.hid hx; have Hz := Lib.hid (hz.ir (fun _ h => h)); have Hc2 := Lib.hid hc2; have Hg2 := Lib.hid hg2
      clear hx hz hc2 hr hg2
      have Hl : (l.take k).length = k := by rw [List.length_take, hlen]; omega
      go_wp2_with (first
        | ((with_reducible refine (config_any x.nm x.zs _ n2 c2 _ (Hz.out.go ((Below.refl _ _).alloc (Nat.le_refl _) _)) hn2 Hc2.out).mono ?_); rintro e w2 ⟨a', c', rfl, hi, hc, hb3⟩; have Hi := Lib.hid hi; have Hc3 := Lib.hid hc; have Hb3 := Lib.hid (below_chain (below_al (Below.refl _ _)) hb3); have hy : ConfR (fun b => w.heap.size ≤ b ∧ b < w2.heap.size ∧ (Value.slice (some ⟨g1, 0, none⟩) k c1).ownBlock ≠ some b) w2 x [.string x.nm, .slice a' n2 c'] := ⟨a', n2, c', rfl, hi.kept (KeptOn.refl _ _) (fun b hb => ⟨by have := hb.1; have := Hb2.out.size; simp at *; omega, hb.2, Ho2.out.fresh (by have := hb.1; simp at this; omega)⟩), hn2, hc, Hg2.out⟩; have Hy := Lib.hid hy; clear hi hc hb3 hy)
        | (refine wpList_append_rec confOk Tryz.underlying46 Tryz.infoConfig3 rfl (by omega) (by omega) rfl (.tmp 17) (.tmp 21) rfl w.heap.size w2 (.slice (some ⟨g1, 0, none⟩) k c1) (l.take k) x [.string x.nm, .slice a' n2 c'] rfl (Ho2.out.go confOk Hb3.out) rfl rfl Hy.out (by omega) (Nat.le_trans Hb2.out.size Hb3.out.size) ?_; intro g3 cap3 w3 ho3 hb4; have Ho3 := Lib.hid ho3; have Hb4 := Lib.hid hb4; clear ho3 hb4))
      · go_roundw
        case rel => exact ⟨k + 1, by omega, by go_num, by rw [take_next Hx.out]; have := Ho3.out; rwa [Hl] at this, ⟨_, _, rfl⟩, Hb4.out _ _ (Nat.le_refl _) (below_chain Hb2.out Hb3.out)⟩
        case measure => simp [intOf]; omega
    · obtain rfl : k = n := by omega
      go_wp2
      go_ret
      have := Ho2.out
      rw [← hlen, List.take_length] at this
      exact ⟨g1, c1, by rw [hlen]; rfl, by rw [hlen]; rw [hlen] at this; exact this, Hb2.out⟩

end Go.Proofs.YthommhfppeonpaaGreatDoor

namespace Go.Proofs.YthommhfppeonpaaGreatDoor
open Go.RowKit

/-- a row of records of the call's own, or nil -/
def RetRow {α : Type} (R : Rep α) (k : Nat) (T : TypeId) (w : World) (l : List α) (e : Ending) (w' : World) : Prop :=
  ∃ v, e = .returned v ∧ OwnR R k T w.heap.size w' v l ∧ Below w.heap.size w w'

set_option maxRecDepth 100000 in
set_option maxHeartbeats 1600000 in
theorem rcopy_any (l : List SurfC) (a : Option Addr) (n c : Nat) (w : World) (h : RR SurfR 22 (fun b => b < w.heap.size) w a n c l) (hn : n ≤ 1000000) :
    Calls Tryz.prog 111 #[.slice a n c] w (RetRow SurfR 22 92 w l) := by
  have H := Lib.hid h; clear h
  have hlen := H.out.1
  go_enter Tryz.func111, Tryz.ntmps111
  go_wp2_with fail
  go_loopw [3, 4] (fun v iv wr => ∃ k : Nat, k ≤ n ∧ iv = .int .i64 (k : Int) ∧ OwnR SurfR 22 92 w.heap.size wr v (l.take k) ∧ Below w.heap.size w wr) (fun _ iv _ => n - (intOf iv).toNat)
  case atStart => exact ⟨0, by omega, rfl, OwnR.nil _ _ _ _ _, Below.refl _ _⟩
  case round =>
    obtain ⟨k, hk, rfl, ho, hb⟩ := hrel
    have Ho2 := Lib.hid ho; have Hb2 := Lib.hid hb
    clear ho hb
    by_cases hkn : k < n
    · obtain ⟨b, off, x, cs, rfl, hlt, hx, ⟨a2, n2, c2, rfl, hz, hn2, hc2, hg2⟩, hr⟩ := (H.out.go surfOk Hb2.out).at hkn
      have Hl : (l.take k).length = k := by rw [List.length_take, hlen]; omega
      have h1 := SurfB.new wr x.s a2 n2 c2
      have hb1 := below_al (o := .cells #[.int .i64 x.s.kind, .int .i64 x.s.curv, .int .i64 x.s.conic, .int .i64 x.s.curvX, .int .i64 x.s.conicX, .int .i64 x.s.a0, .int .i64 x.s.a1, .int .i64 x.s.a2, .int .i64 x.s.a3, .int .i64 x.s.p0, .int .i64 x.s.p1, .int .i64 x.s.order, .int .i64 x.s.thick, .string x.s.glass, .int .i64 x.s.semi, .int .i64 x.s.hole, .int .i64 x.s.dx, .int .i64 x.s.dy, .int .i64 x.s.ax, .int .i64 x.s.ay, .int .i64 x.s.az, .slice a2 n2 c2] 92) (Below.refl wr.heap.size wr)
      have Hx := Lib.hid hx; have Hz := Lib.hid (hz.ir (fun _ h => h)); have Hc2 := Lib.hid hc2; have Hr := Lib.hid hr; have Hg2 := Lib.hid hg2; have H1 := Lib.hid h1; have Hb1 := Lib.hid hb1; have HL := Lib.hid Hl
      clear hx hz hc2 hr hg2 h1 hb1 Hl
      go_upto_region 6 with (first
        | (refine wpL_load_at Hr.out rfl (.tmp 14) rfl rfl ?_)
        | (refine wpL_store_new x.s a2 n2 c2 _ rfl rfl (.tmp 5) (.tmp 15) rfl rfl rfl ?_))
      refine step_world (fun wx => SurfB wx wr.heap.size x.s a2 n2 c2 ∧ Below wr.heap.size wr wx) ⟨H1.out, Hb1.out⟩ ?_
      clear H1 Hb1
      rintro w1 ⟨h1, hb1⟩
      have hl1 := h1.lt
      have k21 := h1.cells.2.2.2.2.2.2.2.2.2.2.2.2.2.2.2.2.2.2.2.2.2
      have H1 := Lib.hid h1; have Hb1 := Lib.hid hb1
      clear h1 hb1
      go_upto_region 7 with (first
        | (refine wpList_append_irs Tryz.underlying90 Tryz.infoFilm3 rfl (by omega) (by omega) rfl (.tmp 16) (.tmp 18) rfl w1.heap.size (.slice (some ⟨w1.heap.size, 0, none⟩) 0 0) 0 [] rfl (World.ownsRow_made w1 #[] 0 (Nat.le_refl _) (by simp) rfl) (fun b => b < w1.heap.size) a2 n2 c2 x.zs rfl (IR.irp ((Hz.out.go Hb1.out).below ((Below.refl _ _).alloc (Nat.le_refl _) _) (Nat.le_refl _)) (fun _ h => h)) Hc2.out (by omega) (by simp) ?_; intro v' w6 hown hgrow; obtain ⟨a', c', rfl, hc', hi⟩ := own_irp hown; have hb2 : Below w1.heap.size w1 w6 := ((Below.refl _ _).alloc (Nat.le_refl _) _).grown hgrow (by simp) (by intro k hk; simp [Value.ownBlock] at hk; omega); clear hown hgrow k21; have fz := SurfB.free (SurfB.go H1.out hb2 hl1) 21; have k21 := (SurfB.cells (SurfB.go H1.out hb2 hl1)).2.2.2.2.2.2.2.2.2.2.2.2.2.2.2.2.2.2.2.2.2; have Hi := Lib.hid hi; have Hc3 := Lib.hid hc'; have Hb3 := Lib.hid hb2; clear hi hc' hb2))
      have hi2 : IRp (fun b => w1.heap.size ≤ b ∧ b < w6.heap.size) w6 3 a' n2 c' x.zs := by have k := Hi.out; rw [Nat.zero_add] at k; exact k
      refine step_world (fun wx => SurfB wx wr.heap.size x.s a' n2 c' ∧ Below wr.heap.size wr wx ∧ IRp (fun b => w1.heap.size ≤ b ∧ b < wx.heap.size) wx 3 a' n2 c' x.zs) ⟨SurfB.coat (SurfB.go H1.out Hb3.out hl1) a' n2 c', (below_chain Hb1.out Hb3.out).setCell (p := ⟨wr.heap.size, 21, none⟩) (Nat.le_refl _) _, hi2.kept ((keptOn_setCells wr.heap.size [_] 21 w6).mono ?_) ?_⟩ ?_
      · intro b hb; have := hb.1; omega
      · intro b hb; simp; exact hb
      clear H1 Hb3 hi2 Hi k21 fz
      rintro w7 ⟨h1, hb3, hi⟩
      have hl3 := h1.lt
      have hy : SurfR (fun b => w.heap.size ≤ b ∧ b < w7.heap.size ∧ u3.ownBlock ≠ some b) w7 x (cells22 x.s a' n2 c') := ⟨a', n2, c', rfl, hi.kept (KeptOn.refl _ _) (fun b hb => ⟨by have := hb.1; have := Hb2.out.size; have := Hb1.out.size; omega, hb.2, Ho2.out.fresh (by have := hb.1; have := Hb1.out.size; omega)⟩), hn2, Hc3.out, Hg2.out⟩
      have H1 := Lib.hid h1; have Hb3 := Lib.hid hb3; have Hy := Lib.hid hy
      clear h1 hb3 hi hy
      go_wp2_with (first
        | (refine wpL_load_surf H1.out rfl (.tmp 5) rfl rfl ?_)
        | (refine wpList_append_rec surfOk Tryz.underlying45 Tryz.infoSurf3 rfl (by omega) (by omega) rfl (.tmp 21) (.tmp 23) rfl w.heap.size w7 u3 (l.take k) x (cells22 x.s a' n2 c') rfl (Ho2.out.go surfOk Hb3.out) rfl rfl Hy.out (by rw [HL.out]; omega) (Nat.le_trans Hb2.out.size Hb3.out.size) ?_; intro g3 cap3 w8 ho3 hb4; have Ho3 := Lib.hid ho3; have Hb4 := Lib.hid hb4; clear ho3 hb4))
      go_roundw
      case rel => exact ⟨k + 1, by omega, by go_num, by rw [take_next Hx.out]; have q := Ho3.out; rw [HL.out] at q; exact q, Hb4.out _ _ (Nat.le_refl _) (below_chain Hb2.out Hb3.out)⟩
      case measure => simp [intOf]; omega
    · obtain rfl : k = n := by omega
      go_wp2
      go_ret
      have := Ho2.out
      rw [← hlen, List.take_length] at this
      exact ⟨_, rfl, this, Hb2.out⟩

end Go.Proofs.YthommhfppeonpaaGreatDoor

namespace Go.Proofs.YthommhfppeonpaaGreatDoor
open Go.RowKit

theorem out1 (low high k : Int) : outB low high [k] = (decide (k < low) || decide (high < k)) := by simp [outB]

set_option maxRecDepth 100000 in
theorem within_any (k most : Int) (w : World) (h0 : 0 ≤ most) (h1 : most ≤ 9223372036854775807) : Calls Tryz.prog 141 #[.int .i64 k, .int .i64 most] w (RetB w (.bool (!outB (-most) most [k]))) := by
  go_enter Tryz.func141, Tryz.ntmps141
  go_wp2
  all_goals
    go_ret
    refine ⟨congrArg (fun b => Ending.returned (Value.bool b)) ?_, Below.refl _ _⟩
    rw [Bool.eq_iff_iff]
    simp [out1] <;> omega

set_option maxRecDepth 100000 in
set_option maxHeartbeats 800000 in
theorem refFilm_any (i p q : Int) (w : World) : Calls Tryz.prog 142 #[.agg #[.int .i64 i, .int .i64 p, .int .i64 q]] w (RetB w (.bool (okFilm i p q))) := by
  go_enter Tryz.func142, Tryz.ntmps142
  go_wp2
  all_goals
    go_ret
    refine ⟨congrArg (fun b => Ending.returned (Value.bool b)) ?_, by (repeat (first | exact Below.refl _ _ | apply below_al | apply below_dr | exact below_chain1 (by assumption) | (refine below_chain ?_ (by assumption)) | (refine below_st ?_ ?_)))⟩
    rw [Bool.eq_iff_iff]
    simp [okFilm, out1] <;> omega

end Go.Proofs.YthommhfppeonpaaGreatDoor

namespace Go.Proofs.YthommhfppeonpaaGreatDoor
open Go.RowKit

theorem eq4' (s : Surf) (w : World) : (Op.equalIn 10000 88 (.agg #[.int .i64 s.a0, .int .i64 s.a1, .int .i64 s.a2, .int .i64 s.a3]) (.agg #[.int .i64 s.a0, .int .i64 s.a1, .int .i64 s.a2, .int .i64 s.a3])).run Tryz.prog w = .ok true w := by
  have h := eq_ints 9998 (n := 4) (k' := .i64) Tryz.underlying88 (by kernel_rfl) Tryz.underlying3 (by kernel_rfl) [s.a0, s.a1, s.a2, s.a3] [s.a0, s.a1, s.a2, s.a3] rfl rfl w
  simpa using h
theorem eq2' (s : Surf) (w : World) : (Op.equalIn 10000 89 (.agg #[.int .i64 s.p0, .int .i64 s.p1]) (.agg #[.int .i64 s.p0, .int .i64 s.p1])).run Tryz.prog w = .ok true w := by
  have h := eq_ints 9998 (n := 2) (k' := .i64) Tryz.underlying89 (by kernel_rfl) Tryz.underlying3 (by kernel_rfl) [s.p0, s.p1] [s.p0, s.p1] rfl rfl w
  simpa using h

set_option maxRecDepth 100000 in
set_option maxHeartbeats 6400000 in
theorem refSame_eq (s : Surf) (xs : List Int) (a b : Option Addr) (n c d : Nat) (w : World) (hx : IR w.heap.size w 3 a n c xs) (hy : IR w.heap.size w 3 b n d xs) (hn : n ≤ 1000000) :
    Calls Tryz.prog 31 #[.agg #[.int .i64 s.kind, .int .i64 s.curv, .int .i64 s.conic, .int .i64 s.curvX, .int .i64 s.conicX, .int .i64 s.a0, .int .i64 s.a1, .int .i64 s.a2, .int .i64 s.a3, .int .i64 s.p0, .int .i64 s.p1, .int .i64 s.order, .int .i64 s.thick, .string s.glass, .int .i64 s.semi, .int .i64 s.hole, .int .i64 s.dx, .int .i64 s.dy, .int .i64 s.ax, .int .i64 s.ay, .int .i64 s.az, .slice a n c], .agg #[.int .i64 s.kind, .int .i64 s.curv, .int .i64 s.conic, .int .i64 s.curvX, .int .i64 s.conicX, .int .i64 s.a0, .int .i64 s.a1, .int .i64 s.a2, .int .i64 s.a3, .int .i64 s.p0, .int .i64 s.p1, .int .i64 s.order, .int .i64 s.thick, .string s.glass, .int .i64 s.semi, .int .i64 s.hole, .int .i64 s.dx, .int .i64 s.dy, .int .i64 s.ax, .int .i64 s.ay, .int .i64 s.az, .slice b n d]] w (RetB w (.bool true)) := by
  obtain ⟨e1, e2⟩ := heap_two w (.cells #[.int .i64 s.kind, .int .i64 s.curv, .int .i64 s.conic, .int .i64 s.curvX, .int .i64 s.conicX, .int .i64 s.a0, .int .i64 s.a1, .int .i64 s.a2, .int .i64 s.a3, .int .i64 s.p0, .int .i64 s.p1, .int .i64 s.order, .int .i64 s.thick, .string s.glass, .int .i64 s.semi, .int .i64 s.hole, .int .i64 s.dx, .int .i64 s.dy, .int .i64 s.ax, .int .i64 s.ay, .int .i64 s.az, .slice a n c] 92) (.cells #[.int .i64 s.kind, .int .i64 s.curv, .int .i64 s.conic, .int .i64 s.curvX, .int .i64 s.conicX, .int .i64 s.a0, .int .i64 s.a1, .int .i64 s.a2, .int .i64 s.a3, .int .i64 s.p0, .int .i64 s.p1, .int .i64 s.order, .int .i64 s.thick, .string s.glass, .int .i64 s.semi, .int .i64 s.hole, .int .i64 s.dx, .int .i64 s.dy, .int .i64 s.ax, .int .i64 s.ay, .int .i64 s.az, .slice b n d] 92)
  have hb := below_two (w := w) (.cells #[.int .i64 s.kind, .int .i64 s.curv, .int .i64 s.conic, .int .i64 s.curvX, .int .i64 s.conicX, .int .i64 s.a0, .int .i64 s.a1, .int .i64 s.a2, .int .i64 s.a3, .int .i64 s.p0, .int .i64 s.p1, .int .i64 s.order, .int .i64 s.thick, .string s.glass, .int .i64 s.semi, .int .i64 s.hole, .int .i64 s.dx, .int .i64 s.dy, .int .i64 s.ax, .int .i64 s.ay, .int .i64 s.az, .slice a n c] 92) (.cells #[.int .i64 s.kind, .int .i64 s.curv, .int .i64 s.conic, .int .i64 s.curvX, .int .i64 s.conicX, .int .i64 s.a0, .int .i64 s.a1, .int .i64 s.a2, .int .i64 s.a3, .int .i64 s.p0, .int .i64 s.p1, .int .i64 s.order, .int .i64 s.thick, .string s.glass, .int .i64 s.semi, .int .i64 s.hole, .int .i64 s.dx, .int .i64 s.dy, .int .i64 s.ax, .int .i64 s.ay, .int .i64 s.az, .slice b n d] 92)
  have Hx := Lib.hid hx; have Hy := Lib.hid hy; have E1 := Lib.hid e1; have E2 := Lib.hid e2; have Hb := Lib.hid hb
  clear hx hy e1 e2 hb
  go_enter Tryz.func31, Tryz.ntmps31
  go_upto_region 1 with fail
  refine step_world (fun wx => SurfB wx w.heap.size s a n c ∧ SurfB wx (w.heap.size + 1) s b n d ∧ Below w.heap.size w wx) ⟨E1.out, E2.out, Hb.out⟩ ?_
  clear E1 E2 Hb
  rintro w1 ⟨h1, h2, hb⟩
  have hl1 := h1.lt
  have hl2 := h2.lt
  have c1 := h1.cells.2.2.2.2.2.2.2.2.2.2.2.2.2.2.2.2.2.2.2.2.2
  have c2 := h2.cells.2.2.2.2.2.2.2.2.2.2.2.2.2.2.2.2.2.2.2.2.2
  have H1 := Lib.hid h1; have H2 := Lib.hid h2; have Hb := Lib.hid hb
  clear h1 h2 hb
  go_wp2_with fail
  go_loopw [5] (fun iv wr => ∃ k : Nat, k ≤ n ∧ iv = .int .i64 (k : Int) ∧ SurfB wr w.heap.size s a n c ∧ SurfB wr (w.heap.size + 1) s b n d ∧ Below w.heap.size w wr) (fun iv _ => n - (intOf iv).toNat)
  case atStart => exact ⟨0, Nat.zero_le _, rfl, H1.out, H2.out, Hb.out⟩
  case round =>
    clear c1 c2 H1 H2 Hb hl1 hl2
    obtain ⟨k, hk, rfl, h1, h2, hb⟩ := hrel
    have hl1 := h1.lt
    have hl2 := h2.lt
    have c1 := h1.cells.2.2.2.2.2.2.2.2.2.2.2.2.2.2.2.2.2.2.2.2.2
    have c2 := h2.cells.2.2.2.2.2.2.2.2.2.2.2.2.2.2.2.2.2.2.2.2.2
    have H1 := Lib.hid h1; have H2 := Lib.hid h2; have Hb := Lib.hid hb
    clear h1 h2 hb
    by_cases hkn : k < n
    · obtain ⟨b1, o1, rfl, l1, x0, x1, x2⟩ := (Hx.out.go Hb.out).at3 hkn
      obtain ⟨b2, o2, rfl, l2, y0, y1, y2⟩ := (Hy.out.go Hb.out).at3 hkn
      generalize xs.getD (k * 3) 0 = p0 at *
      generalize xs.getD (k * 3 + 1) 0 = p1 at *
      generalize xs.getD (k * 3 + 2) 0 = p2 at *
      go_wp2_with fail
      go_quiet (fail)
      go_wp2_with fail
      go_roundw
      case rel => exact ⟨k + 1, by omega, by go_num, SurfB.of_dr H1.out, SurfB.of_dr H2.out, below_drewN Hb.out _⟩
      case measure => simp [intOf]; omega
    · obtain rfl : k = n := by omega
      go_upto_region 8 with fail
      clear c1 c2 Hx Hy
      obtain ⟨k0, k1, k2, k3, k4, k5, k6, k7, k8, k9, k10, k11, k12, k13, k14, k15, k16, k17, k18, k19, k20, k21⟩ := H1.out.cells
      obtain ⟨j0, j1, j2, j3, j4, j5, j6, j7, j8, j9, j10, j11, j12, j13, j14, j15, j16, j17, j18, j19, j20, j21⟩ := H2.out.cells
      have e4 := eq4' s wr
      have e2 := eq2' s wr
      clear H1 H2
      go_wp2
      go_ret
      exact ⟨rfl, Hb.out⟩

end Go.Proofs.YthommhfppeonpaaGreatDoor
