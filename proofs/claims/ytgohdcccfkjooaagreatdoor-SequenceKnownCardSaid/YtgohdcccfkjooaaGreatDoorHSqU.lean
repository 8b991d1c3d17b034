/-
  DERIVED. Parameter lines: what they are read as; where a value is put.
-/
import Derived.Test.YtgohdcccfkjooaaGreatDoorGai
namespace Go.Proofs.YtgohdcccfkjooaaGreatDoor
open Go.RowKit

/-! ### the plain side of part -/
def partR (r : RdS) (fw : List UInt8) (ws : List (List UInt8)) : Option RdS :=
  if fw ≠ wFilm ∧ fw ∈ r.seen then none else (lastPut r.x.l fun y => partS y (fw :: ws)).map fun l => ⟨{ r.x with l := l }, 7, if fw = wFilm then r.seen else r.seen ++ [fw]⟩
theorem lastPut_snoc {α : Type} (l0 : List α) (y : α) (f : α → Option α) : lastPut (l0 ++ [y]) f = (f y).map fun z => l0 ++ [z] := by
  unfold lastPut; simp
theorem partR_film {r : RdS} {l0 : List SurfC} {y : SurfC} (hl : r.x.l = l0 ++ [y]) (ws : List (List UInt8)) : partR r wFilm ws = (valsS ws [7, 0, 0]).map fun ns => ⟨{ r.x with l := l0 ++ [⟨y.s, y.zs ++ ns⟩] }, 7, r.seen⟩ := by
  unfold partR
  rw [if_neg (by simp), hl, lastPut_snoc]
  unfold partS
  simp only [if_true]
  cases valsS ws [7, 0, 0] <;> rfl
theorem partR_seen {r : RdS} {fw : List UInt8} {ws : List (List UInt8)} (h1 : fw ≠ wFilm) (h2 : fw ∈ r.seen) : partR r fw ws = none := by
  unfold partR; rw [if_pos ⟨h1, h2⟩]
theorem partR_len {r : RdS} {fw : List UInt8} {ws : List (List UInt8)} (h1 : fw ≠ wFilm) (h2 : ws.length ≠ 1) : partR r fw ws = none := by
  unfold partR
  split
  · rfl
  · have hp : ∀ y, partS y (fw :: ws) = none := fun y => by
      unfold partS
      simp only [if_neg h1]
      match ws, h2 with
      | [], _ => rfl
      | [v], h => simp at h
      | _ :: _ :: _, _ => rfl
    unfold lastPut
    cases r.x.l.getLast? with
    | none => rfl
    | some y => simp [hp]
theorem partR_one {r : RdS} {l0 : List SurfC} {y : SurfC} (hl : r.x.l = l0 ++ [y]) {fw v : List UInt8} (h1 : fw ≠ wFilm) (h2 : fw ∉ r.seen) : partR r fw [v] = if fw = wGlass then some ⟨{ r.x with l := l0 ++ [⟨{ y.s with glass := bs v }, y.zs⟩] }, 7, r.seen ++ [fw]⟩ else match digS fw with
    | none => none
    | some d => (valS v d).map fun n => ⟨{ r.x with l := l0 ++ [⟨putN y.s fw n, y.zs⟩] }, 7, r.seen ++ [fw]⟩ := by
  unfold partR
  rw [if_neg (fun h => h2 h.2), hl, lastPut_snoc]
  unfold partS
  simp only [if_neg h1]
  split
  · rfl
  · cases digS fw with
    | none => rfl
    | some d => cases hv : valS v d <;> simp [hv]
theorem memB_bs (s : List UInt8) : ∀ ks : List (List UInt8), memB (bs s) (ks.map bs) = decide (s ∈ ks)
  | [] => rfl
  | k :: ks => by
    have ih := memB_bs s ks
    unfold memB at ih ⊢
    rw [List.map_cons, List.any_cons, ih, bs_beq]
    by_cases h : s = k
    · subst h; simp
    · have : (s == k) = false := by rw [beq_eq_false_iff_ne]; exact h
      rw [this]; simp [h]
/-- a place: where it is, and what is put there -/
structure PlaceF (fid : FuncId) (off d : Nat) (fw : List UInt8) : Prop where
  call : ∀ b k w, Calls Tryz.prog fid #[.pointer (some ⟨b, k, none⟩)] w fun e w' => e = .returned (.pointer (some ⟨b, k + off, none⟩)) ∧ w = w'
  ent : ∀ args w, (callFunc fid args).run Tryz.prog w = .ok (.enter fid args) w
  dig : digS fw = some d
  lt : off < 22
  d18 : d ≤ 18
  set : ∀ s a n c z, (cells22 s a n c).set off (.int .i64 z) = cells22 (putN s fw z) a n c
  glass : ∀ s z, (putN s fw z).glass = s.glass
theorem paramS_some {fw : List UInt8} {i : Nat} (h : pNames.findIdx? (· == fw) = some i) : paramS fw = some (i + 1) := by unfold paramS; rw [h]; rfl
theorem paramS_none {fw : List UInt8} (h : pNames.findIdx? (· == fw) = none) : paramS fw = none := by unfold paramS; rw [h]; rfl
theorem digP_le (p : Nat) : digP p ≤ 18 := by unfold digP; split; omega; split <;> omega
theorem enter_p1 (args : Array Value) (w : World) : (callFunc 308 args).run Tryz.prog w = .ok (.enter 308 args) w := by kernel_rfl
theorem enter_p2 (args : Array Value) (w : World) : (callFunc 309 args).run Tryz.prog w = .ok (.enter 309 args) w := by kernel_rfl
theorem enter_p3 (args : Array Value) (w : World) : (callFunc 310 args).run Tryz.prog w = .ok (.enter 310 args) w := by kernel_rfl
theorem enter_p4 (args : Array Value) (w : World) : (callFunc 311 args).run Tryz.prog w = .ok (.enter 311 args) w := by kernel_rfl
theorem enter_p5 (args : Array Value) (w : World) : (callFunc 312 args).run Tryz.prog w = .ok (.enter 312 args) w := by kernel_rfl
theorem enter_p6 (args : Array Value) (w : World) : (callFunc 313 args).run Tryz.prog w = .ok (.enter 313 args) w := by kernel_rfl
theorem enter_p7 (args : Array Value) (w : World) : (callFunc 314 args).run Tryz.prog w = .ok (.enter 314 args) w := by kernel_rfl
theorem enter_p8 (args : Array Value) (w : World) : (callFunc 315 args).run Tryz.prog w = .ok (.enter 315 args) w := by kernel_rfl
theorem enter_p9 (args : Array Value) (w : World) : (callFunc 316 args).run Tryz.prog w = .ok (.enter 316 args) w := by kernel_rfl
theorem enter_p10 (args : Array Value) (w : World) : (callFunc 317 args).run Tryz.prog w = .ok (.enter 317 args) w := by kernel_rfl
theorem enter_p11 (args : Array Value) (w : World) : (callFunc 318 args).run Tryz.prog w = .ok (.enter 318 args) w := by kernel_rfl
theorem enter_p12 (args : Array Value) (w : World) : (callFunc 319 args).run Tryz.prog w = .ok (.enter 319 args) w := by kernel_rfl
theorem enter_p13 (args : Array Value) (w : World) : (callFunc 320 args).run Tryz.prog w = .ok (.enter 320 args) w := by kernel_rfl
theorem enter_p14 (args : Array Value) (w : World) : (callFunc 321 args).run Tryz.prog w = .ok (.enter 321 args) w := by kernel_rfl
theorem enter_p15 (args : Array Value) (w : World) : (callFunc 322 args).run Tryz.prog w = .ok (.enter 322 args) w := by kernel_rfl
theorem enter_p16 (args : Array Value) (w : World) : (callFunc 323 args).run Tryz.prog w = .ok (.enter 323 args) w := by kernel_rfl
theorem enter_p17 (args : Array Value) (w : World) : (callFunc 324 args).run Tryz.prog w = .ok (.enter 324 args) w := by kernel_rfl
theorem fnP_enter (i : Nat) (hi : i < 17) : ∀ args w, (callFunc (fnP i) args).run Tryz.prog w = .ok (.enter (fnP i) args) w := by
  match i, hi with
  | 0, _ => exact enter_p1
  | 1, _ => exact enter_p2
  | 2, _ => exact enter_p3
  | 3, _ => exact enter_p4
  | 4, _ => exact enter_p5
  | 5, _ => exact enter_p6
  | 6, _ => exact enter_p7
  | 7, _ => exact enter_p8
  | 8, _ => exact enter_p9
  | 9, _ => exact enter_p10
  | 10, _ => exact enter_p11
  | 11, _ => exact enter_p12
  | 12, _ => exact enter_p13
  | 13, _ => exact enter_p14
  | 14, _ => exact enter_p15
  | 15, _ => exact enter_p16
  | 16, _ => exact enter_p17
  | i + 17, hi => omega
theorem place_par {fw : List UInt8} {i : Nat} (h : pNames.findIdx? (· == fw) = some i) : PlaceF (fnP i) (offP i) (digP (i + 1)) fw := by
  have hi : i < 17 := findIdx_lt h
  have hp := paramS_some h
  refine ⟨fun b k w => fnP_any i hi b k w, fnP_enter i hi, by unfold digS; rw [hp], ?_, digP_le _, fun s a n c z => ?_, fun s z => ?_⟩
  · have : ∀ i, i < 17 → offP i < 22 := by decide
    exact this i hi
  · unfold putN; rw [hp]
    match i, hi with
    | 0, _ => rfl
    | 1, _ => rfl
    | 2, _ => rfl
    | 3, _ => rfl
    | 4, _ => rfl
    | 5, _ => rfl
    | 6, _ => rfl
    | 7, _ => rfl
    | 8, _ => rfl
    | 9, _ => rfl
    | 10, _ => rfl
    | 11, _ => rfl
    | 12, _ => rfl
    | 13, _ => rfl
    | 14, _ => rfl
    | 15, _ => rfl
    | 16, _ => rfl
    | i + 17, hi => omega
  · unfold putN; rw [hp]
    match i, hi with
    | 0, _ => rfl
    | 1, _ => rfl
    | 2, _ => rfl
    | 3, _ => rfl
    | 4, _ => rfl
    | 5, _ => rfl
    | 6, _ => rfl
    | 7, _ => rfl
    | 8, _ => rfl
    | 9, _ => rfl
    | 10, _ => rfl
    | 11, _ => rfl
    | 12, _ => rfl
    | 13, _ => rfl
    | 14, _ => rfl
    | 15, _ => rfl
    | 16, _ => rfl
    | i + 17, hi => omega
theorem place_hole : PlaceF 325 15 6 wHole :=
  ⟨fun b k w => oth_hole b k w, fun args w => by kernel_rfl, by decide, by omega, by omega, fun s a n c z => rfl, fun s z => rfl⟩
theorem place_order : PlaceF 326 11 0 wOrder :=
  ⟨fun b k w => oth_order b k w, fun args w => by kernel_rfl, by decide, by omega, by omega, fun s a n c z => rfl, fun s z => rfl⟩
theorem digS_none {fw : List UInt8} (h : pNames.findIdx? (· == fw) = none) (h1 : fw ≠ wHole) (h2 : fw ≠ wOrder) : digS fw = none := by
  unfold digS; rw [paramS_none h]
  simp only [if_neg h1, if_neg h2]
theorem OwnS.cell {B : Nat} {D : Nat → Prop} {W : World} {c : Nat} {p : Ptr} {m : Value} {l : List SurfC} {seen : List (List UInt8)} {l0 : List SurfC} {y : SurfC} {css : List (List Value)} {q : Ptr} {bb cap bm : Nat} (h : OwnS B D W c p m l seen l0 y css q bb cap bm) {j : Nat} (hj : j < 22) : W.cell? ⟨bb, l0.length * 22 + j, none⟩ = (cells22 y.s q.a q.n q.c)[j]? ∧ W.frozen? ⟨bb, l0.length * 22 + j, none⟩ = false := by
  rcases h.row.2 with ⟨e, _⟩ | ⟨g', cap', cur, e, q1, q2, q3, q4, q5, q6⟩
  · cases e
  · cases e
    refine ⟨?_, obj_free q2 _⟩
    rw [obj_cell q2]
    have h6 := congrArg (fun l => l[l0.length * 22 + j]?) q6
    rw [List.getElem?_take, if_pos (by omega), List.getElem?_append_right (by rw [h.flat]; omega), h.flat, Nat.add_sub_cancel_left] at h6
    rw [← h6]; simp
theorem OwnC.cell {B : Nat} {D : Nat → Prop} {W : World} {c : Nat} {p : Ptr} {l l0 : List ConfC} {y : ConfC} {css : List (List Value)} {q : Ptr} {bb cap : Nat} (h : OwnC B D W c p l l0 y css q bb cap) {j : Nat} (hj : j < 2) : W.cell? ⟨bb, l0.length * 2 + j, none⟩ = [Value.string y.nm, .slice q.a q.n q.c][j]? ∧ W.frozen? ⟨bb, l0.length * 2 + j, none⟩ = false := by
  rcases h.row.2 with ⟨e, _⟩ | ⟨g', cap', cur, e, q1, q2, q3, q4, q5, q6⟩
  · cases e
  · cases e
    refine ⟨?_, obj_free q2 _⟩
    rw [obj_cell q2]
    have h6 := congrArg (fun l => l[l0.length * 2 + j]?) q6
    rw [List.getElem?_take, if_pos (by omega), List.getElem?_append_right (by rw [h.flat]; omega), h.flat, Nat.add_sub_cancel_left] at h6
    rw [← h6]; simp
theorem wds_tail {W : World} {A c B : Nat} {v : List UInt8} {ws : List (List UInt8)} (h : Wds W (some ⟨A, 0, none⟩) (ws.length + 1) c (v :: ws) B) : Wds W (some ⟨A, 1, none⟩) ws.length (c - 1) ws B := by
  obtain ⟨_, h2, h3⟩ := h
  refine ⟨rfl, by omega, fun h0 => ?_⟩
  obtain ⟨g, off, e, h4, h5⟩ := h3 (by omega)
  cases e
  refine ⟨A, 1, rfl, h4, fun j x hx => ?_⟩
  have := h5 (j + 1) x (by simpa using hx)
  rw [show (1 : Nat) + j = 0 + (j + 1) by omega]
  exact this
/-- the reader's own row is not where a word lies -/
theorem OwnI.word {B : Nat} {D : Nat → Prop} {W : World} {T : TypeId} {k : Nat} {p : Ptr} {zs : List Int} (h : OwnI B D W T k p zs) (hk : 0 < k) {A : Nat} {s : ByteArray} (hA : W.cell? ⟨A, 0, none⟩ = some (.string s)) : p.v.ownBlock ≠ some A := by
  intro e
  obtain ⟨a, n, c⟩ := p
  have hpos := h.pos
  have hrow := h.row
  cases a with
  | none => cases e
  | some ad =>
    have e2 : ad.block = A := by simpa [Ptr.v, Value.ownBlock] using e
    have hn : 0 < n := Nat.pos_of_ne_zero fun h0 => by cases hpos h0
    rcases (owns_cells hrow).2 with ⟨e3, _⟩ | ⟨g, cap, e3, _, _, hcells⟩
    · cases e3
    · cases e3
      have hl := hrow.1
      rw [List.length_map] at hl
      have h0 : 0 < (zs.map (Value.int .i64)).length := by rw [List.length_map, hl]; exact Nat.mul_pos hn hk
      have := hcells.cell (j := 0) h0
      rw [← e2] at hA
      rw [hA] at this
      simp at this
theorem OwnS.go {B : Nat} {D : Nat → Prop} {W W' : World} {c : Nat} {p : Ptr} {m : Value} {l : List SurfC} {seen : List (List UInt8)} {l0 : List SurfC} {y : SurfC} {css : List (List Value)} {q : Ptr} {bb cap bm : Nat} (h : OwnS B D W c p m l seen l0 y css q bb cap bm) (hb : Below W.heap.size W W') : OwnS B D W' c p m l seen l0 y css q bb cap bm := h.keep (fun b _ hb2 => hb.block b hb2) hb.size
theorem OwnC.go {B : Nat} {D : Nat → Prop} {W W' : World} {c : Nat} {p : Ptr} {l l0 : List ConfC} {y : ConfC} {css : List (List Value)} {q : Ptr} {bb cap : Nat} (h : OwnC B D W c p l l0 y css q bb cap) (hb : Below W.heap.size W W') : OwnC B D W' c p l l0 y css q bb cap := h.keep (fun b _ hb2 => hb.block b hb2) hb.size
theorem stepP_from {B g : Nat} {at0 : Int} {c : Nat} {D : Nat → Prop} {res : Option RdS} {W W1 W' : World} {e : Ending} (h : StepP B g at0 c D res W1 e W') (hb : Below W.heap.size W W1) (hg : g ≤ W.heap.size) : StepP B g at0 c D res W e W' := by
  obtain ⟨h1, h2, h3⟩ := h
  have hs := hb.size
  refine ⟨(hb.mono hg).trans h1, fun k hk hD => (h2 k (by omega) hD).trans (hb.block k hk), h3.imp ?_ id⟩
  rintro ⟨q, e1, e2, D', h4, h5⟩
  exact ⟨q, e1, e2, D', fun b hb2 => (h4 b hb2).imp id (fun h => by omega), h5⟩
/-- a malformed parameter line: the map may have been written -/
theorem stepP_bad2 {B g c bm : Nat} {D : Nat → Prop} {res : Option RdS} {W0 W : World} (hr : res = none) (hk : ∀ b, b < W0.heap.size → b ≠ bm → W.heap[b]? = W0.heap[b]?) (hbe : Below B W0 W) (hbm : D bm) (hg : g ≤ B) : StepP B g 7 c D res W0 MalS W :=
  ⟨hbe.mono hg, fun k hk1 hD => hk k hk1 (fun e => hD (by rw [e]; exact hbm)), Or.inr ⟨hr, rfl⟩⟩
end Go.Proofs.YtgohdcccfkjooaaGreatDoor
