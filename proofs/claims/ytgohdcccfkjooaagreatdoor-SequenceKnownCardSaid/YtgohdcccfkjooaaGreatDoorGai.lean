/-
  DERIVED. Several texts in one: SqK, SqL, SqM, SqN, SqO, SqP, SqQ, SqR, SqS, SqT.
-/
import Derived.Test.YtgohdcccfkjooaaGreatDoorGah
import Derived.Test.YtgohdcccfkjooaaGreatDoorGac
namespace Go.Proofs.YtgohdcccfkjooaaGreatDoor
open Go.RowKit

theorem numberS_any (z : Int) (d : Nat) (w : World) (h1 : -9223372036854775808 ≤ z) (h2 : z ≤ 9223372036854775807) (hd : d ≤ 18) (hg : GW w) : Calls Tryz.prog 42 #[.int .i64 z, .int .i64 (d : Int)] w (RetB w (.string (bs (numT z d)))) := by
  go_enter Tryz.func42, Tryz.ntmps42
  go_wp2_with fail
  refine (decText_any z d w h1 h2 hd hg).mono ?_
  rintro e w1 ⟨rfl, hb⟩
  have Hb := Lib.hid hb; clear hb hg
  go_wp2_with fail
  go_ret
  exact ⟨rfl, Hb.out⟩

/-! ### a Builder that lies in a writer -/
theorem conv_to (w : World) (b : Nat) (p v : Value) (hb : w.heap[b]? = some (.cells #[p, v] 108 (0, 0))) : (convert 84 198 (.pointer (some ⟨b, 0, none⟩))).run Tryz.prog w = .ok (.pointer (some ⟨b, 0, none⟩)) w := by
  obtain ⟨i, hi⟩ : ∃ i, Tryz.prog.info? 86 = some i ∧ i.size ≠ 0 := by
    have h : (Tryz.prog.info? 86).any (fun i => decide (i.size ≠ 0)) = true := by kernel_rfl
    cases hi : Tryz.prog.info? 86 with
    | none => rw [hi] at h; cases h
    | some i => rw [hi] at h; exact ⟨i, rfl, by simpa using h⟩
  exact Lib.run_to_unsafe (e := 108) (cells := 2) _ _ Tryz.underlying84 Tryz.underlying198 hi.1 hi.2 (by simp [World.shape?, hb]) (by show 0 < 2; omega)
theorem conv_from (w : World) (b : Nat) (p v : Value) (hb : w.heap[b]? = some (.cells #[p, v] 108 (0, 0))) : (convert 198 84 (.pointer (some ⟨b, 0, none⟩))).run Tryz.prog w = .ok (.pointer (some ⟨b, 0, none⟩)) w := by
  obtain ⟨i, hi⟩ : ∃ i, Tryz.prog.info? 86 = some i := by
    have h : (Tryz.prog.info? 86).isSome = true := by kernel_rfl
    exact Option.isSome_iff_exists.1 h
  exact Lib.run_from_unsafe (e := 108) (cells := 2) _ _ Tryz.underlying198 Tryz.underlying84 hi (by simp [World.shape?, hb]) (by kernel_rfl)

theorem neq_same (w : World) (b : Nat) : (binOp .neq 84 (.pointer (some ⟨b, 0, none⟩)) (.pointer (some ⟨b, 0, none⟩))).run Tryz.prog w = .ok (.bool false) w := by
  obtain ⟨i, hi⟩ : ∃ i, Tryz.prog.info? 86 = some i := by
    have h : (Tryz.prog.info? 86).isSome = true := by kernel_rfl
    exact Option.isSome_iff_exists.1 h
  exact Lib.run_neq_ptr_same w _ Tryz.underlying84 hi
/-- a block that is no row of its own is written: the row stays -/
theorem ownsRow_other {w : World} {B : Nat} {e : TypeId} {k n : Nat} {v : Value} {xs : List Value} {b : Nat} (h : w.ownsRow B e k v n xs) (hb : v.ownBlock ≠ some b) (j : Nat) (u : Value) : (w.setCell ⟨b, j, none⟩ u).ownsRow B e k v n xs := by
  obtain ⟨h1, h2⟩ := h
  refine ⟨h1, ?_⟩
  rcases h2 with h2 | ⟨g, cap, cells, rfl, hg, hc, hrest⟩
  · exact Or.inl h2
  · exact Or.inr ⟨g, cap, cells, rfl, hg, (Below.heap_setCell _ _ _ _ (fun e => hb (by rw [e]; rfl))).trans hc, hrest⟩
/-- the blocks that hold no bytes, but for b, are as they were -/
def KeptT (b : Nat) (w w' : World) : Prop := ∀ (k : Nat) (cs : Array Value) (T : TypeId) (fr : Nat × Nat), w.heap[k]? = some (.cells cs T fr) → T ≠ 5 → k ≠ b → w'.heap[k]? = some (.cells cs T fr)
theorem KeptT.refl (b : Nat) (w : World) : KeptT b w w := fun _ _ _ _ h _ _ => h
theorem KeptT.trans {b : Nat} {w w1 w2 : World} (h1 : KeptT b w w1) (h2 : KeptT b w1 w2) : KeptT b w w2 := fun k cs T fr h hT hb => h2 k cs T fr (h1 k cs T fr h hT hb) hT hb
theorem KeptT.below {b : Nat} {w w' : World} (h : Below w.heap.size w w') : KeptT b w w' := fun k _cs _T _fr hk _ _ => (h.block k (lt_of_block hk)).trans hk
theorem KeptT.put {b j : Nat} {w w' : World} {u : Value} (h : KeptT b w w') : KeptT b w (w'.setCell ⟨b, j, none⟩ u) := fun k cs T fr hk hT hb => (Below.heap_setCell _ _ _ _ (fun e => hb e)).trans (h k cs T fr hk hT hb)
theorem KeptT.grown {b B n m : Nat} {w w1 w' : World} {v : Value} {xs : List Value} (h : KeptT b w w1) (hrow : w1.ownsRow B 5 m v n xs) (hg : w1.grownBy w' v.ownBlock) : KeptT b w w' := fun k cs T fr hk hT hb => by
  have h1 := h k cs T fr hk hT hb
  refine (hg.block k (lt_of_block h1) (fun e => ?_)).trans h1
  rcases hrow.2 with ⟨rfl, _⟩ | ⟨g, cap, cur, rfl, _, h2, _⟩
  · cases e
  · cases e
    rw [h2] at h1; cases h1; exact hT rfl
theorem noEscape_run (x : Value) (w : World) : (callFunc 99 #[x]).run Tryz.prog w = .ok (.value x) w := by kernel_rfl
set_option maxRecDepth 100000 in
theorem copyCheck_w (B b : Nat) (xs : List Value) (w : World) (h : Lib.IsBuilder 108 5 B b xs w) :
    Calls Tryz.prog 62 #[.pointer (some ⟨b, 0, none⟩)] w fun e w' => e = .returned (.tuple #[]) ∧ Lib.BuilderAt 108 5 B b (.pointer (some ⟨b, 0, none⟩)) xs w' ∧ Below B w w' ∧ KeptT b w w' := by
  rcases h with ⟨h1, v, h2, h3, h4⟩ | ⟨h1, v, h2, h3, h4⟩
  · have c0 := obj_cell h2 0
    have f0 := obj_free h2 0
    have k1 := conv_to w b _ _ h2
    have k2 := conv_from w b _ _ h2
    have k3 := noEscape_run (.pointer (some ⟨b, 0, none⟩)) w
    have H2 := Lib.hid h2; have H3 := Lib.hid h3
    clear h2 h3
    go_enter Tryz.func62, Tryz.ntmps62
    go_wp2_with fail
    go_end0
    exact ⟨rfl, ⟨h1, v, obj_setCell H2.out 0 _, ownsRow_other H3.out h4 0 _, h4⟩, (Below.refl B w).setCell (p := ⟨b, 0, none⟩) h1 _, (KeptT.refl b w).put⟩
  · have c0 := obj_cell h2 0
    have k3 := neq_same w b
    have H2 := Lib.hid h2; have H3 := Lib.hid h3
    clear h2 h3
    go_enter Tryz.func62, Tryz.ntmps62
    go_wp2_with fail
    go_end0
    exact ⟨rfl, ⟨h1, v, H2.out, H3.out, h4⟩, Below.refl _ _, KeptT.refl _ _⟩

theorem infoB8 : (Tryz.prog.info? 5).map (fun i => (i.zero, i.size, i.bytes)) = some (some (.int .u8 0), 1, 1) := by kernel_rfl
set_option maxRecDepth 100000 in
set_option maxHeartbeats 1600000 in
theorem writeW_any (B b : Nat) (l m : List UInt8) (w : World) (h : Lib.IsBuilder 108 5 B b (Lib.byteCells l) w) (hl : l.length + m.length ≤ 1000000) (hB : B ≤ w.heap.size) :
    Calls Tryz.prog 60 #[.pointer (some ⟨b, 0, none⟩), .string (bs m)] w fun e w' => e = .returned (.tuple #[.int .i64 m.length, .nilIface]) ∧ Lib.IsBuilder 108 5 B b (Lib.byteCells (l ++ m)) w' ∧ Below B w w' ∧ KeptT b w w' := by
  obtain ⟨i0, hi, hz0, hz1, hz2⟩ := info_parts infoB8
  have hlb : (Lib.byteCells l).length = l.length := Lib.byteCells_length l
  have hsm : (bs m).size = m.length := rfl
  go_enter Tryz.func60, Tryz.ntmps60
  go_wp2_with fail
  refine (copyCheck_w B b _ w h).mono ?_
  rintro e w1 ⟨rfl, ⟨h1, v, h2, h3, h4⟩, hb1, hk1⟩
  have c1 := obj_cell h2 1
  have hlt := lt_of_block h2
  go_wp2_with (at_builtin; refine Lib.wpList_append_own_string _ rfl _ _ 24 9 rfl B 5 i0 Tryz.underlying24 Tryz.underlying9 hi hz0 hz1 hz2 _ _ _ rfl h3 (bs m) rfl ?c3 ?c4 ?c5 ?_)
  case c3 => unfold maxLen; omega
  case c4 => omega
  case c5 => have := hb1.size; omega
  intro v' w2 hown' hgrow _
  have hb2 : w2.heap[b]? = some (.cells #[.pointer (some ⟨b, 0, none⟩), v] 108 (0, 0)) := (hgrow.block b hlt (fun e => h4 e.symm)).trans h2
  have d1 := obj_cell hb2 1
  have f1 := obj_free hb2 1
  have hb3 := (hb1.grown hgrow (by have := hb1.size; omega) (fun k hk => (h3.lt k hk).1)).setCell (p := ⟨b, 1, none⟩) h1 v'
  have hk3 : KeptT b w (w2.setCell ⟨b, 1, none⟩ v') := (hk1.grown h3 hgrow).put
  have hput := Lib.BuilderAt.put (T := 108) (e := 5) h1 hb2 (bs' := Lib.byteCells l ++ Lib.strCells (bs m)) (by rw [List.length_append, Lib.strCells_length, hlb, hsm]; exact hown') (by decide)
  have hcat : Lib.byteCells l ++ Lib.strCells (bs m) = Lib.byteCells (l ++ m) := (Lib.byteCells_append l m).symm
  rw [hcat] at hput
  obtain ⟨ao, n', cap, rfl⟩ : ∃ ao n' cap, v' = .slice ao n' cap := by
    rcases hown'.2 with ⟨hv, _⟩ | ⟨g, cap, cur, hv, _⟩
    · exact ⟨_, _, _, hv⟩
    · exact ⟨_, _, _, hv⟩
  have Hb3 := Lib.hid hb3; have Hput := Lib.hid hput; have Hk3 := Lib.hid hk3
  clear hb3 hput hk3 hk1 hcat hown' hgrow h3 c1
  go_wp2_with fail
  go_ret2
  exact ⟨rfl, Or.inr Hput.out, Hb3.out, Hk3.out⟩
end Go.Proofs.YtgohdcccfkjooaaGreatDoor

namespace Go.Proofs.YtgohdcccfkjooaaGreatDoor
open Go.RowKit

theorem isBuilderW_below {T e : TypeId} {B b : Nat} {xs : List Value} {w w' : World} (h : Lib.IsBuilder T e B b xs w) (hb : Below w.heap.size w w') : Lib.IsBuilder T e B b xs w' := by
  have one : ∀ {p : Value}, Lib.BuilderAt T e B b p xs w → Lib.BuilderAt T e B b p xs w' := by
    rintro p ⟨h1, v, h2, h3, h4⟩
    exact ⟨h1, v, (hb.block b (lt_of_block h2)).trans h2, ownsRow_below h3 hb, h4⟩
  exact h.imp one one
theorem joinW_any (ws : List (List UInt8)) (g off c : Nat) (w : World) (h : ∀ i x, ws[i]? = some x → w.cell? ⟨g, off + i, none⟩ = some (.string (bs x))) (hg : g < w.heap.size) (hc : ws.length ≤ c) (hn : ws.length ≤ 1000000) (hl : (joinS ws).length ≤ 1000000) :
    Calls Tryz.prog 31 #[.slice (some ⟨g, off, none⟩) ws.length c, .string { data := #[32] }] w (RetB w (.string (bs (joinS ws)))) := by
  have hmm : (ws.map bs).map (fun b => b.data.toList) = ws := by rw [List.map_map]; exact List.map_id'' (fun x => rfl) ws
  have hcells : ∀ (j : Nat) x, (ws.map bs)[j]? = some x → w.cell? ⟨g, off + j, none⟩ = some (.string x) := fun j x hx => by
    rw [List.getElem?_map] at hx
    cases hw : ws[j]? with
    | none => rw [hw] at hx; cases hx
    | some y => rw [hw] at hx; cases hx; exact h j y hw
  have key := Tryz.strings_Join g off c (ws.map bs) { data := #[32] } w hcells hg (by rw [List.length_map]; omega) (by rw [List.length_map]; omega) (by rw [hmm, joinS_eq]; omega)
  rw [List.length_map, hmm, joinS_eq] at key
  exact key.mono fun e w' h => h
set_option maxRecDepth 100000 in
set_option maxHeartbeats 1600000 in
theorem lineW_any (ws : List (List UInt8)) (g off c B b : Nat) (l : List UInt8) (w : World) (h : ∀ i x, ws[i]? = some x → w.cell? ⟨g, off + i, none⟩ = some (.string (bs x))) (hg : g < w.heap.size) (hc : ws.length ≤ c) (hn : ws.length ≤ 1000000) (hl : l.length + (lineS ws).length ≤ 1000000)
    (hb : Lib.IsBuilder 108 5 B b (Lib.byteCells l) w) (hB : B ≤ w.heap.size) :
    Calls Tryz.prog 41 #[.pointer (some ⟨b, 0, none⟩), .slice (some ⟨g, off, none⟩) ws.length c] w fun e w' => e = .returned (.tuple #[]) ∧ Lib.IsBuilder 108 5 B b (Lib.byteCells (l ++ lineS ws)) w' ∧ Below B w w' ∧ KeptT b w w' := by
  have hls : (lineS ws).length = (joinS ws).length + 1 := by unfold lineS; simp
  have hdr : Below w.heap.size w w.drew := ⟨rfl, rfl, rfl, Nat.le_refl _, fun _ _ => rfl⟩
  go_enter Tryz.func41, Tryz.ntmps41
  refine wp_region_eager 6 [(0, true), (1, true), (2, true), (3, true), (4, false), (5, true)] (by kernel_rfl) (by kernel_rfl) ?_
  iterate 4
    refine wpOrd_yield (v := ?_) rfl (fun _ _ _ h => h) (by rfl) ?_ ?_
    rotate_left
    · intro x hx
      go_simp
      with_reducible rfl
    try simp only [Act.put, List.setIfInBounds_toArray, List.set_cons_zero, List.set_cons_succ]
  refine wpOrd_step rfl rfl (fun KK hKK => ?_)
  go_simp
  refine (joinW_any ws g off c w.drew (fun i x hx => h i x hx) hg hc hn (by omega)).mono ?_
  rintro e w2 ⟨rfl, hb2⟩
  refine hKK _ _ hb2 ?_
  clear hKK KK
  try simp only [Act.put, List.setIfInBounds_toArray, List.set_cons_zero, List.set_cons_succ]
  have hb2' : Below w.heap.size w w2 := hdr.trans hb2
  have hcat : bs (joinS ws) ++ ({ data := #[10] } : ByteArray) = bs (lineS ws) := bs_append _ [10]
  have hj : (joinS ws).length ≤ 1000000 := by omega
  have hB2 := isBuilderW_below hb hb2'
  have hsz := hb2'.size
  have Hl := Lib.hid hl; have Hls := Lib.hid hls
  clear hl hls h hb
  generalize hJ : joinS ws = J at *
  generalize hS : lineS ws = S at *
  clear hJ hS
  have hnb : ¬ 9223372036854775807 < J.length + 1 := by omega
  refine wpOrd_yield (v := ?_) rfl (fun _ _ _ h => h) (by rfl) ?_ ?_
  rotate_left
  · intro x hx
    go_simp
    try rw [if_neg hnb]
    with_reducible rfl
  try simp only [Act.put, List.setIfInBounds_toArray, List.set_cons_zero, List.set_cons_succ]
  refine wpOrd_nil rfl ?_
  go_wp2_with fail
  refine (writeW_any B b l S w2 hB2 Hl.out (by omega)).mono ?_
  rintro e w3 ⟨rfl, h3, h4, h5⟩
  have H3 := Lib.hid h3; have H4 := Lib.hid h4; have H5 := Lib.hid h5; have Hb2 := Lib.hid hb2'
  clear h3 h4 h5 hb2' hb2 hB2
  go_wp2_with fail
  go_end0
  exact ⟨rfl, H3.out, (Hb2.out.mono hB).trans H4.out, (KeptT.below Hb2.out).trans H5.out⟩
end Go.Proofs.YtgohdcccfkjooaaGreatDoor

namespace Go.Proofs.YtgohdcccfkjooaaGreatDoor
open Go.RowKit

set_option maxRecDepth 100000 in
set_option maxHeartbeats 1600000 in
theorem stringW_any (B b : Nat) (l : List UInt8) (w : World) (h : Lib.IsBuilder 108 5 B b (Lib.byteCells l) w) (h0 : l ≠ []) :
    Calls Tryz.prog 30 #[.pointer (some ⟨b, 0, none⟩)] w fun e w' => e = .returned (.string (bs l)) ∧ Below B w w' := by
  obtain ⟨p, hB, v, hbk, hown, hne⟩ : ∃ p, Lib.BuilderAt 108 5 B b p (Lib.byteCells l) w := by
    rcases h with h | h
    · exact ⟨_, h⟩
    · exact ⟨_, h⟩
  have hl0 : l.length ≠ 0 := by simpa using h0
  rw [Lib.byteCells_length] at hown
  obtain ⟨g, cap, cur, rfl, hbg, hg, hnc, hcm, hcs, htake⟩ : ∃ g cap cur, v = .slice (some ⟨g, 0, none⟩) l.length cap ∧ B ≤ g ∧ w.heap[g]? = some (.cells cur 5 (0, 0)) ∧ l.length ≤ cap ∧ cap ≤ maxLen ∧ cur.size = cap * 1 ∧ cur.toList.take (l.length * 1) = Lib.byteCells l := by
    rcases hown.2 with ⟨_, hz⟩ | ⟨g, cap, cur, hv, r⟩
    · exact absurd hz hl0
    · exact ⟨g, cap, cur, hv, r⟩
  have c1 : w.drew.cell? ⟨b, 1, none⟩ = some (.slice (some ⟨g, 0, none⟩) l.length cap) := by
    have hq : w.drew.heap[b]? = some (.cells #[p, .slice (some ⟨g, 0, none⟩) l.length cap] 108 (0, 0)) := hbk
    exact obj_cell hq 1
  have hSD : (Builtin.unsafeSliceData_ #[24] 146 #[.slice (some ⟨g, 0, none⟩) l.length cap]).run Tryz.prog w.drew = .ok (.pointer (some ⟨g, 0, none⟩)) w.drew :=
    Lib.run_unsafeSliceData_row _ _ _ _ _ _ (by omega)
  have hUS : (Builtin.unsafeString_ #[146, 3] 9 #[.pointer (some ⟨g, 0, none⟩), .int .i64 l.length]).run Tryz.prog w.drew = .ok (.string (bs l)) (w.drew.freeze ⟨g, 0, none⟩ l.length) := by
    refine Lib.run_unsafeString_row w.drew 146 3 9 5 Tryz.underlying146 (by kernel_rfl) g cur.size (by have hg' : w.drew.heap[g]? = some (.cells cur 5 (0, 0)) := hg; simp [World.shape?, hg']) l h0 (by omega) (by unfold maxLen at hcm; omega) ?_
    intro j x hx
    exact hown.cells (g := g) rfl j (.int .u8 x.toNat) (by simp [Lib.byteCells, hx])
  have mixed : Tryz.prog.follows .mixedOrders = true := by kernel_rfl
  go_enter Tryz.func30, Tryz.ntmps30
  go_wp2
  go_region_o
  all_goals (go_wp2; go_ret; exact ⟨rfl, Lib.below_freeze (Below.drew (Below.refl B w)) (p := ⟨g, 0, none⟩) hbg _⟩)
end Go.Proofs.YtgohdcccfkjooaaGreatDoor

namespace Go.Proofs.YtgohdcccfkjooaaGreatDoor
open Go.RowKit

/-- the blocks that are not written any more -/
def Fz (B : Nat) (D : Nat → Prop) (W : World) : Nat → Prop := fun b => B ≤ b ∧ b < W.heap.size ∧ ¬ D b
/-- a row of records of ints, of the reader's own -/
structure OwnI (B : Nat) (D : Nat → Prop) (W : World) (T : TypeId) (k : Nat) (p : Ptr) (zs : List Int) : Prop where
  row : W.ownsRow B T k p.v p.n (zs.map (Value.int .i64))
  inD : ∀ b, p.v.ownBlock = some b → D b
  pos : p.n = 0 → p.a = none
def FzI (B : Nat) (D : Nat → Prop) (W : World) (k : Nat) (p : Ptr) (zs : List Int) : Prop := IRp (Fz B D W) W k p.a p.n p.c zs ∧ (p.a = none → p.c = 0)
theorem ownBlock_lt {W : World} {B k n : Nat} {T : TypeId} {v : Value} {xs : List Value} (h : W.ownsRow B T k v n xs) {b : Nat} (hb : v.ownBlock = some b) : B ≤ b ∧ b < W.heap.size := h.lt b hb
theorem ownsRow_keep {W W' : World} {B k n : Nat} {T : TypeId} {v : Value} {xs : List Value} (h : W.ownsRow B T k v n xs) (hk : ∀ b, v.ownBlock = some b → W'.heap[b]? = W.heap[b]?) : W'.ownsRow B T k v n xs := by
  obtain ⟨l, r⟩ := h
  refine ⟨l, r.imp id ?_⟩
  rintro ⟨g, cap, cur, e, q1, q2, q3⟩
  exact ⟨g, cap, cur, e, q1, (hk g (by rw [e]; rfl)).trans q2, q3⟩
theorem rown_irp {W : World} {B k n : Nat} {T : TypeId} {a : Option Addr} {m c : Nat} {zs : List Int} (h : W.ownsRow B T k (.slice a m c) n (zs.map (Value.int .i64))) (S : Nat → Prop) (hS : ∀ b, (Value.slice a m c).ownBlock = some b → S b) : m = n ∧ IRp S W k a m c zs ∧ (a = none → c = 0) := by
  have hl := h.1
  rw [List.length_map] at hl
  rcases (owns_cells h).2 with ⟨e, h0⟩ | ⟨g, cap, e, hg, hcap, hcells⟩
  · cases e
    subst h0
    exact ⟨rfl, ⟨by rw [hl], Nat.le_refl _, fun h => absurd h (by omega)⟩, fun _ => rfl⟩
  · cases e
    refine ⟨rfl, ⟨hl, hcap, fun _ => ⟨g, 0, rfl, hS g rfl, fun j hj => ?_⟩⟩, fun e => by cases e⟩
    rw [Nat.zero_add, hcells.cell (j := j) (by rw [List.length_map]; omega)]
    simp [List.getD_eq_getElem?_getD, List.getElem?_eq_getElem (show j < zs.length by omega)]
theorem OwnI.irp {B : Nat} {D : Nat → Prop} {W : World} {T : TypeId} {k : Nat} {p : Ptr} {zs : List Int} (h : OwnI B D W T k p zs) (S : Nat → Prop) (hS : ∀ b, p.v.ownBlock = some b → S b) : IRp S W k p.a p.n p.c zs ∧ (p.a = none → p.c = 0) := (rown_irp h.row S hS).2
theorem OwnI.nil (B : Nat) (D : Nat → Prop) (W : World) (T : TypeId) (k : Nat) : OwnI B D W T k ptr0 [] := ⟨World.ownsRow_nil _ _ _ _, (fun b e => by cases e), fun _ => rfl⟩
theorem OwnI.keep {B : Nat} {D D' : Nat → Prop} {W W' : World} {T : TypeId} {k : Nat} {p : Ptr} {zs : List Int} (h : OwnI B D W T k p zs) (hk : ∀ b, p.v.ownBlock = some b → W'.heap[b]? = W.heap[b]?) (hD : ∀ b, p.v.ownBlock = some b → D' b) : OwnI B D' W' T k p zs :=
  ⟨ownsRow_keep h.row hk, hD, h.pos⟩
theorem FzI.move {B : Nat} {D D' : Nat → Prop} {W W' : World} {k : Nat} {p : Ptr} {zs : List Int} (h : FzI B D W k p zs) (hk : KeptOn (Fz B D W) W W') (hs : ∀ b, Fz B D W b → Fz B D' W' b) : FzI B D' W' k p zs :=
  ⟨h.1.kept hk hs, h.2⟩
theorem OwnI.freeze {B : Nat} {D D' : Nat → Prop} {W W' : World} {T : TypeId} {k : Nat} {p : Ptr} {zs : List Int} (h : OwnI B D W T k p zs) (hk : ∀ b, p.v.ownBlock = some b → W'.heap[b]? = W.heap[b]? ∧ Fz B D' W' b) : FzI B D' W' k p zs :=
  OwnI.irp (h.keep (D' := D) (fun b hb => (hk b hb).1) h.inD) _ (fun b hb => (hk b hb).2)

/-! ### the state of a list of records of ints: not begun, being read, read -/
def ListSt (i at_ : Int) (B : Nat) (D : Nat → Prop) (W : World) (T : TypeId) (k c : Nat) (p : Ptr) (zs : List Int) : Prop :=
  p.n ≤ c ∧ ((at_ < i ∧ p = ptr0 ∧ zs = []) ∨ (at_ = i ∧ OwnI B D W T k p zs) ∨ (i < at_ ∧ FzI B D W k p zs))
theorem ListSt.keep {i at_ : Int} {B : Nat} {D : Nat → Prop} {W W' : World} {T : TypeId} {k c : Nat} {p : Ptr} {zs : List Int} (h : ListSt i at_ B D W T k c p zs) (hk : ∀ b, B ≤ b → b < W.heap.size → W'.heap[b]? = W.heap[b]?) (hs : W.heap.size ≤ W'.heap.size) : ListSt i at_ B D W' T k c p zs := by
  refine ⟨h.1, h.2.imp id (Or.imp (And.imp id fun h => ?_) (And.imp id fun h => ?_))⟩
  · exact h.keep (fun b hb => hk b (ownBlock_lt h.row hb).1 (ownBlock_lt h.row hb).2) h.inD
  · exact h.move (fun b hb => hk b hb.1 hb.2.1) (fun b hb => ⟨hb.1, Nat.lt_of_lt_of_le hb.2.1 hs, hb.2.2⟩)
/-- before the list is begun, or while it is read, it is the reader's own -/
theorem ListSt.own {i at_ : Int} {B : Nat} {D : Nat → Prop} {W : World} {T : TypeId} {k c : Nat} {p : Ptr} {zs : List Int} (h : ListSt i at_ B D W T k c p zs) (hat : at_ ≤ i) : OwnI B D W T k p zs := by
  rcases h.2 with ⟨_, rfl, rfl⟩ | ⟨_, h⟩ | ⟨h, _⟩
  · exact OwnI.nil _ _ _ _ _
  · exact h
  · omega
/-- a list that is behind the new line's kind -/
theorem ListSt.close {i at_ at' : Int} {B : Nat} {D D' : Nat → Prop} {W W' : World} {T : TypeId} {k c c' : Nat} {p : Ptr} {zs : List Int} (h : ListSt i at_ B D W T k c p zs) (hat : i < at') (hc : c ≤ c')
    (hk : KeptOn (Fz B D W) W W') (hs : ∀ b, Fz B D W b → Fz B D' W' b) (ho : at_ = i → ∀ b, p.v.ownBlock = some b → W'.heap[b]? = W.heap[b]? ∧ Fz B D' W' b) : ListSt i at' B D' W' T k c' p zs := by
  refine ⟨Nat.le_trans h.1 hc, Or.inr (Or.inr ⟨hat, ?_⟩)⟩
  rcases h.2 with ⟨_, rfl, rfl⟩ | ⟨e, h⟩ | ⟨_, h⟩
  · exact ⟨IRp.nil _ _ _ _ _, fun _ => rfl⟩
  · exact h.freeze (ho e)
  · exact h.move hk hs
/-- a list ahead of the new line's kind -/
theorem ListSt.wait {i at_ at' : Int} {B : Nat} {D D' : Nat → Prop} {W W' : World} {T : TypeId} {k c c' : Nat} {p : Ptr} {zs : List Int} (h : ListSt i at_ B D W T k c p zs) (hat : at_ < i) (hat' : at' < i) (hc : c ≤ c') : ListSt i at' B D' W' T k c' p zs := by
  refine ⟨Nat.le_trans h.1 hc, Or.inl ⟨hat', ?_⟩⟩
  rcases h.2 with ⟨_, h⟩ | ⟨e, _⟩ | ⟨e, _⟩
  · exact h
  · omega
  · omega
theorem ListSt.irp {i at_ : Int} {B : Nat} {D : Nat → Prop} {W : World} {T : TypeId} {k c : Nat} {p : Ptr} {zs : List Int} (h : ListSt i at_ B D W T k c p zs) : IRp (fun b => B ≤ b ∧ b < W.heap.size) W k p.a p.n p.c zs ∧ (p.a = none → p.c = 0) := by
  rcases h.2 with ⟨_, rfl, rfl⟩ | ⟨e, h⟩ | ⟨_, h⟩
  · exact ⟨IRp.nil _ _ _ _ _, fun _ => rfl⟩
  · exact h.irp _ (fun b hb => ownBlock_lt h.row hb)
  · exact ⟨h.1.kept (KeptOn.refl _ _) (fun b hb => ⟨hb.1, hb.2.1⟩), h.2⟩

/-! ### the state of the surfaces -/
structure OwnS (B : Nat) (D : Nat → Prop) (W : World) (c : Nat) (p : Ptr) (m : Value) (l : List SurfC) (seen : List (List UInt8)) (l0 : List SurfC) (y : SurfC) (css : List (List Value)) (q : Ptr) (bb cap bm : Nat) : Prop where
  el : l = l0 ++ [y]
  ep : p = ⟨some ⟨bb, 0, none⟩, l0.length + 1, cap⟩
  ecss : css.length = l0.length
  k : ∀ cs ∈ css, cs.length = 22
  row : W.ownsRow B 70 22 (.slice (some ⟨bb, 0, none⟩) (l0.length + 1) cap) (l0.length + 1) (css.flatten ++ cells22 y.s q.a q.n q.c)
  coat : OwnI B D W 67 3 q y.zs
  qn : q.n ≤ c
  rep : ∀ (i : Nat) (x : SurfC) (cs : List Value), l0[i]? = some x → css[i]? = some cs → SurfR (Fz B D W) W x cs
  dbb : D bb
  glass : y.s.glass.size ≤ 1000000
  em : m = .map (some bm)
  map : MapOf W bm (seen.map bs)
  dbm : D bm
  bmB : B ≤ bm
theorem MapOf.lt {W : World} {b : Nat} {ks : List ByteArray} (h : MapOf W b ks) : b < W.heap.size := by
  obtain ⟨es, clock, h1, _⟩ := h; exact lt_of_block h1
theorem OwnS.bbB {B : Nat} {D : Nat → Prop} {W : World} {c : Nat} {p : Ptr} {m : Value} {l : List SurfC} {seen : List (List UInt8)} {l0 : List SurfC} {y : SurfC} {css : List (List Value)} {q : Ptr} {bb cap bm : Nat} (h : OwnS B D W c p m l seen l0 y css q bb cap bm) : B ≤ bb ∧ bb < W.heap.size := ownBlock_lt h.row rfl
theorem OwnS.keep {B : Nat} {D : Nat → Prop} {W W' : World} {c : Nat} {p : Ptr} {m : Value} {l : List SurfC} {seen : List (List UInt8)} {l0 : List SurfC} {y : SurfC} {css : List (List Value)} {q : Ptr} {bb cap bm : Nat} (h : OwnS B D W c p m l seen l0 y css q bb cap bm) (hk : ∀ b, B ≤ b → b < W.heap.size → W'.heap[b]? = W.heap[b]?) (hs : W.heap.size ≤ W'.heap.size) : OwnS B D W' c p m l seen l0 y css q bb cap bm :=
  ⟨h.el, h.ep, h.ecss, h.k, ownsRow_keep h.row (fun b hb => hk b (ownBlock_lt h.row hb).1 (ownBlock_lt h.row hb).2), h.coat.keep (fun b hb => hk b (ownBlock_lt h.coat.row hb).1 (ownBlock_lt h.coat.row hb).2) h.coat.inD, h.qn,
    fun i x cs h1 h2 => surfOk.kept (h.rep i x cs h1 h2) (fun b hb => hk b hb.1 hb.2.1) (fun _b hb => ⟨hb.1, Nat.lt_of_lt_of_le hb.2.1 hs, hb.2.2⟩), h.dbb, h.glass, h.em, h.map.block (hk bm h.bmB h.map.lt), h.dbm, h.bmB⟩
/-- all of them read -/
theorem own_rr {W : World} {B k n : Nat} {T : TypeId} {α : Type} {R : Rep α} (_ok : RepOk k R) {bb cap : Nat} {css : List (List Value)} {l : List α} (h : W.ownsRow B T k (.slice (some ⟨bb, 0, none⟩) n cap) n css.flatten) (hn : l.length = n) (hc : ∀ cs ∈ css, cs.length = k) (hl : css.length = l.length) {S : Nat → Prop} (hbb : S bb)
    (hr : ∀ (i : Nat) (x : α) (cs : List Value), l[i]? = some x → css[i]? = some cs → R S W x cs) : RR R k S W (some ⟨bb, 0, none⟩) n cap l := by
  rcases h.2 with ⟨e, _⟩ | ⟨g, cap', cur, e, q1, q2, q3, q4, q5, q6⟩
  · cases e
  · cases e
    refine ⟨hn, q3, fun h0 => ⟨bb, 0, rfl, hbb, fun i x hx => ?_⟩⟩
    have hi := (List.getElem?_eq_some_iff.1 hx).1
    have hci : css[i]? = some css[i] := List.getElem?_eq_getElem (by omega)
    refine ⟨css[i], hr i x _ hx hci, fun j v hv => ?_⟩
    have hj : j < k := by
      have := (List.getElem?_eq_some_iff.1 hv).1
      rw [hc css[i] (List.getElem_mem _)] at this; exact this
    have hc2 := h.cells (g := bb) rfl (i * k + j) v (by rw [flatten_at css i _ j hc hci hj]; exact hv)
    rw [Addr.add_mid, ← Nat.add_assoc] at hc2
    exact hc2
theorem OwnS.last {B : Nat} {D : Nat → Prop} {W : World} {c : Nat} {p : Ptr} {m : Value} {l : List SurfC} {seen : List (List UInt8)} {l0 : List SurfC} {y : SurfC} {css : List (List Value)} {q : Ptr} {bb cap bm : Nat} (h : OwnS B D W c p m l seen l0 y css q bb cap bm) {S : Nat → Prop} (hS : ∀ b, q.v.ownBlock = some b → S b) (hc : c ≤ 1000000) : SurfR S W y (cells22 y.s q.a q.n q.c) := by
  obtain ⟨h1, h2⟩ := h.coat.irp S hS
  exact ⟨q.a, q.n, q.c, rfl, h1, by have := h.qn; omega, h2, by have := h.glass; omega⟩
/-- .. as any list, its blocks in S -/
theorem OwnS.rr {B : Nat} {D : Nat → Prop} {W : World} {c : Nat} {p : Ptr} {m : Value} {l : List SurfC} {seen : List (List UInt8)} {l0 : List SurfC} {y : SurfC} {css : List (List Value)} {q : Ptr} {bb cap bm : Nat} (h : OwnS B D W c p m l seen l0 y css q bb cap bm) {S : Nat → Prop} (h1 : ∀ b, Fz B D W b → S b) (h2 : S bb) (h3 : ∀ b, q.v.ownBlock = some b → S b) (hc : c ≤ 1000000) : RR SurfR 22 S W p.a p.n p.c l := by
  have hl := h.ecss
  rw [h.ep, h.el]
  refine own_rr (css := css ++ [cells22 y.s q.a q.n q.c]) surfOk (by simpa using h.row) (by simp) (fun cs hcs => ?_) (by simp [hl]) h2 (fun i x cs hx hcs => ?_)
  · rcases List.mem_append.1 hcs with hcs | hcs
    · exact h.k cs hcs
    · simp only [List.mem_singleton] at hcs; subst hcs; rfl
  · by_cases hi : i < l0.length
    · rw [List.getElem?_append_left hi] at hx
      rw [List.getElem?_append_left (by omega)] at hcs
      exact surfOk.kept (h.rep i x cs hx hcs) (KeptOn.refl _ _) h1
    · have hi2 : i = l0.length := by
        have := (List.getElem?_eq_some_iff.1 hx).1
        simp at this; omega
      subst hi2
      simp only [List.getElem?_concat_length, Option.some.injEq] at hx
      rw [← hl] at hcs
      simp only [List.getElem?_concat_length, Option.some.injEq] at hcs
      subst hx; subst hcs
      exact h.last h3 hc
def SurfSt (at_ : Int) (B : Nat) (D : Nat → Prop) (W : World) (c : Nat) (p : Ptr) (m : Value) (l : List SurfC) (seen : List (List UInt8)) : Prop :=
  p.n ≤ c ∧ ((at_ < 7 ∧ p = ptr0 ∧ l = []) ∨ (at_ = 7 ∧ ∃ l0 y css q bb cap bm, OwnS B D W c p m l seen l0 y css q bb cap bm) ∨ (7 < at_ ∧ RR SurfR 22 (Fz B D W) W p.a p.n p.c l))
theorem SurfSt.keep {at_ : Int} {B : Nat} {D : Nat → Prop} {W W' : World} {c : Nat} {p : Ptr} {m : Value} {l : List SurfC} {seen : List (List UInt8)} (h : SurfSt at_ B D W c p m l seen) (hk : ∀ b, B ≤ b → b < W.heap.size → W'.heap[b]? = W.heap[b]?) (hs : W.heap.size ≤ W'.heap.size) : SurfSt at_ B D W' c p m l seen := by
  refine ⟨h.1, h.2.imp id (Or.imp (And.imp id fun h => ?_) (And.imp id fun h => ?_))⟩
  · obtain ⟨l0, y, css, q, bb, cap, bm, h⟩ := h
    exact ⟨l0, y, css, q, bb, cap, bm, h.keep hk hs⟩
  · exact h.kept surfOk (fun b hb => hk b hb.1 hb.2.1) (fun b hb => ⟨hb.1, Nat.lt_of_lt_of_le hb.2.1 hs, hb.2.2⟩)
theorem SurfSt.wait {at_ at' : Int} {B : Nat} {D D' : Nat → Prop} {W W' : World} {c c' : Nat} {p : Ptr} {m m' : Value} {l : List SurfC} {seen seen' : List (List UInt8)} (h : SurfSt at_ B D W c p m l seen) (hat : at_ < 7) (hat' : at' < 7) (hc : c ≤ c') : SurfSt at' B D' W' c' p m' l seen' := by
  refine ⟨Nat.le_trans h.1 hc, Or.inl ⟨hat', ?_⟩⟩
  rcases h.2 with ⟨_, h⟩ | ⟨e, _⟩ | ⟨e, _⟩
  · exact h
  · omega
  · omega
theorem SurfSt.close {at_ at' : Int} {B : Nat} {D D' : Nat → Prop} {W W' : World} {c c' : Nat} {p : Ptr} {m m' : Value} {l : List SurfC} {seen seen' : List (List UInt8)} (h : SurfSt at_ B D W c p m l seen) (hat : 7 < at') (hc : c ≤ c') (hc1 : c ≤ 1000000)
    (hk : KeptOn (Fz B D W) W W') (hs : ∀ b, Fz B D W b → Fz B D' W' b) (ho : at_ = 7 → ∀ b, B ≤ b → b < W.heap.size → W'.heap[b]? = W.heap[b]? ∧ Fz B D' W' b) : SurfSt at' B D' W' c' p m' l seen' := by
  refine ⟨Nat.le_trans h.1 hc, Or.inr (Or.inr ⟨hat, ?_⟩)⟩
  rcases h.2 with ⟨_, rfl, rfl⟩ | ⟨e, l0, y, css, q, bb, cap, bm, h⟩ | ⟨_, h⟩
  · exact RR.nil _ _ _ _ _ _
  · exact (h.rr (S := fun b => B ≤ b ∧ b < W.heap.size) (fun b hb => ⟨hb.1, hb.2.1⟩) h.bbB (fun b hb => ownBlock_lt h.coat.row hb) hc1).kept surfOk (fun b hb => (ho e b hb.1 hb.2).1) (fun b hb => (ho e b hb.1 hb.2).2)
  · exact h.kept surfOk hk hs
theorem SurfSt.rr {at_ : Int} {B : Nat} {D : Nat → Prop} {W : World} {c : Nat} {p : Ptr} {m : Value} {l : List SurfC} {seen : List (List UInt8)} (h : SurfSt at_ B D W c p m l seen) (hc1 : c ≤ 1000000) : RR SurfR 22 (fun b => B ≤ b ∧ b < W.heap.size) W p.a p.n p.c l := by
  rcases h.2 with ⟨_, rfl, rfl⟩ | ⟨e, l0, y, css, q, bb, cap, bm, h⟩ | ⟨_, h⟩
  · exact RR.nil _ _ _ _ _ _
  · exact h.rr (fun b hb => ⟨hb.1, hb.2.1⟩) h.bbB (fun b hb => ownBlock_lt h.coat.row hb) hc1
  · exact h.kept surfOk (KeptOn.refl _ _) (fun b hb => ⟨hb.1, hb.2.1⟩)

/-! ### the state of the configurations -/
structure OwnC (B : Nat) (D : Nat → Prop) (W : World) (c : Nat) (p : Ptr) (l : List ConfC) (l0 : List ConfC) (y : ConfC) (css : List (List Value)) (q : Ptr) (bb cap : Nat) : Prop where
  el : l = l0 ++ [y]
  ep : p = ⟨some ⟨bb, 0, none⟩, l0.length + 1, cap⟩
  ecss : css.length = l0.length
  k : ∀ cs ∈ css, cs.length = 2
  row : W.ownsRow B 75 2 (.slice (some ⟨bb, 0, none⟩) (l0.length + 1) cap) (l0.length + 1) (css.flatten ++ [.string y.nm, .slice q.a q.n q.c])
  coat : OwnI B D W 72 3 q y.zs
  qn : q.n ≤ c
  rep : ∀ (i : Nat) (x : ConfC) (cs : List Value), l0[i]? = some x → css[i]? = some cs → ConfR (Fz B D W) W x cs
  dbb : D bb
  nm : y.nm.size ≤ 1000000
theorem OwnC.bbB {B : Nat} {D : Nat → Prop} {W : World} {c : Nat} {p : Ptr} {l l0 : List ConfC} {y : ConfC} {css : List (List Value)} {q : Ptr} {bb cap : Nat} (h : OwnC B D W c p l l0 y css q bb cap) : B ≤ bb ∧ bb < W.heap.size := ownBlock_lt h.row rfl
theorem OwnC.keep {B : Nat} {D : Nat → Prop} {W W' : World} {c : Nat} {p : Ptr} {l l0 : List ConfC} {y : ConfC} {css : List (List Value)} {q : Ptr} {bb cap : Nat} (h : OwnC B D W c p l l0 y css q bb cap) (hk : ∀ b, B ≤ b → b < W.heap.size → W'.heap[b]? = W.heap[b]?) (hs : W.heap.size ≤ W'.heap.size) : OwnC B D W' c p l l0 y css q bb cap :=
  ⟨h.el, h.ep, h.ecss, h.k, ownsRow_keep h.row (fun b hb => hk b (ownBlock_lt h.row hb).1 (ownBlock_lt h.row hb).2), h.coat.keep (fun b hb => hk b (ownBlock_lt h.coat.row hb).1 (ownBlock_lt h.coat.row hb).2) h.coat.inD, h.qn,
    fun i x cs h1 h2 => confOk.kept (h.rep i x cs h1 h2) (fun b hb => hk b hb.1 hb.2.1) (fun _b hb => ⟨hb.1, Nat.lt_of_lt_of_le hb.2.1 hs, hb.2.2⟩), h.dbb, h.nm⟩
theorem OwnC.last {B : Nat} {D : Nat → Prop} {W : World} {c : Nat} {p : Ptr} {l l0 : List ConfC} {y : ConfC} {css : List (List Value)} {q : Ptr} {bb cap : Nat} (h : OwnC B D W c p l l0 y css q bb cap) {S : Nat → Prop} (hS : ∀ b, q.v.ownBlock = some b → S b) (hc : c ≤ 1000000) : ConfR S W y [.string y.nm, .slice q.a q.n q.c] := by
  obtain ⟨h1, h2⟩ := h.coat.irp S hS
  exact ⟨q.a, q.n, q.c, rfl, h1, by have := h.qn; omega, h2, by have := h.nm; omega⟩
theorem OwnC.rr {B : Nat} {D : Nat → Prop} {W : World} {c : Nat} {p : Ptr} {l l0 : List ConfC} {y : ConfC} {css : List (List Value)} {q : Ptr} {bb cap : Nat} (h : OwnC B D W c p l l0 y css q bb cap) {S : Nat → Prop} (h1 : ∀ b, Fz B D W b → S b) (h2 : S bb) (h3 : ∀ b, q.v.ownBlock = some b → S b) (hc : c ≤ 1000000) : RR ConfR 2 S W p.a p.n p.c l := by
  have hl := h.ecss
  rw [h.ep, h.el]
  refine own_rr (css := css ++ [[.string y.nm, .slice q.a q.n q.c]]) confOk (by simpa using h.row) (by simp) (fun cs hcs => ?_) (by simp [hl]) h2 (fun i x cs hx hcs => ?_)
  · rcases List.mem_append.1 hcs with hcs | hcs
    · exact h.k cs hcs
    · simp only [List.mem_singleton] at hcs; subst hcs; rfl
  · by_cases hi : i < l0.length
    · rw [List.getElem?_append_left hi] at hx
      rw [List.getElem?_append_left (by omega)] at hcs
      exact confOk.kept (h.rep i x cs hx hcs) (KeptOn.refl _ _) h1
    · have hi2 : i = l0.length := by
        have := (List.getElem?_eq_some_iff.1 hx).1
        simp at this; omega
      subst hi2
      simp only [List.getElem?_concat_length, Option.some.injEq] at hx
      rw [← hl] at hcs
      simp only [List.getElem?_concat_length, Option.some.injEq] at hcs
      subst hx; subst hcs
      exact h.last h3 hc
def ConfSt (at_ : Int) (B : Nat) (D : Nat → Prop) (W : World) (c : Nat) (p : Ptr) (l : List ConfC) : Prop :=
  p.n ≤ c ∧ ((at_ < 8 ∧ p = ptr0 ∧ l = []) ∨ (at_ = 8 ∧ ∃ l0 y css q bb cap, OwnC B D W c p l l0 y css q bb cap) ∨ (8 < at_ ∧ RR ConfR 2 (Fz B D W) W p.a p.n p.c l))
theorem ConfSt.keep {at_ : Int} {B : Nat} {D : Nat → Prop} {W W' : World} {c : Nat} {p : Ptr} {l : List ConfC} (h : ConfSt at_ B D W c p l) (hk : ∀ b, B ≤ b → b < W.heap.size → W'.heap[b]? = W.heap[b]?) (hs : W.heap.size ≤ W'.heap.size) : ConfSt at_ B D W' c p l := by
  refine ⟨h.1, h.2.imp id (Or.imp (And.imp id fun h => ?_) (And.imp id fun h => ?_))⟩
  · obtain ⟨l0, y, css, q, bb, cap, h⟩ := h
    exact ⟨l0, y, css, q, bb, cap, h.keep hk hs⟩
  · exact h.kept confOk (fun b hb => hk b hb.1 hb.2.1) (fun b hb => ⟨hb.1, Nat.lt_of_lt_of_le hb.2.1 hs, hb.2.2⟩)
theorem ConfSt.wait {at_ at' : Int} {B : Nat} {D D' : Nat → Prop} {W W' : World} {c c' : Nat} {p : Ptr} {l : List ConfC} (h : ConfSt at_ B D W c p l) (hat : at_ < 8) (hat' : at' < 8) (hc : c ≤ c') : ConfSt at' B D' W' c' p l := by
  refine ⟨Nat.le_trans h.1 hc, Or.inl ⟨hat', ?_⟩⟩
  rcases h.2 with ⟨_, h⟩ | ⟨e, _⟩ | ⟨e, _⟩
  · exact h
  · omega
  · omega
theorem ConfSt.close {at_ at' : Int} {B : Nat} {D D' : Nat → Prop} {W W' : World} {c c' : Nat} {p : Ptr} {l : List ConfC} (h : ConfSt at_ B D W c p l) (hat : 8 < at') (hc : c ≤ c') (hc1 : c ≤ 1000000)
    (hk : KeptOn (Fz B D W) W W') (hs : ∀ b, Fz B D W b → Fz B D' W' b) (ho : at_ = 8 → ∀ b, B ≤ b → b < W.heap.size → W'.heap[b]? = W.heap[b]? ∧ Fz B D' W' b) : ConfSt at' B D' W' c' p l := by
  refine ⟨Nat.le_trans h.1 hc, Or.inr (Or.inr ⟨hat, ?_⟩)⟩
  rcases h.2 with ⟨_, rfl, rfl⟩ | ⟨e, l0, y, css, q, bb, cap, h⟩ | ⟨_, h⟩
  · exact RR.nil _ _ _ _ _ _
  · exact (h.rr (S := fun b => B ≤ b ∧ b < W.heap.size) (fun b hb => ⟨hb.1, hb.2.1⟩) h.bbB (fun b hb => ownBlock_lt h.coat.row hb) hc1).kept confOk (fun b hb => (ho e b hb.1 hb.2).1) (fun b hb => (ho e b hb.1 hb.2).2)
  · exact h.kept confOk hk hs
theorem ConfSt.rr {at_ : Int} {B : Nat} {D : Nat → Prop} {W : World} {c : Nat} {p : Ptr} {l : List ConfC} (h : ConfSt at_ B D W c p l) (hc1 : c ≤ 1000000) : RR ConfR 2 (fun b => B ≤ b ∧ b < W.heap.size) W p.a p.n p.c l := by
  rcases h.2 with ⟨_, rfl, rfl⟩ | ⟨e, l0, y, css, q, bb, cap, h⟩ | ⟨_, h⟩
  · exact RR.nil _ _ _ _ _ _
  · exact h.rr (fun b hb => ⟨hb.1, hb.2.1⟩) h.bbB (fun b hb => ownBlock_lt h.coat.row hb) hc1
  · exact h.kept confOk (KeptOn.refl _ _) (fun b hb => ⟨hb.1, hb.2.1⟩)

/-! ### the reader -/
structure RdL (B g c : Nat) (D : Nat → Prop) (r : RdS) (W : World) (f v s k : Ptr) (m : Value) : Prop where
  gB : g < B
  c1 : c ≤ 100002
  dg : D g
  own : ∀ b, D b → (b = g ∨ B ≤ b) ∧ b < W.heap.size
  lo : -1 ≤ r.at_
  hi : r.at_ ≤ 9
  nm : r.x.nm.size ≤ 1000000
  fs : ListSt 5 r.at_ B D W 112 2 c f r.x.fs
  ws : ListSt 6 r.at_ B D W 63 2 c v r.x.ws
  l : SurfSt r.at_ B D W c s m r.x.l r.seen
  cf : ConfSt r.at_ B D W c k r.x.cf
theorem RdL.keep {B g c : Nat} {D : Nat → Prop} {r : RdS} {W W' : World} {f v s k : Ptr} {m : Value} (h : RdL B g c D r W f v s k m) (hk : ∀ b, B ≤ b → b < W.heap.size → W'.heap[b]? = W.heap[b]?) (hs : W.heap.size ≤ W'.heap.size) : RdL B g c D r W' f v s k m :=
  ⟨h.gB, h.c1, h.dg, fun b hb => ⟨(h.own b hb).1, Nat.lt_of_lt_of_le (h.own b hb).2 hs⟩, h.lo, h.hi, h.nm, h.fs.keep hk hs, h.ws.keep hk hs, h.l.keep hk hs, h.cf.keep hk hs⟩
theorem RdL.lensAt {B g c : Nat} {D : Nat → Prop} {r : RdS} {W : World} {f v s k : Ptr} {m : Value} (h : RdL B g c D r W f v s k m) : LensAt (fun b => B ≤ b ∧ b < W.heap.size) W r.x f v s k := by
  have hc := h.c1
  have h1 := h.fs.1; have h2 := h.ws.1; have h3 := h.l.1; have h4 := h.cf.1
  exact ⟨h.fs.irp.1, h.ws.irp.1, h.l.rr (by omega), h.cf.rr (by omega), by omega, by omega, by omega, by omega, h.fs.irp.2, h.ws.irp.2, by have := h.nm; omega⟩
/-- the reader's block, the kind of the last line apart -/
def ReaderA (W : World) (g : Nat) (x : LensD) (at_ : Int) (f v s k : Ptr) (m : Value) : Prop := W.heap[g]? = some (.cells (cells9 x f v s k ++ [.int .i64 at_, m]).toArray 128 (0, 0))
/-- the reader: its variable holds the kind at0 -/
def RdX (B g : Nat) (at0 : Int) (c : Nat) (D : Nat → Prop) (r : RdS) (W : World) : Prop := ∃ f v s k m, ReaderA W g r.x at0 f v s k m ∧ RdL B g c D r W f v s k m
def RdM (B g : Nat) (c : Nat) (D : Nat → Prop) (r : RdS) (W : World) : Prop := RdX B g r.at_ c D r W
theorem rd_first {B g : Nat} {W : World} (hB : g < B) (h : ReaderB W g rd0 ptr0 ptr0 ptr0 ptr0 (.map none)) : RdM B g 0 (fun b => b = g) rd0 W :=
  ⟨ptr0, ptr0, ptr0, ptr0, .map none, h, hB, by omega, rfl, fun b hb => ⟨Or.inl hb, by rw [hb]; exact lt_of_block h⟩, by decide, by decide, by decide,
    ⟨Nat.le_refl _, Or.inl ⟨by decide, rfl, rfl⟩⟩, ⟨Nat.le_refl _, Or.inl ⟨by decide, rfl, rfl⟩⟩, ⟨Nat.le_refl _, Or.inl ⟨by decide, rfl, rfl⟩⟩, ⟨Nat.le_refl _, Or.inl ⟨by decide, rfl, rfl⟩⟩⟩
theorem RdX.keep {B g : Nat} {at0 : Int} {c : Nat} {D : Nat → Prop} {r : RdS} {W W' : World} (h : RdX B g at0 c D r W) (hk : ∀ b, b = g ∨ B ≤ b → b < W.heap.size → W'.heap[b]? = W.heap[b]?) (hs : W.heap.size ≤ W'.heap.size) : RdX B g at0 c D r W' := by
  obtain ⟨f, v, s, k, m, h1, h2⟩ := h
  exact ⟨f, v, s, k, m, (hk g (Or.inl rfl) (lt_of_block h1)).trans h1, h2.keep (fun b hb => hk b (Or.inr hb)) hs⟩
theorem RdX.go {B g : Nat} {at0 : Int} {c : Nat} {D : Nat → Prop} {r : RdS} {W W' : World} (h : RdX B g at0 c D r W) (hb : Below W.heap.size W W') : RdX B g at0 c D r W' := h.keep (fun b _ hb2 => hb.block b hb2) hb.size
/-- the kind of the last line is set -/
theorem RdX.put {B g : Nat} {at0 : Int} {c : Nat} {D : Nat → Prop} {r : RdS} {W : World} (h : RdX B g at0 c D r W) : RdM B g c D r (W.setCell ⟨g, 9, none⟩ (.int .i64 r.at_)) := by
  obtain ⟨f, v, s, k, m, h1, h2⟩ := h
  have hg := h2.gB
  refine ⟨f, v, s, k, m, ?_, h2.keep (fun b hb _ => Below.heap_setCell _ _ _ _ (fun e => by have : b = g := e; omega)) (by simp)⟩
  have := obj_setCell h1 9 (.int .i64 r.at_)
  simp only [cells9, List.setIfInBounds_toArray, List.cons_append, List.nil_append, List.set_cons_zero, List.set_cons_succ] at this
  exact this
/-- what a reading step leaves; res: the new state, or none -/
def StepP (B g : Nat) (at0 : Int) (c : Nat) (D : Nat → Prop) (res : Option RdS) (W : World) (e : Ending) (W' : World) : Prop :=
  Below g W W' ∧ (∀ k, k < W.heap.size → ¬ D k → W'.heap[k]? = W.heap[k]?) ∧
    ((∃ q, res = some q ∧ e = .returned (.tuple #[]) ∧ ∃ D' : Nat → Prop, (∀ b, D' b → D b ∨ W.heap.size ≤ b) ∧ RdX B g at0 (c + 1) D' q W') ∨ (res = none ∧ e = MalS))
theorem StepP.bad {B g : Nat} {at0 : Int} {c : Nat} {D : Nat → Prop} {res : Option RdS} {W W' : World} (hr : res = none) (hb : Below W.heap.size W W') (hg : g ≤ W.heap.size) : StepP B g at0 c D res W MalS W' :=
  ⟨hb.mono hg, fun k hk _ => hb.block k hk, Or.inr ⟨hr, rfl⟩⟩
end Go.Proofs.YtgohdcccfkjooaaGreatDoor

namespace Go.Proofs.YtgohdcccfkjooaaGreatDoor
open Go.RowKit

/-- an append to the row v of one's own, behind W: its new block is g2 -/
structure GrownD (W W' : World) (v : Value) (g2 : Nat) : Prop where
  kept : ∀ b, b < W.heap.size → v.ownBlock ≠ some b → W'.heap[b]? = W.heap[b]?
  size : W.heap.size ≤ W'.heap.size
  os : W'.os = W.os
  tape : W'.tape = W.tape
  output : W'.output = W.output
  hat : v.ownBlock = some g2 ∨ W.heap.size ≤ g2
  lt : g2 < W'.heap.size
theorem grownD_of {W W1 W' : World} {v : Value} {g2 H : Nat} (hb : Below W.heap.size W W1) (hg : W1.grownBy W' v.ownBlock) (hat : v.ownBlock = some g2 ∨ g2 = H) (hH : W.heap.size ≤ H) (hlt : g2 < W'.heap.size) : GrownD W W' v g2 :=
  ⟨fun b h1 h2 => (hg.block b (Nat.lt_of_lt_of_le h1 hb.size) (fun e => h2 e.symm)).trans (hb.block b h1), Nat.le_trans hb.size hg.size, hg.os.trans hb.os, hg.tape.trans hb.tape, hg.output.trans hb.output, hat.imp id (fun e => by omega), hlt⟩
theorem GrownD.below {W W' : World} {v : Value} {g2 g : Nat} (h : GrownD W W' v g2) (hg : g ≤ W.heap.size) (hv : ∀ b, v.ownBlock = some b → g ≤ b) : Below g W W' :=
  ⟨h.os, h.tape, h.output, h.size, fun k hk => h.kept k (by omega) (fun e => by have := hv k e; omega)⟩

theorem ListSt.grow {i at_ : Int} {B : Nat} {D D' : Nat → Prop} {W W' : World} {T : TypeId} {k c : Nat} {p : Ptr} {zs ns : List Int} {g2 cap : Nat} (h : ListSt i at_ B D W T k c p zs)
    (hrow : W'.ownsRow B T k (.slice (some ⟨g2, 0, none⟩) (p.n + 1) cap) (p.n + 1) (zs.map (Value.int .i64) ++ ns.map (Value.int .i64))) (hD : D' g2) : ListSt i i B D' W' T k (c + 1) ⟨some ⟨g2, 0, none⟩, p.n + 1, cap⟩ (zs ++ ns) :=
  ⟨by have := h.1; show p.n + 1 ≤ c + 1; omega, Or.inr (Or.inl ⟨rfl, by rw [List.map_append]; exact hrow, (fun b e => by cases e; exact hD), fun e => by have : p.n + 1 = 0 := e; omega⟩)⟩
/-- the blocks frozen so far stay so -/
theorem fz_go {B g g2 : Nat} {D : Nat → Prop} {W W' : World} {v : Value} (hgB : g < B) (hv : ∀ b, v.ownBlock = some b → D b) (h : GrownD W W' v g2) : (∀ b, Fz B D W b → W'.heap[b]? = W.heap[b]?) ∧ ∀ b, Fz B D W b → Fz B (fun b => b = g ∨ b = g2) W' b := by
  refine ⟨fun b hb => h.kept b hb.2.1 (fun e => hb.2.2 (hv b e)), fun b hb => ⟨hb.1, Nat.lt_of_lt_of_le hb.2.1 h.size, ?_⟩⟩
  rintro (e | e)
  · have := hb.1; omega
  · rcases h.hat with e2 | e2
    · exact hb.2.2 (hv b (by rw [e]; exact e2))
    · have := hb.2.1; omega
/-- the reader's block, a cell of it set -/
theorem reader_put {W : World} {g : Nat} {x x' : LensD} {at0 : Int} {f v s k f' v' s' k' : Ptr} {m m' : Value} {j : Nat} {u : Value} (h : ReaderA W g x at0 f v s k m) (hc : (cells9 x f v s k ++ [.int .i64 at0, m]).set j u = cells9 x' f' v' s' k' ++ [.int .i64 at0, m']) : ReaderA (W.setCell ⟨g, j, none⟩ u) g x' at0 f' v' s' k' m' := by
  have := obj_setCell h j u
  rw [List.setIfInBounds_toArray, hc] at this
  exact this
theorem below_cell {B : Nat} {W W' : World} {g j : Nat} {u : Value} (h : Below B W W') (hg : B ≤ g) : Below B W (W'.setCell ⟨g, j, none⟩ u) := h.setCell (p := ⟨g, j, none⟩) hg u
theorem cell_other {W : World} {g j b : Nat} {u : Value} (h : b ≠ g) : (W.setCell ⟨g, j, none⟩ u).heap[b]? = W.heap[b]? := Below.heap_setCell _ _ _ _ (fun e => h e)

/-- a line of the head: one cell of the reader is set -/
theorem step_head {B g : Nat} {at0 : Int} {c : Nat} {D : Nat → Prop} {r : RdS} {W : World} {f v s k : Ptr} {m : Value} {x' : LensD} {n j : Nat} {u : Value} (hA : ReaderA W g r.x at0 f v s k m) (hL : RdL B g c D r W f v s k m) (hc : (cells9 r.x f v s k ++ [.int .i64 at0, m]).set j u = cells9 x' f v s k ++ [.int .i64 at0, m])
    (hx : x'.fs = r.x.fs ∧ x'.ws = r.x.ws ∧ x'.l = r.x.l ∧ x'.cf = r.x.cf) (hnm : x'.nm.size ≤ 1000000) (hat : r.at_ < 5) (hn : n < 5) (h1 : c ≤ 100001) : RdX B g at0 (c + 1) D ⟨x', (n : Int), []⟩ (W.setCell ⟨g, j, none⟩ u) := by
  obtain ⟨e1, e2, e3, e4⟩ := hx
  refine ⟨f, v, s, k, m, reader_put hA hc, hL.gB, by omega, hL.dg, fun b hb => ⟨(hL.own b hb).1, by simpa using (hL.own b hb).2⟩, by show (-1 : Int) ≤ (n : Int); omega, by show (n : Int) ≤ 9; omega, hnm, ?_, ?_, ?_, ?_⟩
  · show ListSt 5 (n : Int) _ _ _ _ _ _ _ x'.fs
    rw [e1]; exact hL.fs.wait (by omega) (by omega) (by omega)
  · show ListSt 6 (n : Int) _ _ _ _ _ _ _ x'.ws
    rw [e2]; exact hL.ws.wait (by omega) (by omega) (by omega)
  · show SurfSt (n : Int) _ _ _ _ _ _ x'.l _
    rw [e3]; exact hL.l.wait (by omega) (by omega) (by omega)
  · show ConfSt (n : Int) _ _ _ _ _ x'.cf
    rw [e4]; exact hL.cf.wait (by omega) (by omega) (by omega)
/-- .. as the step's post -/
theorem stepP_head {B g : Nat} {at0 : Int} {c : Nat} {D : Nat → Prop} {r : RdS} {W0 W : World} {f v s k : Ptr} {m : Value} {x' : LensD} {n j : Nat} {u : Value} {res : Option RdS} (hr : res = some ⟨x', (n : Int), []⟩) (hb : Below W0.heap.size W0 W) (hA : ReaderA W g r.x at0 f v s k m) (hL : RdL B g c D r W f v s k m) (hc : (cells9 r.x f v s k ++ [.int .i64 at0, m]).set j u = cells9 x' f v s k ++ [.int .i64 at0, m])
    (hx : x'.fs = r.x.fs ∧ x'.ws = r.x.ws ∧ x'.l = r.x.l ∧ x'.cf = r.x.cf) (hnm : x'.nm.size ≤ 1000000) (hat : r.at_ < 5) (hn : n < 5) (h1 : c ≤ 100001) (hg0 : g ≤ W0.heap.size) : StepP B g at0 c D res W0 (.returned (.tuple #[])) (W.setCell ⟨g, j, none⟩ u) :=
  ⟨below_cell (hb.mono hg0) (Nat.le_refl _), fun b hb1 hb2 => (cell_other (fun e => hb2 (by rw [e]; exact hL.dg))).trans (hb.block b hb1), Or.inl ⟨_, hr, rfl, D, fun _ h => Or.inl h, step_head hA hL hc hx hnm hat hn h1⟩⟩

/-- a line of fields -/
theorem stepP_field {B g : Nat} {at0 : Int} {c : Nat} {D : Nat → Prop} {r : RdS} {W0 W W' : World} {f v s k : Ptr} {m : Value} {ns : List Int} {g2 cap : Nat} {res : Option RdS} (hr : res = some ⟨{ r.x with fs := r.x.fs ++ ns }, 5, []⟩) (hb : Below W0.heap.size W0 W) (hA : ReaderA W g r.x at0 f v s k m) (hL : RdL B g c D r W f v s k m)
    (hrow : W'.ownsRow B 112 2 (.slice (some ⟨g2, 0, none⟩) (f.n + 1) cap) (f.n + 1) (r.x.fs.map (Value.int .i64) ++ ns.map (Value.int .i64))) (hgr : GrownD W W' f.v g2) (hg2 : B ≤ g2) (hat : r.at_ ≤ 5) (h1 : c ≤ 100001) (hg0 : B ≤ W0.heap.size) :
    StepP B g at0 c D res W0 (.returned (.tuple #[])) (W'.setCell ⟨g, 5, none⟩ (.slice (some ⟨g2, 0, none⟩) (f.n + 1) cap)) := by
  have hgB := hL.gB
  have hown := hL.fs.own hat
  have hlt := lt_of_block hA
  have hgne : f.v.ownBlock ≠ some g := fun e => by have := (ownBlock_lt hown.row e).1; omega
  have hA2 : ReaderA W' g r.x at0 f v s k m := (hgr.kept g hlt hgne).trans hA
  have hD2 : ∀ b, (b = g ∨ b = g2) → D b ∨ W0.heap.size ≤ b := by
    rintro b (e | e)
    · exact Or.inl (by rw [e]; exact hL.dg)
    · rcases hgr.hat with e2 | e2
      · exact Or.inl (by rw [e]; exact hown.inD g2 e2)
      · exact Or.inr (by have := hb.size; omega)
  obtain ⟨hf1, hf2⟩ := fz_go hgB hown.inD hgr
  refine ⟨below_cell ((hb.mono (by omega)).trans (hgr.below (by omega) (fun b e => by have := (ownBlock_lt hown.row e).1; omega))) (Nat.le_refl _), fun b hb1 hb2 => ?_, Or.inl ⟨_, hr, rfl, fun b => b = g ∨ b = g2, hD2, ⟨⟨some ⟨g2, 0, none⟩, f.n + 1, cap⟩, v, s, k, m, ?_, ?_⟩⟩⟩
  · exact (cell_other (fun e => hb2 (by rw [e]; exact hL.dg))).trans ((hgr.kept b (Nat.lt_of_lt_of_le hb1 hb.size) (fun e => hb2 (hown.inD b e))).trans (hb.block b hb1))
  · exact reader_put hA2 rfl
  · have key : RdL B g (c + 1) (fun b => b = g ∨ b = g2) ⟨{ r.x with fs := r.x.fs ++ ns }, 5, []⟩ W' ⟨some ⟨g2, 0, none⟩, f.n + 1, cap⟩ v s k m :=
      ⟨hgB, by omega, Or.inl rfl, fun b hb => by
        rcases hb with e | e
        · exact ⟨Or.inl e, by rw [e]; exact Nat.lt_of_lt_of_le hlt hgr.size⟩
        · exact ⟨Or.inr (by rw [e]; exact hg2), by rw [e]; exact hgr.lt⟩, (by dsimp only; omega), (by dsimp only; omega), hL.nm, hL.fs.grow hrow (Or.inr rfl), hL.ws.wait (by omega) (by dsimp only; omega) (by omega), hL.l.wait (by omega) (by dsimp only; omega) (by omega), hL.cf.wait (by omega) (by dsimp only; omega) (by omega)⟩
    exact key.keep (fun b hb _ => cell_other (by omega)) (by simp)

/-- a line of a wave -/
theorem stepP_wave {B g : Nat} {at0 : Int} {c : Nat} {D : Nat → Prop} {r : RdS} {W0 W W' : World} {f v s k : Ptr} {m : Value} {ns : List Int} {g2 cap : Nat} {res : Option RdS} (hr : res = some ⟨{ r.x with ws := r.x.ws ++ ns }, 6, []⟩) (hb : Below W0.heap.size W0 W) (hA : ReaderA W g r.x at0 f v s k m) (hL : RdL B g c D r W f v s k m)
    (hrow : W'.ownsRow B 63 2 (.slice (some ⟨g2, 0, none⟩) (v.n + 1) cap) (v.n + 1) (r.x.ws.map (Value.int .i64) ++ ns.map (Value.int .i64))) (hgr : GrownD W W' v.v g2) (hg2 : B ≤ g2) (hat : r.at_ ≤ 6) (h1 : c ≤ 100001) (hg0 : B ≤ W0.heap.size) :
    StepP B g at0 c D res W0 (.returned (.tuple #[])) (W'.setCell ⟨g, 6, none⟩ (.slice (some ⟨g2, 0, none⟩) (v.n + 1) cap)) := by
  have hgB := hL.gB
  have hown := hL.ws.own hat
  have hlt := lt_of_block hA
  have hgne : v.v.ownBlock ≠ some g := fun e => by have := (ownBlock_lt hown.row e).1; omega
  have hA2 : ReaderA W' g r.x at0 f v s k m := (hgr.kept g hlt hgne).trans hA
  have hD2 : ∀ b, (b = g ∨ b = g2) → D b ∨ W0.heap.size ≤ b := by
    rintro b (e | e)
    · exact Or.inl (by rw [e]; exact hL.dg)
    · rcases hgr.hat with e2 | e2
      · exact Or.inl (by rw [e]; exact hown.inD g2 e2)
      · exact Or.inr (by have := hb.size; omega)
  obtain ⟨hf1, hf2⟩ := fz_go hgB hown.inD hgr
  refine ⟨below_cell ((hb.mono (by omega)).trans (hgr.below (by omega) (fun b e => by have := (ownBlock_lt hown.row e).1; omega))) (Nat.le_refl _), fun b hb1 hb2 => ?_, Or.inl ⟨_, hr, rfl, fun b => b = g ∨ b = g2, hD2, ⟨f, ⟨some ⟨g2, 0, none⟩, v.n + 1, cap⟩, s, k, m, ?_, ?_⟩⟩⟩
  · exact (cell_other (fun e => hb2 (by rw [e]; exact hL.dg))).trans ((hgr.kept b (Nat.lt_of_lt_of_le hb1 hb.size) (fun e => hb2 (hown.inD b e))).trans (hb.block b hb1))
  · exact reader_put hA2 rfl
  · have key : RdL B g (c + 1) (fun b => b = g ∨ b = g2) ⟨{ r.x with ws := r.x.ws ++ ns }, 6, []⟩ W' f ⟨some ⟨g2, 0, none⟩, v.n + 1, cap⟩ s k m :=
      ⟨hgB, by omega, Or.inl rfl, fun b hb => by
        rcases hb with e | e
        · exact ⟨Or.inl e, by rw [e]; exact Nat.lt_of_lt_of_le hlt hgr.size⟩
        · exact ⟨Or.inr (by rw [e]; exact hg2), by rw [e]; exact hgr.lt⟩, (by dsimp only; omega), (by dsimp only; omega), hL.nm, hL.fs.close (by dsimp only; omega) (by omega) hf1 hf2 (fun e5 b hbo => ?_), hL.ws.grow hrow (Or.inr rfl), hL.l.wait (by omega) (by dsimp only; omega) (by omega), hL.cf.wait (by omega) (by dsimp only; omega) (by omega)⟩
    · exact key.keep (fun b hb _ => cell_other (by omega)) (by simp)
    · -- the fields end: their block is none of the waves'
      have hv0 : v = ptr0 := by
        rcases hL.ws.2 with ⟨_, h, _⟩ | ⟨h, _⟩ | ⟨h, _⟩
        · exact h
        · omega
        · omega
      have hb2 := ownBlock_lt (hL.fs.own (by omega)).row hbo
      refine ⟨hgr.kept b hb2.2 (by rw [hv0]; intro e; cases e), hb2.1, Nat.lt_of_lt_of_le hb2.2 hgr.size, ?_⟩
      rintro (e | e)
      · omega
      · rcases hgr.hat with e2 | e2
        · rw [hv0] at e2; cases e2
        · omega

/-- the end -/
theorem stepP_end {B g : Nat} {at0 : Int} {c : Nat} {D : Nat → Prop} {r : RdS} {W0 W : World} {res : Option RdS} (hr : res = some ⟨r.x, 9, []⟩) (hb : Below W0.heap.size W0 W) (h : RdX B g at0 c D r W) (_hat : r.at_ ≤ 8) (h1 : c ≤ 100001) (hg0 : B ≤ W0.heap.size) :
    StepP B g at0 c D res W0 (.returned (.tuple #[])) W := by
  obtain ⟨f, v, s, k, m, hA, hL⟩ := h
  have hgB := hL.gB
  have hlt := lt_of_block hA
  have hall : ∀ b, B ≤ b → b < W.heap.size → W.heap[b]? = W.heap[b]? ∧ Fz B (fun b => b = g) W b := fun b h2 h3 => ⟨rfl, h2, h3, by intro e; omega⟩
  refine ⟨hb.mono (by omega), fun b hb1 _ => hb.block b hb1, Or.inl ⟨_, hr, rfl, fun b => b = g, fun b e => Or.inl (by rw [e]; exact hL.dg), f, v, s, k, m, hA, hgB, by omega, rfl, fun b e => ⟨Or.inl e, by rw [e]; exact hlt⟩, (by dsimp only; omega), (by dsimp only; omega), hL.nm, ?_, ?_, ?_, ?_⟩⟩
  · exact hL.fs.close (by dsimp only; omega) (by omega) (fun b _ => rfl) (fun b hb => (hall b hb.1 hb.2.1).2) (fun e b hbo => hall b (ownBlock_lt (hL.fs.own (by omega)).row hbo).1 (ownBlock_lt (hL.fs.own (by omega)).row hbo).2)
  · exact hL.ws.close (by dsimp only; omega) (by omega) (fun b _ => rfl) (fun b hb => (hall b hb.1 hb.2.1).2) (fun e b hbo => hall b (ownBlock_lt (hL.ws.own (by omega)).row hbo).1 (ownBlock_lt (hL.ws.own (by omega)).row hbo).2)
  · exact hL.l.close (by show (7 : Int) < 9; decide) (by omega) (by omega) (fun b _ => rfl) (fun b hb => (hall b hb.1 hb.2.1).2) (fun _ b h2 h3 => hall b h2 h3)
  · exact hL.cf.close (by show (8 : Int) < 9; decide) (by omega) (by omega) (fun b _ => rfl) (fun b hb => (hall b hb.1 hb.2.1).2) (fun _ b h2 h3 => hall b h2 h3)
end Go.Proofs.YtgohdcccfkjooaaGreatDoor

namespace Go.Proofs.YtgohdcccfkjooaaGreatDoor
open Go.RowKit

/-- a list of records that is the reader's own, whole -/
structure OwnL {α : Type} (R : Rep α) (k : Nat) (T : TypeId) (B : Nat) (D : Nat → Prop) (W : World) (p : Ptr) (l : List α) (css : List (List Value)) : Prop where
  row : W.ownsRow B T k p.v p.n css.flatten
  len : css.length = l.length
  n : p.n = l.length
  k : ∀ cs ∈ css, cs.length = k
  rep : ∀ (i : Nat) (x : α) (cs : List Value), l[i]? = some x → css[i]? = some cs → R (fun b => B ≤ b ∧ b < W.heap.size ∧ p.v.ownBlock ≠ some b) W x cs
  inD : ∀ b, p.v.ownBlock = some b → D b
theorem OwnL.nil {α : Type} (R : Rep α) (k : Nat) (T : TypeId) (B : Nat) (D : Nat → Prop) (W : World) : OwnL R k T B D W ptr0 [] [] :=
  ⟨World.ownsRow_nil _ _ _ _, rfl, rfl, by simp, fun i x cs h => by simp at h, fun b e => by cases e⟩
theorem row_ne {W : World} {B B' k k' n n' b : Nat} {T T' : TypeId} {v v' : Value} {xs xs' : List Value} (h1 : W.ownsRow B T k v n xs) (h2 : W.ownsRow B' T' k' v' n' xs') (hT : T ≠ T') (hb : v.ownBlock = some b) : v'.ownBlock ≠ some b := by
  intro hb'
  rcases h1.2 with ⟨rfl, _⟩ | ⟨g, cap, cur, rfl, _, q2, _⟩
  · cases hb
  · rcases h2.2 with ⟨rfl, _⟩ | ⟨g', cap', cur', rfl, _, q2', _⟩
    · cases hb'
    · cases hb; cases hb'
      rw [q2] at q2'; cases q2'; exact hT rfl
theorem map_ne {W : World} {B k n b : Nat} {T : TypeId} {v : Value} {xs : List Value} {ks : List ByteArray} (h1 : W.ownsRow B T k v n xs) (h2 : MapOf W b ks) : v.ownBlock ≠ some b := by
  intro hb
  obtain ⟨es, clock, h3, _⟩ := h2
  rcases h1.2 with ⟨rfl, _⟩ | ⟨g, cap, cur, rfl, _, q2, _⟩
  · cases hb
  · cases hb
    rw [q2] at h3; cases h3
theorem OwnS.ne {B : Nat} {D : Nat → Prop} {W : World} {c : Nat} {p : Ptr} {m : Value} {l : List SurfC} {seen : List (List UInt8)} {l0 : List SurfC} {y : SurfC} {css : List (List Value)} {q : Ptr} {bb cap bm : Nat} (h : OwnS B D W c p m l seen l0 y css q bb cap bm) : q.v.ownBlock ≠ some bb ∧ bm ≠ bb ∧ q.v.ownBlock ≠ some bm :=
  ⟨row_ne h.row h.coat.row (by decide) rfl, fun e => map_ne h.row h.map (by rw [e]; rfl), map_ne h.coat.row h.map⟩
theorem OwnS.flat {B : Nat} {D : Nat → Prop} {W : World} {c : Nat} {p : Ptr} {m : Value} {l : List SurfC} {seen : List (List UInt8)} {l0 : List SurfC} {y : SurfC} {css : List (List Value)} {q : Ptr} {bb cap bm : Nat} (h : OwnS B D W c p m l seen l0 y css q bb cap bm) : css.flatten.length = l0.length * 22 := by
  rw [length_flatten css h.k, h.ecss]
/-- a cell of the last record is stored -/
theorem last_set {W : World} {B k n bb cap : Nat} {T : TypeId} {pre cs : List Value} (h : W.ownsRow B T k (.slice (some ⟨bb, 0, none⟩) n cap) n (pre ++ cs)) (j : Nat) (_hj : j < cs.length) (u : Value) : (W.setCell ⟨bb, pre.length + j, none⟩ u).ownsRow B T k (.slice (some ⟨bb, 0, none⟩) n cap) n (pre ++ cs.set j u) := by
  obtain ⟨h1, h2⟩ := h
  refine ⟨by rw [← h1]; simp, Or.inr ?_⟩
  rcases h2 with ⟨e, _⟩ | ⟨g, cap', cur, e, q1, q2, q3, q4, q5, q6⟩
  · cases e
  · cases e
    refine ⟨bb, cap, _, rfl, q1, obj_setCell q2 (pre.length + j) u, q3, q4, by simpa using q5, ?_⟩
    rw [Array.toList_setIfInBounds, List.take_set, q6, List.set_append, if_neg (by omega), Nat.add_sub_cancel_left]
theorem OwnS.store {B : Nat} {D : Nat → Prop} {W : World} {c : Nat} {p : Ptr} {m : Value} {l : List SurfC} {seen : List (List UInt8)} {l0 : List SurfC} {y : SurfC} {css : List (List Value)} {q : Ptr} {bb cap bm : Nat} (h : OwnS B D W c p m l seen l0 y css q bb cap bm) {off : Nat} {u : Value} {s2 : Surf} (hoff : off < 22)
    (hset : (cells22 y.s q.a q.n q.c).set off u = cells22 s2 q.a q.n q.c) (hgl : s2.glass.size ≤ 1000000) : OwnS B D (W.setCell ⟨bb, l0.length * 22 + off, none⟩ u) c p m (l0 ++ [⟨s2, y.zs⟩]) seen l0 ⟨s2, y.zs⟩ css q bb cap bm := by
  obtain ⟨n1, n2, n3⟩ := h.ne
  have hrow := last_set h.row off hoff u
  rw [h.flat, hset] at hrow
  exact ⟨rfl, h.ep, h.ecss, h.k, hrow, h.coat.keep (fun b hb => cell_other (fun e => n1 (by rw [hb, e]))) h.coat.inD, h.qn, fun i x cs h1 h2 => surfOk.kept (h.rep i x cs h1 h2) (fun b hb => cell_other (fun e => hb.2.2 (by rw [e]; exact h.dbb))) (fun b hb => ⟨hb.1, by simpa using hb.2.1, hb.2.2⟩),
    h.dbb, hgl, h.em, h.map.block (cell_other n2), h.dbm, h.bmB⟩
/-- the last surface's coat grows -/
theorem OwnS.film {B : Nat} {D : Nat → Prop} {W W' : World} {c : Nat} {p : Ptr} {m : Value} {l : List SurfC} {seen : List (List UInt8)} {l0 : List SurfC} {y : SurfC} {css : List (List Value)} {q : Ptr} {bb cap bm : Nat} (h : OwnS B D W c p m l seen l0 y css q bb cap bm) {ns : List Int} {g2 cap2 : Nat}
    (hrow : W'.ownsRow B 67 3 (.slice (some ⟨g2, 0, none⟩) (q.n + 1) cap2) (q.n + 1) (y.zs.map (Value.int .i64) ++ ns.map (Value.int .i64))) (hgr : GrownD W W' q.v g2) :
    OwnS B (fun b => D b ∨ b = g2) (W'.setCell ⟨bb, l0.length * 22 + 21, none⟩ (.slice (some ⟨g2, 0, none⟩) (q.n + 1) cap2)) (c + 1) p m (l0 ++ [⟨y.s, y.zs ++ ns⟩]) seen l0 ⟨y.s, y.zs ++ ns⟩ css ⟨some ⟨g2, 0, none⟩, q.n + 1, cap2⟩ bb cap bm := by
  obtain ⟨n1, n2, n3⟩ := h.ne
  have hbb := h.bbB
  have hrow1 := ownsRow_keep h.row (W' := W') (fun b hb => by cases hb; exact hgr.kept bb hbb.2 n1)
  have hg2 : g2 ≠ bb := by
    have hne := row_ne hrow1 hrow (by decide) (b := bb) rfl
    exact fun e => hne (by rw [e]; rfl)
  have hrow2 := last_set hrow1 21 (by show 21 < 22; omega) (.slice (some ⟨g2, 0, none⟩) (q.n + 1) cap2)
  rw [h.flat] at hrow2
  refine ⟨rfl, h.ep, h.ecss, h.k, hrow2, ⟨ownsRow_other (by rw [List.map_append]; exact hrow) (fun e => by cases e; exact hg2 rfl) _ _, (fun b e => by cases e; exact Or.inr rfl), fun e => by have : q.n + 1 = 0 := e; omega⟩, by have := h.qn; show q.n + 1 ≤ c + 1; omega, fun i x cs h1 h2 => surfOk.kept (h.rep i x cs h1 h2) (fun b hb => ?_) (fun b hb => ⟨hb.1, ?_, ?_⟩),
    Or.inl h.dbb, h.glass, h.em, h.map.block ((cell_other n2).trans (hgr.kept bm h.map.lt n3)), Or.inl h.dbm, h.bmB⟩
  · exact (cell_other (fun e => hb.2.2 (by rw [e]; exact h.dbb))).trans (hgr.kept b hb.2.1 (fun e => hb.2.2 (h.coat.inD b e)))
  · simpa using Nat.lt_of_lt_of_le hb.2.1 hgr.size
  · rintro (e | e)
    · exact hb.2.2 e
    · rcases hgr.hat with e2 | e2
      · exact hb.2.2 (h.coat.inD b (by rw [e]; exact e2))
      · have := hb.2.1; omega
/-- before the surfaces are begun, or while they are read, their row is the reader's own -/
theorem SurfSt.own {at_ : Int} {B : Nat} {D : Nat → Prop} {W : World} {c : Nat} {p : Ptr} {m : Value} {l : List SurfC} {seen : List (List UInt8)} (h : SurfSt at_ B D W c p m l seen) (hat : at_ ≤ 7) (hc : c ≤ 1000000) : ∃ css, OwnL SurfR 22 70 B D W p l css := by
  rcases h.2 with ⟨_, rfl, rfl⟩ | ⟨e, l0, y, css, q, bb, cap, bm, h⟩ | ⟨h, _⟩
  · exact ⟨[], OwnL.nil _ _ _ _ _ _⟩
  · obtain ⟨n1, n2, n3⟩ := h.ne
    have hl := h.ecss
    refine ⟨css ++ [cells22 y.s q.a q.n q.c], ?_⟩
    rw [h.ep, h.el]
    refine ⟨by show World.ownsRow _ _ _ _ (.slice (some ⟨bb, 0, none⟩) (l0.length + 1) cap) _ _; simpa using h.row, by simp [hl], by simp, fun cs hcs => ?_, fun i x cs hx hcs => ?_, fun b e => by cases e; exact h.dbb⟩
    · rcases List.mem_append.1 hcs with hcs | hcs
      · exact h.k cs hcs
      · simp only [List.mem_singleton] at hcs; subst hcs; rfl
    · by_cases hi : i < l0.length
      · rw [List.getElem?_append_left hi] at hx
        rw [List.getElem?_append_left (by omega)] at hcs
        exact surfOk.kept (h.rep i x cs hx hcs) (KeptOn.refl _ _) (fun b hb => ⟨hb.1, hb.2.1, fun e => by cases e; exact hb.2.2 h.dbb⟩)
      · have hi2 : i = l0.length := by
          have := (List.getElem?_eq_some_iff.1 hx).1
          simp at this; omega
        subst hi2
        simp only [List.getElem?_concat_length, Option.some.injEq] at hx
        rw [← hl] at hcs
        simp only [List.getElem?_concat_length, Option.some.injEq] at hcs
        subst hx; subst hcs
        exact h.last (fun b hb => ⟨(ownBlock_lt h.coat.row hb).1, (ownBlock_lt h.coat.row hb).2, fun e => by cases e; exact n1 hb⟩) hc
  · omega
theorem OwnC.ne {B : Nat} {D : Nat → Prop} {W : World} {c : Nat} {p : Ptr} {l l0 : List ConfC} {y : ConfC} {css : List (List Value)} {q : Ptr} {bb cap : Nat} (h : OwnC B D W c p l l0 y css q bb cap) : q.v.ownBlock ≠ some bb := row_ne h.row h.coat.row (by decide) rfl
theorem ConfSt.own {at_ : Int} {B : Nat} {D : Nat → Prop} {W : World} {c : Nat} {p : Ptr} {l : List ConfC} (h : ConfSt at_ B D W c p l) (hat : at_ ≤ 8) (hc : c ≤ 1000000) : ∃ css, OwnL ConfR 2 75 B D W p l css := by
  rcases h.2 with ⟨_, rfl, rfl⟩ | ⟨e, l0, y, css, q, bb, cap, h⟩ | ⟨h, _⟩
  · exact ⟨[], OwnL.nil _ _ _ _ _ _⟩
  · have n1 := h.ne
    have hl := h.ecss
    refine ⟨css ++ [[.string y.nm, .slice q.a q.n q.c]], ?_⟩
    rw [h.ep, h.el]
    refine ⟨by show World.ownsRow _ _ _ _ (.slice (some ⟨bb, 0, none⟩) (l0.length + 1) cap) _ _; simpa using h.row, by simp [hl], by simp, fun cs hcs => ?_, fun i x cs hx hcs => ?_, fun b e => by cases e; exact h.dbb⟩
    · rcases List.mem_append.1 hcs with hcs | hcs
      · exact h.k cs hcs
      · simp only [List.mem_singleton] at hcs; subst hcs; rfl
    · by_cases hi : i < l0.length
      · rw [List.getElem?_append_left hi] at hx
        rw [List.getElem?_append_left (by omega)] at hcs
        exact confOk.kept (h.rep i x cs hx hcs) (KeptOn.refl _ _) (fun b hb => ⟨hb.1, hb.2.1, fun e => by cases e; exact hb.2.2 h.dbb⟩)
      · have hi2 : i = l0.length := by
          have := (List.getElem?_eq_some_iff.1 hx).1
          simp at this; omega
        subst hi2
        simp only [List.getElem?_concat_length, Option.some.injEq] at hx
        rw [← hl] at hcs
        simp only [List.getElem?_concat_length, Option.some.injEq] at hcs
        subst hx; subst hcs
        exact h.last (fun b hb => ⟨(ownBlock_lt h.coat.row hb).1, (ownBlock_lt h.coat.row hb).2, fun e => by cases e; exact n1 hb⟩) hc
  · omega
theorem OwnC.flat {B : Nat} {D : Nat → Prop} {W : World} {c : Nat} {p : Ptr} {l l0 : List ConfC} {y : ConfC} {css : List (List Value)} {q : Ptr} {bb cap : Nat} (h : OwnC B D W c p l l0 y css q bb cap) : css.flatten.length = l0.length * 2 := by
  rw [length_flatten css h.k, h.ecss]
/-- the last configuration's changes grow -/
theorem OwnC.film {B : Nat} {D : Nat → Prop} {W W' : World} {c : Nat} {p : Ptr} {l l0 : List ConfC} {y : ConfC} {css : List (List Value)} {q : Ptr} {bb cap : Nat} (h : OwnC B D W c p l l0 y css q bb cap) {ns : List Int} {g2 cap2 : Nat}
    (hrow : W'.ownsRow B 72 3 (.slice (some ⟨g2, 0, none⟩) (q.n + 1) cap2) (q.n + 1) (y.zs.map (Value.int .i64) ++ ns.map (Value.int .i64))) (hgr : GrownD W W' q.v g2) :
    OwnC B (fun b => D b ∨ b = g2) (W'.setCell ⟨bb, l0.length * 2 + 1, none⟩ (.slice (some ⟨g2, 0, none⟩) (q.n + 1) cap2)) (c + 1) p (l0 ++ [⟨y.nm, y.zs ++ ns⟩]) l0 ⟨y.nm, y.zs ++ ns⟩ css ⟨some ⟨g2, 0, none⟩, q.n + 1, cap2⟩ bb cap := by
  have n1 := h.ne
  have hbb := h.bbB
  have hrow1 := ownsRow_keep h.row (W' := W') (fun b hb => by cases hb; exact hgr.kept bb hbb.2 n1)
  have hg2 : g2 ≠ bb := by
    have hne := row_ne hrow1 hrow (by decide) (b := bb) rfl
    exact fun e => hne (by rw [e]; rfl)
  have hrow2 := last_set hrow1 1 (by show 1 < 2; omega) (.slice (some ⟨g2, 0, none⟩) (q.n + 1) cap2)
  rw [h.flat] at hrow2
  refine ⟨rfl, h.ep, h.ecss, h.k, hrow2, ⟨ownsRow_other (by rw [List.map_append]; exact hrow) (fun e => by cases e; exact hg2 rfl) _ _, (fun b e => by cases e; exact Or.inr rfl), fun e => by have : q.n + 1 = 0 := e; omega⟩, by have := h.qn; show q.n + 1 ≤ c + 1; omega, fun i x cs h1 h2 => confOk.kept (h.rep i x cs h1 h2) (fun b hb => ?_) (fun b hb => ⟨hb.1, ?_, ?_⟩), Or.inl h.dbb, h.nm⟩
  · exact (cell_other (fun e => hb.2.2 (by rw [e]; exact h.dbb))).trans (hgr.kept b hb.2.1 (fun e => hb.2.2 (h.coat.inD b e)))
  · simpa using Nat.lt_of_lt_of_le hb.2.1 hgr.size
  · rintro (e | e)
    · exact hb.2.2 e
    · rcases hgr.hat with e2 | e2
      · exact hb.2.2 (h.coat.inD b (by rw [e]; exact e2))
      · have := hb.2.1; omega

/-- a row that has grown by a record, its elements -/
theorem OwnL.snoc {α : Type} {R : Rep α} {k : Nat} (ok : RepOk k R) {T : TypeId} {B : Nat} {D : Nat → Prop} {W W' : World} {p : Ptr} {l : List α} {css : List (List Value)} (h : OwnL R k T B D W p l css) {g2 : Nat} (hgr : GrownD W W' p.v g2) : ∀ (i : Nat) (x : α) (cs : List Value), l[i]? = some x → css[i]? = some cs → R (fun b => B ≤ b ∧ b < W.heap.size ∧ b ≠ g2) W' x cs :=
  fun i x cs h1 h2 => ok.kept (h.rep i x cs h1 h2) (fun b hb => hgr.kept b hb.2.1 hb.2.2) (fun b hb => ⟨hb.1, hb.2.1, fun e => by
    rcases hgr.hat with e2 | e2
    · exact hb.2.2 (by rw [e2, e])
    · have := hb.2.1; omega⟩)

/-- a line of a surface -/
theorem stepP_surface {B g : Nat} {at0 : Int} {c : Nat} {D : Nat → Prop} {r : RdS} {W0 W W' W2 : World} {f v s k : Ptr} {m : Value} {css : List (List Value)} {i g2 cap bm : Nat} {res : Option RdS} (hr : res = some ⟨{ r.x with l := r.x.l ++ [newSurf i] }, 7, []⟩) (hb : Below W0.heap.size W0 W) (hA : ReaderA W g r.x at0 f v s k m) (hL : RdL B g c D r W f v s k m)
    (hO : OwnL SurfR 22 70 B D W s r.x.l css) (hrow : W'.ownsRow B 70 22 (.slice (some ⟨g2, 0, none⟩) (s.n + 1) cap) (s.n + 1) (css.flatten ++ cells22 (newSurf i).s none 0 0)) (hgr : GrownD W W' s.v g2) (hg2 : B ≤ g2) (hat : r.at_ ≤ 7) (h1 : c ≤ 100001) (hg0 : B ≤ W0.heap.size)
    (hA2 : ReaderA W2 g r.x at0 f v ⟨some ⟨g2, 0, none⟩, s.n + 1, cap⟩ k (.map (some bm))) (hm : MapOf W2 bm []) (hbm : W'.heap.size ≤ bm) (hk2 : ∀ b, b ≠ g → b < W'.heap.size → W2.heap[b]? = W'.heap[b]?) (hbe : Below g W' W2) :
    StepP B g at0 c D res W0 (.returned (.tuple #[])) W2 := by
  have hgB := hL.gB
  have hlt := lt_of_block hA
  have hD2 : ∀ b, (b = g ∨ b = g2 ∨ b = bm) → D b ∨ W0.heap.size ≤ b := by
    rintro b (e | e | e)
    · exact Or.inl (by rw [e]; exact hL.dg)
    · rcases hgr.hat with e2 | e2
      · exact Or.inl (by rw [e]; exact hO.inD g2 e2)
      · exact Or.inr (by have := hb.size; omega)
    · exact Or.inr (by have := hb.size; have := hgr.size; omega)
  have hs2 := hbe.size
  have hs1 := hgr.size
  have hs0 := hb.size
  have hnew : ∀ b, B ≤ b → b < W.heap.size → b ≠ g2 → Fz B (fun b => b = g ∨ b = g2 ∨ b = bm) W2 b := fun b h2 h3 h4 => ⟨h2, by omega, by
    rintro (e | e | e)
    · omega
    · exact h4 e
    · omega⟩
  have hkeep : ∀ b, B ≤ b → b < W.heap.size → s.v.ownBlock ≠ some b → W2.heap[b]? = W.heap[b]? := fun b h2 h3 h4 => (hk2 b (by omega) (by omega)).trans (hgr.kept b h3 h4)
  have hf1 : KeptOn (Fz B D W) W W2 := fun b hb => hkeep b hb.1 hb.2.1 (fun e => hb.2.2 (hO.inD b e))
  have hf2 : ∀ b, Fz B D W b → Fz B (fun b => b = g ∨ b = g2 ∨ b = bm) W2 b := fun b hb => hnew b hb.1 hb.2.1 (fun e => by
    rcases hgr.hat with e2 | e2
    · exact hb.2.2 (hO.inD b (by rw [e]; exact e2))
    · have := hb.2.1; omega)
  have hrow2 := ownsRow_keep hrow (W' := W2) (fun b e => by cases e; exact hk2 g2 (by omega) hgr.lt)
  refine ⟨(hb.mono (by omega)).trans ((hgr.below (by omega) (fun b e => by have := (ownBlock_lt hO.row e).1; omega)).trans hbe), fun b hb1 hb2 => ?_, Or.inl ⟨_, hr, rfl, fun b => b = g ∨ b = g2 ∨ b = bm, hD2, ⟨f, v, ⟨some ⟨g2, 0, none⟩, s.n + 1, cap⟩, k, .map (some bm), hA2, hgB, by omega, Or.inl rfl, fun b hb => ?_, (by dsimp only; omega), (by dsimp only; omega), hL.nm, ?_, ?_, ?_, ?_⟩⟩⟩
  · have hne : b ≠ g := fun e => hb2 (by rw [e]; exact hL.dg)
    have hlb : b < W.heap.size := Nat.lt_of_lt_of_le hb1 hb.size
    exact (hk2 b hne (by omega)).trans ((hgr.kept b hlb (fun e => hb2 (hO.inD b e))).trans (hb.block b hb1))
  · rcases hb with e | e | e
    · exact ⟨Or.inl e, by rw [e]; omega⟩
    · exact ⟨Or.inr (by omega), by have := hgr.lt; omega⟩
    · exact ⟨Or.inr (by omega), by rw [e]; exact hm.lt⟩
  · exact hL.fs.close (by dsimp only; omega) (by omega) hf1 hf2 (fun e b hbo => by
      have hbl := ownBlock_lt (hL.fs.own (by omega)).row hbo
      have hne := row_ne (hL.fs.own (by omega)).row hO.row (by decide) hbo
      exact ⟨hkeep b hbl.1 hbl.2 hne, hnew b hbl.1 hbl.2 (fun e => by
        rcases hgr.hat with e2 | e2
        · exact hne (by rw [e2, e])
        · omega)⟩)
  · exact hL.ws.close (by dsimp only; omega) (by omega) hf1 hf2 (fun e b hbo => by
      have hbl := ownBlock_lt (hL.ws.own (by omega)).row hbo
      have hne := row_ne (hL.ws.own (by omega)).row hO.row (by decide) hbo
      exact ⟨hkeep b hbl.1 hbl.2 hne, hnew b hbl.1 hbl.2 (fun e => by
        rcases hgr.hat with e2 | e2
        · exact hne (by rw [e2, e])
        · omega)⟩)
  · refine ⟨by have := hL.l.1; show s.n + 1 ≤ c + 1; omega, Or.inr (Or.inl ⟨rfl, r.x.l, newSurf i, css, ptr0, g2, cap, bm, ?_⟩)⟩
    refine ⟨rfl, by rw [hO.n], hO.len, hO.k, by rw [← hO.n]; exact hrow2, OwnI.nil _ _ _ _ _, Nat.zero_le _, fun j x cs h2 h3 => surfOk.kept (hO.snoc surfOk hgr j x cs h2 h3) (fun b hb => hk2 b (by omega) (by omega)) (fun b hb => hnew b hb.1 hb.2.1 hb.2.2), Or.inr (Or.inl rfl), by show (0 : Nat) ≤ _; omega, rfl, hm, Or.inr (Or.inr rfl), by omega⟩
  · exact hL.cf.wait (by omega) (by dsimp only; omega) (by omega)

/-- a line of a configuration -/
theorem stepP_config {B g : Nat} {at0 : Int} {c : Nat} {D : Nat → Prop} {r : RdS} {W0 W W' : World} {f v s k : Ptr} {m : Value} {css : List (List Value)} {nm : ByteArray} {g2 cap : Nat} {res : Option RdS} (hr : res = some ⟨{ r.x with cf := r.x.cf ++ [⟨nm, []⟩] }, 8, []⟩) (hnm : nm.size ≤ 1000000) (hb : Below W0.heap.size W0 W) (hA : ReaderA W g r.x at0 f v s k m) (hL : RdL B g c D r W f v s k m)
    (hO : OwnL ConfR 2 75 B D W k r.x.cf css) (hrow : W'.ownsRow B 75 2 (.slice (some ⟨g2, 0, none⟩) (k.n + 1) cap) (k.n + 1) (css.flatten ++ [.string nm, .slice none 0 0])) (hgr : GrownD W W' k.v g2) (hg2 : B ≤ g2) (_hat : r.at_ ≤ 8) (h1 : c ≤ 100001) (hg0 : B ≤ W0.heap.size) :
    StepP B g at0 c D res W0 (.returned (.tuple #[])) (W'.setCell ⟨g, 8, none⟩ (.slice (some ⟨g2, 0, none⟩) (k.n + 1) cap)) := by
  have hgB := hL.gB
  have hlt := lt_of_block hA
  have hgne : k.v.ownBlock ≠ some g := fun e => by have := (ownBlock_lt hO.row e).1; omega
  have hA2 : ReaderA W' g r.x at0 f v s k m := (hgr.kept g hlt hgne).trans hA
  have hD2 : ∀ b, (b = g ∨ b = g2) → D b ∨ W0.heap.size ≤ b := by
    rintro b (e | e)
    · exact Or.inl (by rw [e]; exact hL.dg)
    · rcases hgr.hat with e2 | e2
      · exact Or.inl (by rw [e]; exact hO.inD g2 e2)
      · exact Or.inr (by have := hb.size; omega)
  obtain ⟨hf1, hf2⟩ := fz_go hgB hO.inD hgr
  have hs1 := hgr.size
  have hnew : ∀ b, B ≤ b → b < W.heap.size → k.v.ownBlock ≠ some b → W'.heap[b]? = W.heap[b]? ∧ Fz B (fun b => b = g ∨ b = g2) W' b := fun b h2 h3 h4 => ⟨hgr.kept b h3 h4, h2, by omega, by
    rintro (e | e)
    · omega
    · rcases hgr.hat with e2 | e2
      · exact h4 (by rw [e2, e])
      · omega⟩
  refine ⟨below_cell ((hb.mono (by omega)).trans (hgr.below (by omega) (fun b e => by have := (ownBlock_lt hO.row e).1; omega))) (Nat.le_refl _), fun b hb1 hb2 => ?_, Or.inl ⟨_, hr, rfl, fun b => b = g ∨ b = g2, hD2, ⟨f, v, s, ⟨some ⟨g2, 0, none⟩, k.n + 1, cap⟩, m, ?_, ?_⟩⟩⟩
  · exact (cell_other (fun e => hb2 (by rw [e]; exact hL.dg))).trans ((hgr.kept b (Nat.lt_of_lt_of_le hb1 hb.size) (fun e => hb2 (hO.inD b e))).trans (hb.block b hb1))
  · exact reader_put hA2 rfl
  · have key : RdL B g (c + 1) (fun b => b = g ∨ b = g2) ⟨{ r.x with cf := r.x.cf ++ [⟨nm, []⟩] }, 8, []⟩ W' f v s ⟨some ⟨g2, 0, none⟩, k.n + 1, cap⟩ m := by
      refine ⟨hgB, by omega, Or.inl rfl, fun b hb => ?_, (by dsimp only; omega), (by dsimp only; omega), hL.nm, ?_, ?_, ?_, ?_⟩
      · rcases hb with e | e
        · exact ⟨Or.inl e, by rw [e]; omega⟩
        · exact ⟨Or.inr (by omega), by have := hgr.lt; omega⟩
      · exact hL.fs.close (by dsimp only; omega) (by omega) hf1 hf2 (fun e b hbo => hnew b (ownBlock_lt (hL.fs.own (by omega)).row hbo).1 (ownBlock_lt (hL.fs.own (by omega)).row hbo).2 (row_ne (hL.fs.own (by omega)).row hO.row (by decide) hbo))
      · exact hL.ws.close (by dsimp only; omega) (by omega) hf1 hf2 (fun e b hbo => hnew b (ownBlock_lt (hL.ws.own (by omega)).row hbo).1 (ownBlock_lt (hL.ws.own (by omega)).row hbo).2 (row_ne (hL.ws.own (by omega)).row hO.row (by decide) hbo))
      · refine hL.l.close (by show (7 : Int) < 8; decide) (by omega) (by omega) hf1 hf2 (fun e b h2 h3 => hnew b h2 h3 ?_)
        have hk0 : k = ptr0 := by
          rcases hL.cf.2 with ⟨_, h, _⟩ | ⟨h, _⟩ | ⟨h, _⟩
          · exact h
          · omega
          · omega
        rw [hk0]; intro e; cases e
      · refine ⟨by have := hL.cf.1; show k.n + 1 ≤ c + 1; omega, Or.inr (Or.inl ⟨rfl, r.x.cf, ⟨nm, []⟩, css, ptr0, g2, cap, ?_⟩)⟩
        exact ⟨rfl, by rw [hO.n], hO.len, hO.k, by rw [← hO.n]; exact hrow, OwnI.nil _ _ _ _ _, Nat.zero_le _, fun j x cs h2 h3 => confOk.kept (hO.snoc confOk hgr j x cs h2 h3) (KeptOn.refl _ _) (fun b hb => ⟨hb.1, by omega, by
          rintro (e | e)
          · have := hb.1; omega
          · exact hb.2.2 e⟩), Or.inr rfl, hnm⟩
    exact key.keep (fun b hb _ => cell_other (by omega)) (by simp)
end Go.Proofs.YtgohdcccfkjooaaGreatDoor

namespace Go.Proofs.YtgohdcccfkjooaaGreatDoor
open Go.RowKit

theorem OwnS.mapSet {B : Nat} {D : Nat → Prop} {W W' : World} {c : Nat} {p : Ptr} {m : Value} {l : List SurfC} {seen seen' : List (List UInt8)} {l0 : List SurfC} {y : SurfC} {css : List (List Value)} {q : Ptr} {bb cap bm : Nat} (h : OwnS B D W c p m l seen l0 y css q bb cap bm) (hk : ∀ b, b < W.heap.size → b ≠ bm → W'.heap[b]? = W.heap[b]?) (hs : W.heap.size ≤ W'.heap.size) (hm : MapOf W' bm (seen'.map bs)) : OwnS B D W' c p m l seen' l0 y css q bb cap bm := by
  obtain ⟨n1, n2, n3⟩ := h.ne
  have hbb := h.bbB
  exact ⟨h.el, h.ep, h.ecss, h.k, ownsRow_keep h.row (fun b hb => by cases hb; exact hk bb hbb.2 (fun e => n2 e.symm)), h.coat.keep (fun b hb => hk b (ownBlock_lt h.coat.row hb).2 (fun e => n3 (by rw [hb, e]))) h.coat.inD, h.qn,
    fun i x cs h1 h2 => surfOk.kept (h.rep i x cs h1 h2) (fun b hb => hk b hb.2.1 (fun e => hb.2.2 (by rw [e]; exact h.dbm))) (fun b hb => ⟨hb.1, Nat.lt_of_lt_of_le hb.2.1 hs, hb.2.2⟩), h.dbb, h.glass, h.em, hm, h.dbm, h.bmB⟩
theorem OwnS.succ {B : Nat} {D : Nat → Prop} {W : World} {c : Nat} {p : Ptr} {m : Value} {l : List SurfC} {seen : List (List UInt8)} {l0 : List SurfC} {y : SurfC} {css : List (List Value)} {q : Ptr} {bb cap bm : Nat} (h : OwnS B D W c p m l seen l0 y css q bb cap bm) : OwnS B D W (c + 1) p m l seen l0 y css q bb cap bm :=
  ⟨h.el, h.ep, h.ecss, h.k, h.row, h.coat, by have := h.qn; omega, h.rep, h.dbb, h.glass, h.em, h.map, h.dbm, h.bmB⟩
/-- a parameter line -/
theorem stepP_put {B g c : Nat} {D : Nat → Prop} {r : RdS} {W0 W : World} {f v s k : Ptr} {m : Value} {l0 : List SurfC} {y : SurfC} {css : List (List Value)} {q : Ptr} {bb cap bm off : Nat} {u : Value} {s2 : Surf} {w : List UInt8} {res : Option RdS} (hr : res = some ⟨{ r.x with l := l0 ++ [⟨s2, y.zs⟩] }, 7, r.seen ++ [w]⟩) (hat : r.at_ = 7) (hA : ReaderA W0 g r.x 7 f v s k m) (hL : RdL B g c D r W0 f v s k m)
    (hS : OwnS B D W0 c s m r.x.l r.seen l0 y css q bb cap bm) (hk : ∀ b, b < W0.heap.size → b ≠ bm → W.heap[b]? = W0.heap[b]?) (hbe : Below B W0 W) (hm : MapOf W bm ((r.seen ++ [w]).map bs)) (hoff : off < 22)
    (hset : (cells22 y.s q.a q.n q.c).set off u = cells22 s2 q.a q.n q.c) (hgl : s2.glass.size ≤ 1000000) (h1 : c ≤ 100001) :
    StepP B g 7 c D res W0 (.returned (.tuple #[])) (W.setCell ⟨bb, l0.length * 22 + off, none⟩ u) := by
  have hgB := hL.gB
  have hbb := hS.bbB
  have hmB := hS.bmB
  have hlt := lt_of_block hA
  have hs := hbe.size
  have hS2 := ((hS.mapSet hk hs hm).store hoff hset hgl).succ
  have hkf : ∀ b, b < W0.heap.size → ¬ D b → (W.setCell ⟨bb, l0.length * 22 + off, none⟩ u).heap[b]? = W0.heap[b]? := fun b h2 h3 => (cell_other (fun e => h3 (by rw [e]; exact hS.dbb))).trans (hk b h2 (fun e => h3 (by rw [e]; exact hS.dbm)))
  have hf1 : KeptOn (Fz B D W0) W0 (W.setCell ⟨bb, l0.length * 22 + off, none⟩ u) := fun b hb => hkf b hb.2.1 hb.2.2
  have hf2 : ∀ b, Fz B D W0 b → Fz B D (W.setCell ⟨bb, l0.length * 22 + off, none⟩ u) b := fun b hb => ⟨hb.1, by simpa using Nat.lt_of_lt_of_le hb.2.1 hs, hb.2.2⟩
  refine ⟨(below_cell hbe hbb.1).mono (by omega), hkf, Or.inl ⟨_, hr, rfl, D, fun b h => Or.inl h, f, v, s, k, m, ?_, hgB, by omega, hL.dg, fun b hb => ⟨(hL.own b hb).1, by simpa using Nat.lt_of_lt_of_le (hL.own b hb).2 hs⟩, (by dsimp only; omega), (by dsimp only; omega), hL.nm, ?_, ?_, ?_, ?_⟩⟩
  · exact (cell_other (by omega)).trans ((hk g hlt (by omega)).trans hA)
  · exact hL.fs.close (by dsimp only; omega) (by omega) hf1 hf2 (fun e => by omega)
  · exact hL.ws.close (by dsimp only; omega) (by omega) hf1 hf2 (fun e => by omega)
  · exact ⟨by have := hL.l.1; omega, Or.inr (Or.inl ⟨rfl, l0, _, css, q, bb, cap, bm, hS2⟩)⟩
  · exact hL.cf.wait (by omega) (by show (7 : Int) < 8; decide) (by omega)
/-- a line of a film -/
theorem stepP_film {B g c : Nat} {D : Nat → Prop} {r : RdS} {W0 W W' : World} {f v s k : Ptr} {m : Value} {l0 : List SurfC} {y : SurfC} {css : List (List Value)} {q : Ptr} {bb cap bm g2 cap2 : Nat} {ns : List Int} {res : Option RdS} (hr : res = some ⟨{ r.x with l := l0 ++ [⟨y.s, y.zs ++ ns⟩] }, 7, r.seen⟩) (hat : r.at_ = 7) (hb : Below W0.heap.size W0 W) (hA : ReaderA W g r.x 7 f v s k m) (hL : RdL B g c D r W f v s k m)
    (hS : OwnS B D W c s m r.x.l r.seen l0 y css q bb cap bm) (hrow : W'.ownsRow B 67 3 (.slice (some ⟨g2, 0, none⟩) (q.n + 1) cap2) (q.n + 1) (y.zs.map (Value.int .i64) ++ ns.map (Value.int .i64))) (hgr : GrownD W W' q.v g2) (hg2 : B ≤ g2) (hg0 : B ≤ W0.heap.size) (h1 : c ≤ 100001) :
    StepP B g 7 c D res W0 (.returned (.tuple #[])) (W'.setCell ⟨bb, l0.length * 22 + 21, none⟩ (.slice (some ⟨g2, 0, none⟩) (q.n + 1) cap2)) := by
  have hgB := hL.gB
  have hbb := hS.bbB
  have hlt := lt_of_block hA
  have hs1 := hgr.size
  have hs0 := hb.size
  have hgne : q.v.ownBlock ≠ some g := fun e => by have := (ownBlock_lt hS.coat.row e).1; omega
  have hS2 := hS.film hrow hgr
  have hkf : ∀ b, b < W.heap.size → ¬ D b → (W'.setCell ⟨bb, l0.length * 22 + 21, none⟩ (.slice (some ⟨g2, 0, none⟩) (q.n + 1) cap2)).heap[b]? = W.heap[b]? := fun b h2 h3 => (cell_other (fun e => h3 (by rw [e]; exact hS.dbb))).trans (hgr.kept b h2 (fun e => h3 (hS.coat.inD b e)))
  have hf1 : KeptOn (Fz B D W) W (W'.setCell ⟨bb, l0.length * 22 + 21, none⟩ (.slice (some ⟨g2, 0, none⟩) (q.n + 1) cap2)) := fun b hb => hkf b hb.2.1 hb.2.2
  have hf2 : ∀ b, Fz B D W b → Fz B (fun b => D b ∨ b = g2) (W'.setCell ⟨bb, l0.length * 22 + 21, none⟩ (.slice (some ⟨g2, 0, none⟩) (q.n + 1) cap2)) b := fun b hb => ⟨hb.1, by simpa using Nat.lt_of_lt_of_le hb.2.1 hs1, by
    rintro (e | e)
    · exact hb.2.2 e
    · rcases hgr.hat with e2 | e2
      · exact hb.2.2 (hS.coat.inD b (by rw [e]; exact e2))
      · have := hb.2.1; omega⟩
  refine ⟨(hb.mono (by omega)).trans (below_cell (hgr.below (g := g) (by omega) (fun b e => by have := (ownBlock_lt hS.coat.row e).1; omega)) (by omega)), fun b h2 h3 => (hkf b (by omega) h3).trans (hb.block b h2), Or.inl ⟨_, hr, rfl, fun b => D b ∨ b = g2, fun b h => ?_, f, v, s, k, m, ?_, hgB, by omega, Or.inl hL.dg, fun b hb => ?_, (by dsimp only; omega), (by dsimp only; omega), hL.nm, ?_, ?_, ?_, ?_⟩⟩
  · rcases h with h | h
    · exact Or.inl h
    · rcases hgr.hat with e2 | e2
      · exact Or.inl (hS.coat.inD b (by rw [h]; exact e2))
      · exact Or.inr (by omega)
  · exact (cell_other (by omega)).trans ((hgr.kept g hlt hgne).trans hA)
  · rcases hb with hb | hb
    · exact ⟨(hL.own b hb).1, by simpa using Nat.lt_of_lt_of_le (hL.own b hb).2 hs1⟩
    · exact ⟨Or.inr (by omega), by have := hgr.lt; simp; omega⟩
  · exact hL.fs.close (by dsimp only; omega) (by omega) hf1 hf2 (fun e => by omega)
  · exact hL.ws.close (by dsimp only; omega) (by omega) hf1 hf2 (fun e => by omega)
  · exact ⟨by have := hL.l.1; omega, Or.inr (Or.inl ⟨rfl, l0, _, css, _, bb, cap, bm, hS2⟩)⟩
  · exact hL.cf.wait (by omega) (by show (7 : Int) < 8; decide) (by omega)
/-- a line of a change -/
theorem stepP_change {B g c : Nat} {D : Nat → Prop} {r : RdS} {W0 W W' : World} {f v s k : Ptr} {m : Value} {l0 : List ConfC} {y : ConfC} {css : List (List Value)} {q : Ptr} {bb cap g2 cap2 : Nat} {ns : List Int} {res : Option RdS} (hr : res = some ⟨{ r.x with cf := l0 ++ [⟨y.nm, y.zs ++ ns⟩] }, 8, r.seen⟩) (hat : r.at_ = 8) (hb : Below W0.heap.size W0 W) (hA : ReaderA W g r.x 8 f v s k m) (hL : RdL B g c D r W f v s k m)
    (hS : OwnC B D W c k r.x.cf l0 y css q bb cap) (hrow : W'.ownsRow B 72 3 (.slice (some ⟨g2, 0, none⟩) (q.n + 1) cap2) (q.n + 1) (y.zs.map (Value.int .i64) ++ ns.map (Value.int .i64))) (hgr : GrownD W W' q.v g2) (hg2 : B ≤ g2) (hg0 : B ≤ W0.heap.size) (h1 : c ≤ 100001) :
    StepP B g 8 c D res W0 (.returned (.tuple #[])) (W'.setCell ⟨bb, l0.length * 2 + 1, none⟩ (.slice (some ⟨g2, 0, none⟩) (q.n + 1) cap2)) := by
  have hgB := hL.gB
  have hbb := hS.bbB
  have hlt := lt_of_block hA
  have hs1 := hgr.size
  have hs0 := hb.size
  have hgne : q.v.ownBlock ≠ some g := fun e => by have := (ownBlock_lt hS.coat.row e).1; omega
  have hS2 := hS.film hrow hgr
  have hkf : ∀ b, b < W.heap.size → ¬ D b → (W'.setCell ⟨bb, l0.length * 2 + 1, none⟩ (.slice (some ⟨g2, 0, none⟩) (q.n + 1) cap2)).heap[b]? = W.heap[b]? := fun b h2 h3 => (cell_other (fun e => h3 (by rw [e]; exact hS.dbb))).trans (hgr.kept b h2 (fun e => h3 (hS.coat.inD b e)))
  have hf1 : KeptOn (Fz B D W) W (W'.setCell ⟨bb, l0.length * 2 + 1, none⟩ (.slice (some ⟨g2, 0, none⟩) (q.n + 1) cap2)) := fun b hb => hkf b hb.2.1 hb.2.2
  have hf2 : ∀ b, Fz B D W b → Fz B (fun b => D b ∨ b = g2) (W'.setCell ⟨bb, l0.length * 2 + 1, none⟩ (.slice (some ⟨g2, 0, none⟩) (q.n + 1) cap2)) b := fun b hb => ⟨hb.1, by simpa using Nat.lt_of_lt_of_le hb.2.1 hs1, by
    rintro (e | e)
    · exact hb.2.2 e
    · rcases hgr.hat with e2 | e2
      · exact hb.2.2 (hS.coat.inD b (by rw [e]; exact e2))
      · have := hb.2.1; omega⟩
  refine ⟨(hb.mono (by omega)).trans (below_cell (hgr.below (g := g) (by omega) (fun b e => by have := (ownBlock_lt hS.coat.row e).1; omega)) (by omega)), fun b h2 h3 => (hkf b (by omega) h3).trans (hb.block b h2), Or.inl ⟨_, hr, rfl, fun b => D b ∨ b = g2, fun b h => ?_, f, v, s, k, m, ?_, hgB, by omega, Or.inl hL.dg, fun b hb => ?_, (by dsimp only; omega), (by dsimp only; omega), hL.nm, ?_, ?_, ?_, ?_⟩⟩
  · rcases h with h | h
    · exact Or.inl h
    · rcases hgr.hat with e2 | e2
      · exact Or.inl (hS.coat.inD b (by rw [h]; exact e2))
      · exact Or.inr (by omega)
  · exact (cell_other (by omega)).trans ((hgr.kept g hlt hgne).trans hA)
  · rcases hb with hb | hb
    · exact ⟨(hL.own b hb).1, by simpa using Nat.lt_of_lt_of_le (hL.own b hb).2 hs1⟩
    · exact ⟨Or.inr (by omega), by have := hgr.lt; simp; omega⟩
  · exact hL.fs.close (by dsimp only; omega) (by omega) hf1 hf2 (fun e => by omega)
  · exact hL.ws.close (by dsimp only; omega) (by omega) hf1 hf2 (fun e => by omega)
  · exact hL.l.close (by show (7 : Int) < 8; decide) (by omega) (by omega) hf1 hf2 (fun e => by omega)
  · exact ⟨by have := hL.cf.1; omega, Or.inr (Or.inl ⟨rfl, l0, _, css, _, bb, cap, hS2⟩)⟩
end Go.Proofs.YtgohdcccfkjooaaGreatDoor

namespace Go.Proofs.YtgohdcccfkjooaaGreatDoor
open Go.RowKit

theorem singleR_cases {ws : List (List UInt8)} {e : Ending} (h : SingleR ws e) : (∃ v, ws = [v] ∧ e = .returned (.string (bs v))) ∨ (ws.length ≠ 1 ∧ e = MalS) := by
  match ws, h with
  | [], h => exact Or.inr ⟨by simp, h⟩
  | [v], h => exact Or.inl ⟨v, rfl, h⟩
  | v :: u :: r, h => exact Or.inr ⟨by simp, h⟩
theorem headS_one {x : LensD} {k : Nat} {ws : List (List UInt8)} (hk : k < 5 ∨ k = 7 ∨ k = 8) (h : ws.length ≠ 1) : headS x k ws = none := by
  match ws, h with
  | [], _ => rcases hk with hk | rfl | rfl
             · match k, hk with
               | 0, _ => rfl
               | 1, _ => rfl
               | 2, _ => rfl
               | 3, _ => rfl
               | 4, _ => rfl
               | k + 5, hk => omega
             · rfl
             · rfl
  | [v], h => simp at h
  | v :: u :: r, _ => rcases hk with hk | rfl | rfl
                      · match k, hk with
                        | 0, _ => rfl
                        | 1, _ => rfl
                        | 2, _ => rfl
                        | 3, _ => rfl
                        | 4, _ => rfl
                        | k + 5, hk => omega
                      · rfl
                      · rfl
theorem headS_obj (x : LensD) (v : List UInt8) : headS x 1 [v] = if v = wInfinity then some x else (valS v 6).map fun n => { x with dist := n } := rfl
theorem map_none {x : LensD} {k : Nat} {ws : List (List UInt8)} (h : headS x k ws = none) : ((headS x k ws).map fun y => (⟨y, (k : Int), []⟩ : RdS)) = none := by rw [h]; rfl
theorem map_some {x y : LensD} {k : Nat} {ws : List (List UInt8)} (h : headS x k ws = some y) : ((headS x k ws).map fun y => (⟨y, (k : Int), []⟩ : RdS)) = some ⟨y, (k : Int), []⟩ := by rw [h]; rfl
theorem ReaderA.cell {W : World} {g : Nat} {x : LensD} {at0 : Int} {f v s k : Ptr} {m : Value} (h : ReaderA W g x at0 f v s k m) (j : Nat) : W.cell? ⟨g, j, none⟩ = (cells9 x f v s k ++ [.int .i64 at0, m])[j]? ∧ W.frozen? ⟨g, j, none⟩ = false := by
  have := obj_cell h j
  rw [List.getElem?_toArray] at this
  exact ⟨this, obj_free h j⟩
theorem ReaderA.go {W W' : World} {g : Nat} {x : LensD} {at0 : Int} {f v s k : Ptr} {m : Value} (h : ReaderA W g x at0 f v s k m) (hb : Below W.heap.size W W') : ReaderA W' g x at0 f v s k m := (hb.block g (lt_of_block h)).trans h
theorem RdL.go {B g c : Nat} {D : Nat → Prop} {r : RdS} {W W' : World} {f v s k : Ptr} {m : Value} (h : RdL B g c D r W f v s k m) (hb : Below W.heap.size W W') : RdL B g c D r W' f v s k m := h.keep (fun b _ hb2 => hb.block b hb2) hb.size
theorem stepP_head0 {B g : Nat} {at0 : Int} {c : Nat} {D : Nat → Prop} {r : RdS} {W0 W : World} {f v s k : Ptr} {m : Value} {n : Nat} {res : Option RdS} (hr : res = some ⟨r.x, (n : Int), []⟩) (hb : Below W0.heap.size W0 W) (hA : ReaderA W g r.x at0 f v s k m) (hL : RdL B g c D r W f v s k m)
    (hat : r.at_ < 5) (hn : n < 5) (h1 : c ≤ 100001) (hg0 : g ≤ W0.heap.size) : StepP B g at0 c D res W0 (.returned (.tuple #[])) W :=
  ⟨hb.mono hg0, fun b hb1 _ => hb.block b hb1, Or.inl ⟨_, hr, rfl, D, fun _ h => Or.inl h, f, v, s, k, m, hA, hL.gB, by omega, hL.dg, hL.own, by show (-1 : Int) ≤ (n : Int); omega, by show (n : Int) ≤ 9; omega, hL.nm,
    hL.fs.wait (by omega) (by show (n : Int) < 5; omega) (by omega), hL.ws.wait (by omega) (by show (n : Int) < 6; omega) (by omega), hL.l.wait (by omega) (by show (n : Int) < 7; omega) (by omega), hL.cf.wait (by omega) (by show (n : Int) < 8; omega) (by omega)⟩⟩
theorem bsz (l : List UInt8) : (bs l).size = l.length := rfl
set_option maxHeartbeats 800000 in
theorem hname_any {B g : Nat} {at0 : Int} {cc : Nat} {D : Nat → Prop} {r : RdS} {W : World} {ws : List (List UInt8)} {a : Option Addr} {n c : Nat} (h : RdX B g at0 cc D r W) (hw : Wds W a n c ws W.heap.size) (hl : ∀ s ∈ ws, s.length ≤ 100000) (hat : r.at_ < 5) (hc : cc ≤ 100001) (hB : B ≤ W.heap.size) (hg : GW W) :
    Calls Tryz.prog 327 #[.pointer (some ⟨g, 0, none⟩), .slice a n c] W (StepP B g at0 cc D ((headS r.x 0 ws).map fun y => ⟨y, ((0 : Nat) : Int), []⟩) W) := by
  obtain ⟨f, v, s, k, m, hA, hL⟩ := h
  have hgB := hL.gB
  have HA := Lib.hid hA; have HL := Lib.hid hL; have Hg := Lib.hid hg; have Hat := Lib.hid hat; have Hl := Lib.hid hl; have Hw := Lib.hid hw
  clear hA hL hg hat hl hw
  go_enter Tryz.func327, Tryz.ntmps327
  go_wp2_with fail
  refine (single_any ws a n c _ W Hw.out).mono ?_
  rintro e w1 ⟨he, rfl⟩
  rcases singleR_cases he with ⟨x, rfl, rfl⟩ | ⟨hno, rfl⟩
  · have hx := Hl.out x (by simp)
    obtain ⟨c0, f0⟩ := HA.out.cell 0
    have Hx := Lib.hid hx; clear hx he
    go_wp2_with fail
    go_end0
    exact stepP_head (map_some rfl) (Below.refl _ _) HA.out HL.out rfl ⟨rfl, rfl, rfl, rfl⟩ (by have := Hx.out; show (bs x).size ≤ _; rw [bsz]; omega) Hat.out (by omega) hc (by omega)
  · have hb : StepP B g at0 cc D ((headS r.x 0 ws).map fun y => (⟨y, ((0 : Nat) : Int), []⟩ : RdS)) W MalS W := StepP.bad (map_none (headS_one (by omega) hno)) (Below.refl _ _) (by omega)
    have Hb := Lib.hid hb; clear hb
    have Hb2 := Hb.out
    unfold MalS at Hb2 ⊢
    have Hb3 := Lib.hid Hb2; clear Hb2 Hb
    go_wp2_with fail
    exact ⟨rfl, Hb3.out⟩
set_option maxHeartbeats 800000 in
theorem hpupil_any {B g : Nat} {at0 : Int} {cc : Nat} {D : Nat → Prop} {r : RdS} {W : World} {ws : List (List UInt8)} {a : Option Addr} {n c : Nat} (h : RdX B g at0 cc D r W) (hw : Wds W a n c ws W.heap.size) (hl : ∀ s ∈ ws, s.length ≤ 100000) (hat : r.at_ < 5) (hc : cc ≤ 100001) (hB : B ≤ W.heap.size) (hg : GW W) :
    Calls Tryz.prog 329 #[.pointer (some ⟨g, 0, none⟩), .slice a n c] W (StepP B g at0 cc D ((headS r.x 2 ws).map fun y => ⟨y, ((2 : Nat) : Int), []⟩) W) := by
  obtain ⟨f, v, s, k, m, hA, hL⟩ := h
  have hgB := hL.gB
  have HA := Lib.hid hA; have HL := Lib.hid hL; have Hg := Lib.hid hg; have Hat := Lib.hid hat; have Hl := Lib.hid hl; have Hw := Lib.hid hw
  clear hA hL hg hat hl hw
  go_enter Tryz.func329, Tryz.ntmps329
  go_wp2_with fail
  refine (single_any ws a n c _ W Hw.out).mono ?_
  rintro e w1 ⟨he, rfl⟩
  rcases singleR_cases he with ⟨x, rfl, rfl⟩ | ⟨hno, rfl⟩
  · have hx := Hl.out x (by simp)
    clear he
    go_wp2_with fail
    refine (value_any x 6 W hx (by omega) Hg.out).mono ?_
    rintro e w2 ⟨he, hb2⟩
    cases hv : valS x 6 with
    | none =>
      unfold ValueR at he
      rw [hv] at he
      subst he
      have hb : StepP B g at0 cc D ((headS r.x 2 [x]).map fun y => (⟨y, ((2 : Nat) : Int), []⟩ : RdS)) W MalS w2 := StepP.bad (map_none (by show (valS x 6).map _ = none; rw [hv]; rfl)) hb2 (by omega)
      have Hb2 := hb
      clear hb hv hb2
      unfold MalS at Hb2 ⊢
      have Hb3 := Lib.hid Hb2; clear Hb2
      go_wp2_with fail
      exact ⟨rfl, Hb3.out⟩
    | some z =>
      unfold ValueR at he
      rw [hv] at he
      subst he
      have hA2 := HA.out.go hb2
      have hL2 := HL.out.go hb2
      have hr : ((headS r.x 2 [x]).map fun y => (⟨y, ((2 : Nat) : Int), []⟩ : RdS)) = some ⟨{ r.x with pupil := z }, ((2 : Nat) : Int), []⟩ := map_some (by show (valS x 6).map _ = _; rw [hv]; rfl)
      obtain ⟨c0, f0⟩ := hA2.cell 2
      have HA2 := Lib.hid hA2; have HL2 := Lib.hid hL2; have Hb2 := Lib.hid hb2; have Hr := Lib.hid hr
      clear hA2 hL2 hb2 hr hv
      go_wp2_with fail
      go_end0
      exact stepP_head Hr.out Hb2.out HA2.out HL2.out rfl ⟨rfl, rfl, rfl, rfl⟩ HL2.out.nm Hat.out (by omega) hc (by omega)
  · have hb : StepP B g at0 cc D ((headS r.x 2 ws).map fun y => (⟨y, ((2 : Nat) : Int), []⟩ : RdS)) W MalS W := StepP.bad (map_none (headS_one (by omega) hno)) (Below.refl _ _) (by omega)
    have Hb := Lib.hid hb; clear hb
    have Hb2 := Hb.out
    unfold MalS at Hb2 ⊢
    have Hb3 := Lib.hid Hb2; clear Hb2 Hb
    go_wp2_with fail
    exact ⟨rfl, Hb3.out⟩
set_option maxHeartbeats 800000 in
theorem hstop_any {B g : Nat} {at0 : Int} {cc : Nat} {D : Nat → Prop} {r : RdS} {W : World} {ws : List (List UInt8)} {a : Option Addr} {n c : Nat} (h : RdX B g at0 cc D r W) (hw : Wds W a n c ws W.heap.size) (hl : ∀ s ∈ ws, s.length ≤ 100000) (hat : r.at_ < 5) (hc : cc ≤ 100001) (hB : B ≤ W.heap.size) (hg : GW W) :
    Calls Tryz.prog 330 #[.pointer (some ⟨g, 0, none⟩), .slice a n c] W (StepP B g at0 cc D ((headS r.x 3 ws).map fun y => ⟨y, ((3 : Nat) : Int), []⟩) W) := by
  obtain ⟨f, v, s, k, m, hA, hL⟩ := h
  have hgB := hL.gB
  have HA := Lib.hid hA; have HL := Lib.hid hL; have Hg := Lib.hid hg; have Hat := Lib.hid hat; have Hl := Lib.hid hl; have Hw := Lib.hid hw
  clear hA hL hg hat hl hw
  go_enter Tryz.func330, Tryz.ntmps330
  go_wp2_with fail
  refine (single_any ws a n c _ W Hw.out).mono ?_
  rintro e w1 ⟨he, rfl⟩
  rcases singleR_cases he with ⟨x, rfl, rfl⟩ | ⟨hno, rfl⟩
  · have hx := Hl.out x (by simp)
    clear he
    go_wp2_with fail
    refine (value_any x 0 W hx (by omega) Hg.out).mono ?_
    rintro e w2 ⟨he, hb2⟩
    cases hv : valS x 0 with
    | none =>
      unfold ValueR at he
      rw [hv] at he
      subst he
      have hb : StepP B g at0 cc D ((headS r.x 3 [x]).map fun y => (⟨y, ((3 : Nat) : Int), []⟩ : RdS)) W MalS w2 := StepP.bad (map_none (by show (valS x 0).map _ = none; rw [hv]; rfl)) hb2 (by omega)
      have Hb2 := hb
      clear hb hv hb2
      unfold MalS at Hb2 ⊢
      have Hb3 := Lib.hid Hb2; clear Hb2
      go_wp2_with fail
      exact ⟨rfl, Hb3.out⟩
    | some z =>
      unfold ValueR at he
      rw [hv] at he
      subst he
      have hA2 := HA.out.go hb2
      have hL2 := HL.out.go hb2
      have hr : ((headS r.x 3 [x]).map fun y => (⟨y, ((3 : Nat) : Int), []⟩ : RdS)) = some ⟨{ r.x with stop := z }, ((3 : Nat) : Int), []⟩ := map_some (by show (valS x 0).map _ = _; rw [hv]; rfl)
      obtain ⟨c0, f0⟩ := hA2.cell 3
      have HA2 := Lib.hid hA2; have HL2 := Lib.hid hL2; have Hb2 := Lib.hid hb2; have Hr := Lib.hid hr
      clear hA2 hL2 hb2 hr hv
      go_wp2_with fail
      go_end0
      exact stepP_head Hr.out Hb2.out HA2.out HL2.out rfl ⟨rfl, rfl, rfl, rfl⟩ HL2.out.nm Hat.out (by omega) hc (by omega)
  · have hb : StepP B g at0 cc D ((headS r.x 3 ws).map fun y => (⟨y, ((3 : Nat) : Int), []⟩ : RdS)) W MalS W := StepP.bad (map_none (headS_one (by omega) hno)) (Below.refl _ _) (by omega)
    have Hb := Lib.hid hb; clear hb
    have Hb2 := Hb.out
    unfold MalS at Hb2 ⊢
    have Hb3 := Lib.hid Hb2; clear Hb2 Hb
    go_wp2_with fail
    exact ⟨rfl, Hb3.out⟩
set_option maxHeartbeats 800000 in
theorem hprimary_any {B g : Nat} {at0 : Int} {cc : Nat} {D : Nat → Prop} {r : RdS} {W : World} {ws : List (List UInt8)} {a : Option Addr} {n c : Nat} (h : RdX B g at0 cc D r W) (hw : Wds W a n c ws W.heap.size) (hl : ∀ s ∈ ws, s.length ≤ 100000) (hat : r.at_ < 5) (hc : cc ≤ 100001) (hB : B ≤ W.heap.size) (hg : GW W) :
    Calls Tryz.prog 331 #[.pointer (some ⟨g, 0, none⟩), .slice a n c] W (StepP B g at0 cc D ((headS r.x 4 ws).map fun y => ⟨y, ((4 : Nat) : Int), []⟩) W) := by
  obtain ⟨f, v, s, k, m, hA, hL⟩ := h
  have hgB := hL.gB
  have HA := Lib.hid hA; have HL := Lib.hid hL; have Hg := Lib.hid hg; have Hat := Lib.hid hat; have Hl := Lib.hid hl; have Hw := Lib.hid hw
  clear hA hL hg hat hl hw
  go_enter Tryz.func331, Tryz.ntmps331
  go_wp2_with fail
  refine (single_any ws a n c _ W Hw.out).mono ?_
  rintro e w1 ⟨he, rfl⟩
  rcases singleR_cases he with ⟨x, rfl, rfl⟩ | ⟨hno, rfl⟩
  · have hx := Hl.out x (by simp)
    clear he
    go_wp2_with fail
    refine (value_any x 0 W hx (by omega) Hg.out).mono ?_
    rintro e w2 ⟨he, hb2⟩
    cases hv : valS x 0 with
    | none =>
      unfold ValueR at he
      rw [hv] at he
      subst he
      have hb : StepP B g at0 cc D ((headS r.x 4 [x]).map fun y => (⟨y, ((4 : Nat) : Int), []⟩ : RdS)) W MalS w2 := StepP.bad (map_none (by show (valS x 0).map _ = none; rw [hv]; rfl)) hb2 (by omega)
      have Hb2 := hb
      clear hb hv hb2
      unfold MalS at Hb2 ⊢
      have Hb3 := Lib.hid Hb2; clear Hb2
      go_wp2_with fail
      exact ⟨rfl, Hb3.out⟩
    | some z =>
      unfold ValueR at he
      rw [hv] at he
      subst he
      have hA2 := HA.out.go hb2
      have hL2 := HL.out.go hb2
      have hr : ((headS r.x 4 [x]).map fun y => (⟨y, ((4 : Nat) : Int), []⟩ : RdS)) = some ⟨{ r.x with prim := z }, ((4 : Nat) : Int), []⟩ := map_some (by show (valS x 0).map _ = _; rw [hv]; rfl)
      obtain ⟨c0, f0⟩ := hA2.cell 4
      have HA2 := Lib.hid hA2; have HL2 := Lib.hid hL2; have Hb2 := Lib.hid hb2; have Hr := Lib.hid hr
      clear hA2 hL2 hb2 hr hv
      go_wp2_with fail
      go_end0
      exact stepP_head Hr.out Hb2.out HA2.out HL2.out rfl ⟨rfl, rfl, rfl, rfl⟩ HL2.out.nm Hat.out (by omega) hc (by omega)
  · have hb : StepP B g at0 cc D ((headS r.x 4 ws).map fun y => (⟨y, ((4 : Nat) : Int), []⟩ : RdS)) W MalS W := StepP.bad (map_none (headS_one (by omega) hno)) (Below.refl _ _) (by omega)
    have Hb := Lib.hid hb; clear hb
    have Hb2 := Hb.out
    unfold MalS at Hb2 ⊢
    have Hb3 := Lib.hid Hb2; clear Hb2 Hb
    go_wp2_with fail
    exact ⟨rfl, Hb3.out⟩
set_option maxHeartbeats 800000 in
theorem hobject_any {B g : Nat} {at0 : Int} {cc : Nat} {D : Nat → Prop} {r : RdS} {W : World} {ws : List (List UInt8)} {a : Option Addr} {n c : Nat} (h : RdX B g at0 cc D r W) (hw : Wds W a n c ws W.heap.size) (hl : ∀ s ∈ ws, s.length ≤ 100000) (hat : r.at_ < 5) (hc : cc ≤ 100001) (hB : B ≤ W.heap.size) (hg : GW W) :
    Calls Tryz.prog 328 #[.pointer (some ⟨g, 0, none⟩), .slice a n c] W (StepP B g at0 cc D ((headS r.x 1 ws).map fun y => ⟨y, ((1 : Nat) : Int), []⟩) W) := by
  obtain ⟨f, v, s, k, m, hA, hL⟩ := h
  have hgB := hL.gB
  have HA := Lib.hid hA; have HL := Lib.hid hL; have Hg := Lib.hid hg; have Hat := Lib.hid hat; have Hl := Lib.hid hl; have Hw := Lib.hid hw
  clear hA hL hg hat hl hw
  go_enter Tryz.func328, Tryz.ntmps328
  go_wp2_with fail
  refine (single_any ws a n c _ W Hw.out).mono ?_
  rintro e w1 ⟨he, rfl⟩
  rcases singleR_cases he with ⟨x, rfl, rfl⟩ | ⟨hno, rfl⟩
  · have hx := Hl.out x (by simp)
    clear he
    by_cases hi : x = wInfinity
    · subst hi
      have hp : StepP B g at0 cc D ((headS r.x 1 [wInfinity]).map fun y => (⟨y, ((1 : Nat) : Int), []⟩ : RdS)) W (.returned (.tuple #[])) W := stepP_head0 (map_some (y := r.x) (by rw [headS_obj, if_pos rfl])) (Below.refl _ _) HA.out HL.out Hat.out (by omega) hc (by omega)
      have Hp := Lib.hid hp
      clear hp
      have hne : (bs wInfinity == { data := #[105, 110, 102, 105, 110, 105, 116, 121] }) = true := by decide
      go_wp2_with fail
      go_end0
      exact Hp.out
    · have hne : (x == [105, 110, 102, 105, 110, 105, 116, 121]) = false := by rw [beq_eq_false_iff_ne]; exact hi
      have Hi := Lib.hid hi; clear hi
      go_wp2_with fail
      refine (value_any x 6 W hx (by omega) Hg.out).mono ?_
      rintro e w2 ⟨he, hb2⟩
      cases hv : valS x 6 with
      | none =>
        unfold ValueR at he
        rw [hv] at he
        subst he
        have hb : StepP B g at0 cc D ((headS r.x 1 [x]).map fun y => (⟨y, ((1 : Nat) : Int), []⟩ : RdS)) W MalS w2 := StepP.bad (map_none (by rw [headS_obj, if_neg Hi.out, hv]; rfl)) hb2 (by omega)
        have Hb2 := hb
        clear hb hv hb2
        unfold MalS at Hb2 ⊢
        have Hb3 := Lib.hid Hb2; clear Hb2
        go_wp2_with fail
        exact ⟨rfl, Hb3.out⟩
      | some z =>
        unfold ValueR at he
        rw [hv] at he
        subst he
        have hA2 := HA.out.go hb2
        have hL2 := HL.out.go hb2
        have hr : ((headS r.x 1 [x]).map fun y => (⟨y, ((1 : Nat) : Int), []⟩ : RdS)) = some ⟨{ r.x with dist := z }, ((1 : Nat) : Int), []⟩ := map_some (by rw [headS_obj, if_neg Hi.out, hv]; rfl)
        obtain ⟨c0, f0⟩ := hA2.cell 1
        have HA2 := Lib.hid hA2; have HL2 := Lib.hid hL2; have Hb2 := Lib.hid hb2; have Hr := Lib.hid hr
        clear hA2 hL2 hb2 hr hv
        go_wp2_with fail
        go_end0
        exact stepP_head Hr.out Hb2.out HA2.out HL2.out rfl ⟨rfl, rfl, rfl, rfl⟩ HL2.out.nm Hat.out (by omega) hc (by omega)
  · have hb : StepP B g at0 cc D ((headS r.x 1 ws).map fun y => (⟨y, ((1 : Nat) : Int), []⟩ : RdS)) W MalS W := StepP.bad (map_none (headS_one (by omega) hno)) (Below.refl _ _) (by omega)
    have Hb := Lib.hid hb; clear hb
    have Hb2 := Hb.out
    unfold MalS at Hb2 ⊢
    have Hb3 := Lib.hid Hb2; clear Hb2 Hb
    go_wp2_with fail
    exact ⟨rfl, Hb3.out⟩
set_option maxHeartbeats 800000 in
theorem hend_any {B g : Nat} {at0 : Int} {cc : Nat} {D : Nat → Prop} {r : RdS} {W : World} {ws : List (List UInt8)} {a : Option Addr} {n c : Nat} (h : RdX B g at0 cc D r W) (hw : Wds W a n c ws W.heap.size) (hat : r.at_ ≤ 8) (hc : cc ≤ 100001) (hB : B ≤ W.heap.size) :
    Calls Tryz.prog 336 #[.pointer (some ⟨g, 0, none⟩), .slice a n c] W (StepP B g at0 cc D ((headS r.x 9 ws).map fun y => ⟨y, ((9 : Nat) : Int), []⟩) W) := by
  have hn := hw.1
  have hgB : g < B := by obtain ⟨f, v, s, k, m, hA, hL⟩ := h; exact hL.gB
  have H := Lib.hid h; have Hw := Lib.hid hw; clear h hw
  go_enter Tryz.func336, Tryz.ntmps336
  match ws, hn with
  | [], hn =>
    obtain rfl : n = 0 := hn.symm
    have hp : StepP B g at0 cc D ((headS r.x 9 []).map fun y => (⟨y, ((9 : Nat) : Int), []⟩ : RdS)) W (.returned (.tuple #[])) W := stepP_end (map_some (k := 9) rfl) (Below.refl _ _) H.out hat hc hB
    have Hp := Lib.hid hp; clear hp hn
    go_wp2_with fail
    refine (must_yes W).mono ?_
    rintro e w1 ⟨rfl, rfl⟩
    go_wp2_with fail
    go_end0
    exact Hp.out
  | v :: r', hn =>
    have h0 : ((n : Int) == 0) = false := by rw [beq_eq_false_iff_ne]; simp at hn; omega
    have hb : StepP B g at0 cc D ((headS r.x 9 (v :: r')).map fun y => (⟨y, ((9 : Nat) : Int), []⟩ : RdS)) W MalS W := StepP.bad (map_none (k := 9) rfl) (Below.refl _ _) (by omega)
    have Hb := Lib.hid hb; clear hb hn
    go_wp2_with fail
    refine (must_no W).mono ?_
    rintro e w1 ⟨rfl, rfl⟩
    have Hb2 := Hb.out
    unfold MalS at Hb2 ⊢
    have Hb3 := Lib.hid Hb2; clear Hb2 Hb
    go_wp2_with fail
    exact ⟨rfl, Hb3.out⟩
end Go.Proofs.YtgohdcccfkjooaaGreatDoor

namespace Go.Proofs.YtgohdcccfkjooaaGreatDoor
open Go.RowKit

/-- append of one record to a row of one's own, the record in a block made before -/
theorem wp_append_E {o : Oper} {a : Act} {K : Act → World → Prop} {Q : Exit → Act → World → Prop} {T ST : TypeId} {z : Value} {k bytes : Nat} (hST : Tryz.prog.underlying ST = some (.slice T)) (hT : (Tryz.prog.info? T).map (fun i => (i.zero, i.size, i.bytes)) = some (some z, k, bytes)) (hz : z.cells.size = k) (hk : 0 < k) (hby : bytes ≤ 10000) (s x : Operand)
    (ho : o.op = .call { callee := .builtin .append, args := #[s, x], argTypes := #[ST, ST] }) (base : Nat) (W : World) (v : Value) (n B0 : Nat) (xs cs : List Value)
    (hs : a.eval s = v) (hrow : W.ownsRow base T k v n xs) (hnew : W.heap[B0]? = some (.cells cs.toArray T (0, 0))) (hx : a.eval x = .slice (some ⟨B0, 0, none⟩) 1 1) (hcl : cs.length = k) (h1 : ∀ u ∈ cs, u.oneCell' = true) (hlen : n ≤ 1000000) (hbase : base ≤ W.heap.size)
    (h : ∀ g2 cap w', w'.ownsRow base T k (.slice (some ⟨g2, 0, none⟩) (n + 1) cap) (n + 1) (xs ++ cs) → GrownD W w' v g2 → base ≤ g2 → K (a.put o.dst (.slice (some ⟨g2, 0, none⟩) (n + 1) cap)) w') :
    o.wp Tryz.prog a W K Q := by
  obtain ⟨i, hi1, hi2, hi3, hi4⟩ := info_of hT
  refine wp_append_lies _ s x ST ho base T i z k bytes hST hi1 hi2 hi3 hi4 hz hk v n xs hs hrow ⟨B0, 0, none⟩ 1 1 cs hx (by omega) (World.news_of_block (cs := cs.toArray) (t := T) (fr := (0, 0)) hnew) h1
    (by omega) (by unfold maxLen; omega) (Nat.le_trans (Nat.mul_le_mul (show n + 1 ≤ 1000001 by omega) hby) (by omega)) hbase _ rfl ?_
  intro g2 cap w' hown hgrow hat hlt
  exact h g2 cap w' hown (grownD_of (Below.refl _ _) hgrow hat (Nat.le_refl _) hlt) (hown.lt g2 rfl).1
theorem wpL_append_E {ops : Array Oper} {rest : List Oper} {o : Oper} {a : Act} {Q : Exit → Act → World → Prop} {T ST : TypeId} {z : Value} {k bytes : Nat} (hST : Tryz.prog.underlying ST = some (.slice T)) (hT : (Tryz.prog.info? T).map (fun i => (i.zero, i.size, i.bytes)) = some (some z, k, bytes)) (hz : z.cells.size = k) (hk : 0 < k) (hby : bytes ≤ 10000)
    (hgd : o.guard = none) (s x : Operand)
    (ho : o.op = .call { callee := .builtin .append, args := #[s, x], argTypes := #[ST, ST] }) (base : Nat) (W : World) (v : Value) (n B0 : Nat) (xs cs : List Value)
    (hs : a.eval s = v) (hrow : W.ownsRow base T k v n xs) (hnew : W.heap[B0]? = some (.cells cs.toArray T (0, 0))) (hx : a.eval x = .slice (some ⟨B0, 0, none⟩) 1 1) (hcl : cs.length = k) (h1 : ∀ u ∈ cs, u.oneCell' = true) (hlen : n ≤ 1000000) (hbase : base ≤ W.heap.size)
    (h : ∀ g2 cap w', w'.ownsRow base T k (.slice (some ⟨g2, 0, none⟩) (n + 1) cap) (n + 1) (xs ++ cs) → GrownD W w' v g2 → base ≤ g2 → wpList Tryz.prog ops Q rest (a.put o.dst (.slice (some ⟨g2, 0, none⟩) (n + 1) cap)) w') :
    wpList Tryz.prog ops Q (o :: rest) a W :=
  wpList_plain hgd fun _ hK => wp_append_E hST hT hz hk hby s x ho base W v n B0 xs cs hs hrow hnew hx hcl h1 hlen hbase (fun g2 cap w' h2 h3 h4 => hK _ _ (h g2 cap w' h2 h3 h4))
theorem wds_go {w w' : World} {a : Option Addr} {n c : Nat} {ws : List (List UInt8)} (h : Wds w a n c ws w.heap.size) (hb : Below w.heap.size w w') : Wds w' a n c ws w'.heap.size := h.kept (fun k hk => hb.block k hk) hb.size
theorem headS_field (x : LensD) (ws : List (List UInt8)) : headS x 5 ws = (valsS ws [6, 6]).map fun ns => { x with fs := x.fs ++ ns } := by
  match ws with
  | [] => rfl
  | [_] => rfl
  | _ :: _ :: _ => rfl
theorem headS_wave (x : LensD) (ws : List (List UInt8)) : headS x 6 ws = (valsS ws [3, 0]).map fun ns => { x with ws := x.ws ++ ns } := by
  match ws with
  | [] => rfl
  | [_] => rfl
  | _ :: _ :: _ => rfl
theorem sl_two {w : World} (d e : Nat) : SL (w.alloc (.cells #[.int .i64 (d : Int), .int .i64 (e : Int)] 3)).heap.size (w.alloc (.cells #[.int .i64 (d : Int), .int .i64 (e : Int)] 3)) (some ⟨w.heap.size, 0, none⟩) 2 2 ([d, e].map fun (x : Nat) => (x : Int)) := by
  refine ⟨rfl, Nat.le_refl _, fun _ => ⟨w.heap.size, 0, rfl, by simp, fun j hj => ?_⟩⟩
  have hn := heap_alloc_new w (.cells #[.int .i64 (d : Int), .int .i64 (e : Int)] 3)
  match j, hj with
  | 0, _ => exact obj_cell hn 0
  | 1, _ => exact obj_cell hn 1
  | j + 2, hj => omega
theorem Tryz.infoFieldQ : (Tryz.prog.info? 112).map (fun i => (i.zero, i.size, i.bytes)) = some (some (.agg #[.int .i64 0, .int .i64 0]), 2, 16) := by kernel_rfl
set_option maxRecDepth 100000 in
set_option maxHeartbeats 1600000 in
theorem hfield_any {B g : Nat} {at0 : Int} {cc : Nat} {D : Nat → Prop} {r : RdS} {W : World} {ws : List (List UInt8)} {a : Option Addr} {n c : Nat} (h : RdX B g at0 cc D r W) (hw : Wds W a n c ws W.heap.size) (hl : ∀ s ∈ ws, s.length ≤ 100000) (hn : ws.length ≤ 100000) (hat : r.at_ ≤ 5) (hc : cc ≤ 100001) (hB : B ≤ W.heap.size) (hg : GW W) :
    Calls Tryz.prog 332 #[.pointer (some ⟨g, 0, none⟩), .slice a n c] W (StepP B g at0 cc D ((headS r.x 5 ws).map fun y => ⟨y, ((5 : Nat) : Int), []⟩) W) := by
  obtain ⟨f, v, s, k, m, hA0, hL0⟩ := h
  have hgB := hL0.gB
  have hb1 := (Below.refl W.heap.size W).alloc (Nat.le_refl _) (.cells #[.int .i64 ((6 : Nat) : Int), .int .i64 ((6 : Nat) : Int)] 3)
  have HownW := Lib.hid (hL0.fs.own hat)
  have HA0 := Lib.hid hA0; have HL0 := Lib.hid hL0; have Hw := Lib.hid (wds_go hw hb1); have Hl := Lib.hid hl; have Hg := Lib.hid (hg.below hb1); have Hat := Lib.hid hat; have Hn := Lib.hid hn; have Hb1 := Lib.hid hb1
  have Hwn := Lib.hid hw.1
  clear hA0 hL0 hw hl hg hat hn hb1
  go_enter Tryz.func332, Tryz.ntmps332
  go_wp2_with fail
  refine (values_any ws [6, 6] a _ n 2 c 2 _ Hw.out (sl_two 6 6) (by have := Hwn.out; have := Hn.out; omega) (by omega) Hl.out (by decide) Hg.out).mono ?_
  rintro e w2 he
  cases hv : valsS ws [6, 6] with
  | none =>
    unfold ValuesR at he
    rw [hv] at he
    obtain ⟨rfl, hb2⟩ := he
    have hb : StepP B g at0 cc D ((headS r.x 5 ws).map fun y => (⟨y, ((5 : Nat) : Int), []⟩ : RdS)) W MalS w2 := StepP.bad (map_none (by rw [headS_field, hv]; rfl)) (below_chain Hb1.out hb2) (Nat.le_of_lt (Nat.lt_of_lt_of_le hgB hB))
    have Hb2 := hb
    clear hb hv hb2 Hb1 Hw HA0 HL0 HownW
    unfold MalS at Hb2 ⊢
    have Hb3 := Lib.hid Hb2; clear Hb2
    go_wp2_with fail
    exact ⟨rfl, Hb3.out⟩
  | some zs =>
    have hz := (valsS_len _ _ _ hv)
    unfold ValuesR at he
    rw [hv] at he
    obtain ⟨⟨a2, c2, rfl, hs, hfr⟩, hb2⟩ := he
    obtain ⟨z0, z1, rfl⟩ : ∃ z0 z1, zs = [z0, z1] := by
      have : zs.length = 2 := by rw [hz.1, hz.2]; rfl
      match zs, this with
      | [x, y], _ => exact ⟨x, y, rfl⟩
    obtain ⟨b, off, rfl, hlb, hcs⟩ := hs.at (by show 0 < 2; omega)
    have hbf : W.heap.size < b := by have := hfr b rfl; simp at this; omega
    have n0 : w2.cell? ⟨b, off, none⟩ = some (.int .i64 z0) := hcs 0 (by show 0 < 2; omega)
    have n1 : w2.cell? ⟨b, off + 1, none⟩ = some (.int .i64 z1) := hcs 1 (by show 1 < 2; omega)
    have hc2 : 2 ≤ c2 := hs.2.1
    have hA := HA0.out.go (below_chain Hb1.out hb2)
    have hL := HL0.out.go (below_chain Hb1.out hb2)
    have hr : ((headS r.x 5 ws).map fun y => (⟨y, ((5 : Nat) : Int), []⟩ : RdS)) = some ⟨{ r.x with fs := r.x.fs ++ [z0, z1] }, 5, []⟩ := map_some (k := 5) (by rw [headS_field, hv]; rfl)
    obtain ⟨cg, fg⟩ := hA.cell 5
    have hlg := lt_of_block hA
    have hpn := hL.fs.1
    have Hr := Lib.hid hr; have Hb := Lib.hid (below_chain Hb1.out hb2); have HA := Lib.hid hA; have HL := Lib.hid hL
    have hB2 : B ≤ w2.heap.size := by have := (below_chain Hb1.out hb2).size; omega
    clear hr hA hL hb2 hv hz hcs hs Hb1 Hw HA0 HL0
    obtain ⟨fa, fn, fc⟩ := f
    change w2.cell? ⟨g, 5, none⟩ = some (.slice fa fn fc) at cg
    change fn ≤ cc at hpn
    go_upto_region 1 with fail
    refine wp_region_eagerK (S := fun x => x = g ∨ x = b) 15 [(0, true), (1, true), (2, true), (3, true), (4, true), (5, true), (6, true), (7, true), (8, true), (9, true), (10, true), (11, true), (12, true), (13, false), (14, false)] (by kernel_rfl) (by kernel_rfl) ?_
    iterate 13
      refine wpOrd_yieldK (v := ?_) rfl (fun _ _ _ h => h) (by rfl) ?_ ?_
      rotate_left
      · intro y hy
        have k1 := (hy.cell (p := ⟨g, 5, none⟩) (Or.inl rfl)).trans cg
        have k2 := (hy.cell (p := ⟨b, off, none⟩) (Or.inr rfl)).trans n0
        have k3 := (hy.cell (p := ⟨b, off + 1, none⟩) (Or.inr rfl)).trans n1
        go_simp
        with_reducible rfl
      try simp only [Act.put, List.setIfInBounds_toArray, List.set_cons_zero, List.set_cons_succ]
    refine wpOrd_stepK rfl rfl (fun K hK => ?_)
    go_simp
    refine hK _ _ (fun x hx => alloc_old (by rcases hx with rfl | rfl; exact hlg; exact hlb)) ?_
    clear hK K
    try simp only [Act.put, List.setIfInBounds_toArray, List.set_cons_zero, List.set_cons_succ]
    have hb24 : Below w2.heap.size w2 (w2.drew.alloc (.cells [Value.int .i64 z0, .int .i64 z1].toArray 112)) := below_al ((Below.refl _ _).drew)
    have hA4 := HA.out.go hb24
    have hL4 := HL.out.go hb24
    have hown := hL4.fs.own Hat.out
    have hlb4 := Nat.lt_of_lt_of_le hlb hb24.size
    have hB4 : B ≤ (w2.drew.alloc (.cells [Value.int .i64 z0, .int .i64 z1].toArray 112)).heap.size := by have := hb24.size; omega
    have hlg4 := lt_of_block hA4
    refine wpOrd_stepK rfl rfl (fun K hK => ?_)
    refine wp_append_E Tryz.underlying32 Tryz.infoFieldQ rfl (by omega) (by omega) _ _ rfl B _ (.slice fa fn fc) fn w2.heap.size _ [.int .i64 z0, .int .i64 z1] rfl hown.row (heap_alloc_new w2.drew _) rfl rfl (by simp [Value.oneCell']) (by omega) hB4 ?_
    intro g2 cap w3 hrow hgr hg2
    have hne : b ≠ g ∧ (Value.slice fa fn fc).ownBlock ≠ some b := ⟨by omega, fun e => by have := (ownBlock_lt HownW.out.row e).2; omega⟩
    refine hK _ _ (fun x hx => hgr.kept x (by rcases hx with rfl | rfl; exact hlg4; exact hlb4) (by rcases hx with rfl | rfl; exact (fun e => by have := (ownBlock_lt hown.row e).1; omega); exact hne.2)) ?_
    clear hK K
    have hA3 := (hgr.kept g hlg4 (fun e => by have := (ownBlock_lt hown.row e).1; omega)).trans hA4
    obtain ⟨cg3, fg3⟩ := ReaderA.cell hA3 5
    have HA := Lib.hid hA4; have HL := Lib.hid hL4; have Hb := Lib.hid (below_chain Hb.out hb24); have Hrow := Lib.hid hrow; have Hgr := Lib.hid hgr
    clear hA4 hL4 hown hb24 hrow hgr hA3 cg fg n0 n1
    try simp only [Act.put, List.setIfInBounds_toArray, List.set_cons_zero, List.set_cons_succ]
    refine wpOrd_nilK rfl ?_
    go_wp2_with fail
    go_end0
    exact stepP_field Hr.out Hb.out HA.out HL.out Hrow.out Hgr.out hg2 Hat.out hc hB
theorem Tryz.infoWaveQ : (Tryz.prog.info? 63).map (fun i => (i.zero, i.size, i.bytes)) = some (some (.agg #[.int .i64 0, .int .i64 0]), 2, 16) := by kernel_rfl
set_option maxRecDepth 100000 in
set_option maxHeartbeats 1600000 in
theorem hwave_any {B g : Nat} {at0 : Int} {cc : Nat} {D : Nat → Prop} {r : RdS} {W : World} {ws : List (List UInt8)} {a : Option Addr} {n c : Nat} (h : RdX B g at0 cc D r W) (hw : Wds W a n c ws W.heap.size) (hl : ∀ s ∈ ws, s.length ≤ 100000) (hn : ws.length ≤ 100000) (hat : r.at_ ≤ 6) (hc : cc ≤ 100001) (hB : B ≤ W.heap.size) (hg : GW W) :
    Calls Tryz.prog 333 #[.pointer (some ⟨g, 0, none⟩), .slice a n c] W (StepP B g at0 cc D ((headS r.x 6 ws).map fun y => ⟨y, ((6 : Nat) : Int), []⟩) W) := by
  obtain ⟨f, v, s, k, m, hA0, hL0⟩ := h
  have hgB := hL0.gB
  have hb1 := (Below.refl W.heap.size W).alloc (Nat.le_refl _) (.cells #[.int .i64 ((3 : Nat) : Int), .int .i64 ((0 : Nat) : Int)] 3)
  have HownW := Lib.hid (hL0.ws.own hat)
  have HA0 := Lib.hid hA0; have HL0 := Lib.hid hL0; have Hw := Lib.hid (wds_go hw hb1); have Hl := Lib.hid hl; have Hg := Lib.hid (hg.below hb1); have Hat := Lib.hid hat; have Hn := Lib.hid hn; have Hb1 := Lib.hid hb1
  have Hwn := Lib.hid hw.1
  clear hA0 hL0 hw hl hg hat hn hb1
  go_enter Tryz.func333, Tryz.ntmps333
  go_wp2_with fail
  refine (values_any ws [3, 0] a _ n 2 c 2 _ Hw.out (sl_two 3 0) (by have := Hwn.out; have := Hn.out; omega) (by omega) Hl.out (by decide) Hg.out).mono ?_
  rintro e w2 he
  cases hv : valsS ws [3, 0] with
  | none =>
    unfold ValuesR at he
    rw [hv] at he
    obtain ⟨rfl, hb2⟩ := he
    have hb : StepP B g at0 cc D ((headS r.x 6 ws).map fun y => (⟨y, ((6 : Nat) : Int), []⟩ : RdS)) W MalS w2 := StepP.bad (map_none (by rw [headS_wave, hv]; rfl)) (below_chain Hb1.out hb2) (Nat.le_of_lt (Nat.lt_of_lt_of_le hgB hB))
    have Hb2 := hb
    clear hb hv hb2 Hb1 Hw HA0 HL0 HownW
    unfold MalS at Hb2 ⊢
    have Hb3 := Lib.hid Hb2; clear Hb2
    go_wp2_with fail
    exact ⟨rfl, Hb3.out⟩
  | some zs =>
    have hz := (valsS_len _ _ _ hv)
    unfold ValuesR at he
    rw [hv] at he
    obtain ⟨⟨a2, c2, rfl, hs, hfr⟩, hb2⟩ := he
    obtain ⟨z0, z1, rfl⟩ : ∃ z0 z1, zs = [z0, z1] := by
      have : zs.length = 2 := by rw [hz.1, hz.2]; rfl
      match zs, this with
      | [x, y], _ => exact ⟨x, y, rfl⟩
    obtain ⟨b, off, rfl, hlb, hcs⟩ := hs.at (by show 0 < 2; omega)
    have hbf : W.heap.size < b := by have := hfr b rfl; simp at this; omega
    have n0 : w2.cell? ⟨b, off, none⟩ = some (.int .i64 z0) := hcs 0 (by show 0 < 2; omega)
    have n1 : w2.cell? ⟨b, off + 1, none⟩ = some (.int .i64 z1) := hcs 1 (by show 1 < 2; omega)
    have hc2 : 2 ≤ c2 := hs.2.1
    have hA := HA0.out.go (below_chain Hb1.out hb2)
    have hL := HL0.out.go (below_chain Hb1.out hb2)
    have hr : ((headS r.x 6 ws).map fun y => (⟨y, ((6 : Nat) : Int), []⟩ : RdS)) = some ⟨{ r.x with ws := r.x.ws ++ [z0, z1] }, 6, []⟩ := map_some (k := 6) (by rw [headS_wave, hv]; rfl)
    obtain ⟨cg, fg⟩ := hA.cell 6
    have hlg := lt_of_block hA
    have hpn := hL.ws.1
    have Hr := Lib.hid hr; have Hb := Lib.hid (below_chain Hb1.out hb2); have HA := Lib.hid hA; have HL := Lib.hid hL
    have hB2 : B ≤ w2.heap.size := by have := (below_chain Hb1.out hb2).size; omega
    clear hr hA hL hb2 hv hz hcs hs Hb1 Hw HA0 HL0
    obtain ⟨fa, fn, fc⟩ := v
    change w2.cell? ⟨g, 6, none⟩ = some (.slice fa fn fc) at cg
    change fn ≤ cc at hpn
    go_upto_region 1 with fail
    refine wp_region_eagerK (S := fun x => x = g ∨ x = b) 15 [(0, true), (1, true), (2, true), (3, true), (4, true), (5, true), (6, true), (7, true), (8, true), (9, true), (10, true), (11, true), (12, true), (13, false), (14, false)] (by kernel_rfl) (by kernel_rfl) ?_
    iterate 13
      refine wpOrd_yieldK (v := ?_) rfl (fun _ _ _ h => h) (by rfl) ?_ ?_
      rotate_left
      · intro y hy
        have k1 := (hy.cell (p := ⟨g, 6, none⟩) (Or.inl rfl)).trans cg
        have k2 := (hy.cell (p := ⟨b, off, none⟩) (Or.inr rfl)).trans n0
        have k3 := (hy.cell (p := ⟨b, off + 1, none⟩) (Or.inr rfl)).trans n1
        go_simp
        with_reducible rfl
      try simp only [Act.put, List.setIfInBounds_toArray, List.set_cons_zero, List.set_cons_succ]
    refine wpOrd_stepK rfl rfl (fun K hK => ?_)
    go_simp
    refine hK _ _ (fun x hx => alloc_old (by rcases hx with rfl | rfl; exact hlg; exact hlb)) ?_
    clear hK K
    try simp only [Act.put, List.setIfInBounds_toArray, List.set_cons_zero, List.set_cons_succ]
    have hb24 : Below w2.heap.size w2 (w2.drew.alloc (.cells [Value.int .i64 z0, .int .i64 z1].toArray 63)) := below_al ((Below.refl _ _).drew)
    have hA4 := HA.out.go hb24
    have hL4 := HL.out.go hb24
    have hown := hL4.ws.own Hat.out
    have hlb4 := Nat.lt_of_lt_of_le hlb hb24.size
    have hB4 : B ≤ (w2.drew.alloc (.cells [Value.int .i64 z0, .int .i64 z1].toArray 63)).heap.size := by have := hb24.size; omega
    have hlg4 := lt_of_block hA4
    refine wpOrd_stepK rfl rfl (fun K hK => ?_)
    refine wp_append_E Tryz.underlying33 Tryz.infoWaveQ rfl (by omega) (by omega) _ _ rfl B _ (.slice fa fn fc) fn w2.heap.size _ [.int .i64 z0, .int .i64 z1] rfl hown.row (heap_alloc_new w2.drew _) rfl rfl (by simp [Value.oneCell']) (by omega) hB4 ?_
    intro g2 cap w3 hrow hgr hg2
    have hne : b ≠ g ∧ (Value.slice fa fn fc).ownBlock ≠ some b := ⟨by omega, fun e => by have := (ownBlock_lt HownW.out.row e).2; omega⟩
    refine hK _ _ (fun x hx => hgr.kept x (by rcases hx with rfl | rfl; exact hlg4; exact hlb4) (by rcases hx with rfl | rfl; exact (fun e => by have := (ownBlock_lt hown.row e).1; omega); exact hne.2)) ?_
    clear hK K
    have hA3 := (hgr.kept g hlg4 (fun e => by have := (ownBlock_lt hown.row e).1; omega)).trans hA4
    obtain ⟨cg3, fg3⟩ := ReaderA.cell hA3 6
    have HA := Lib.hid hA4; have HL := Lib.hid hL4; have Hb := Lib.hid (below_chain Hb.out hb24); have Hrow := Lib.hid hrow; have Hgr := Lib.hid hgr
    clear hA4 hL4 hown hb24 hrow hgr hA3 cg fg n0 n1
    try simp only [Act.put, List.setIfInBounds_toArray, List.set_cons_zero, List.set_cons_succ]
    refine wpOrd_nilK rfl ?_
    go_wp2_with fail
    go_end0
    exact stepP_wave Hr.out Hb.out HA.out HL.out Hrow.out Hgr.out hg2 Hat.out hc hB
end Go.Proofs.YtgohdcccfkjooaaGreatDoor

namespace Go.Proofs.YtgohdcccfkjooaaGreatDoor
open Go.RowKit

/-- the surface is appended: the two stores and the map -/
theorem surfW {W' : World} {g : Nat} {x : LensD} {at0 : Int} {f v s k : Ptr} {m : Value} {g2 n cap : Nat} (hA : ReaderA W' g x at0 f v s k m) {W2 : World} (hW : W2 = ((W'.setCell ⟨g, 7, none⟩ (.slice (some ⟨g2, 0, none⟩) n cap)).alloc (.map #[] 0)).setCell ⟨g, 10, none⟩ (.map (some W'.heap.size))) :
    ReaderA W2 g x at0 f v ⟨some ⟨g2, 0, none⟩, n, cap⟩ k (.map (some W'.heap.size)) ∧ MapOf W2 W'.heap.size [] ∧ (∀ b, b ≠ g → b < W'.heap.size → W2.heap[b]? = W'.heap[b]?) ∧ Below g W' W2 := by
  subst hW
  have hlt := lt_of_block hA
  have h1 : ReaderA (W'.setCell ⟨g, 7, none⟩ (.slice (some ⟨g2, 0, none⟩) n cap)) g x at0 f v ⟨some ⟨g2, 0, none⟩, n, cap⟩ k m := reader_put hA rfl
  have hs : (W'.setCell ⟨g, 7, none⟩ (.slice (some ⟨g2, 0, none⟩) n cap)).heap.size = W'.heap.size := by simp
  have h2 : ReaderA ((W'.setCell ⟨g, 7, none⟩ (.slice (some ⟨g2, 0, none⟩) n cap)).alloc (.map #[] 0)) g x at0 f v ⟨some ⟨g2, 0, none⟩, n, cap⟩ k m := (alloc_old (by omega)).trans h1
  refine ⟨reader_put h2 rfl, ⟨#[], 0, (cell_other (by omega)).trans (alloc_at hs), rfl⟩, fun b h3 h4 => (cell_other h3).trans ((alloc_old (by omega)).trans (cell_other h3)), ?_⟩
  exact below_cell ((below_cell (Below.refl g W') (Nat.le_refl _)).alloc (by omega) _) (Nat.le_refl _)
def newSurfZ (z : Int) : Surf := ⟨z, 0, 0, 0, 0, 0, 0, 0, 0, 0, 0, 0, 0, ⟨#[]⟩, 0, 0, 0, 0, 0, 0, 0⟩
theorem surf_ten {W' : World} {g : Nat} {x : LensD} {at0 : Int} {f v s k : Ptr} {m : Value} (g2 n cap : Nat) (hA : ReaderA W' g x at0 f v s k m) : ((W'.setCell ⟨g, 7, none⟩ (.slice (some ⟨g2, 0, none⟩) n cap)).alloc (.map #[] 0)).cell? ⟨g, 10, none⟩ = some m ∧ ((W'.setCell ⟨g, 7, none⟩ (.slice (some ⟨g2, 0, none⟩) n cap)).alloc (.map #[] 0)).frozen? ⟨g, 10, none⟩ = false := by
  have hlt := lt_of_block hA
  have h1 : ReaderA (W'.setCell ⟨g, 7, none⟩ (.slice (some ⟨g2, 0, none⟩) n cap)) g x at0 f v ⟨some ⟨g2, 0, none⟩, n, cap⟩ k m := reader_put hA rfl
  have h2 : ReaderA ((W'.setCell ⟨g, 7, none⟩ (.slice (some ⟨g2, 0, none⟩) n cap)).alloc (.map #[] 0)) g x at0 f v ⟨some ⟨g2, 0, none⟩, n, cap⟩ k m := (alloc_old (by simp; omega)).trans h1
  exact ReaderA.cell h2 10
theorem OwnL.go {α : Type} {R : Rep α} {k : Nat} (ok : RepOk k R) {T : TypeId} {B : Nat} {D : Nat → Prop} {W W' : World} {p : Ptr} {l : List α} {css : List (List Value)} (h : OwnL R k T B D W p l css) (hb : Below W.heap.size W W') : OwnL R k T B D W' p l css :=
  ⟨ownsRow_below h.row hb, h.len, h.n, h.k, fun i x cs h1 h2 => ok.kept (h.rep i x cs h1 h2) (fun b hb2 => hb.block b hb2.2.1) (fun _b hb2 => ⟨hb2.1, Nat.lt_of_lt_of_le hb2.2.1 hb.size, hb2.2.2⟩), h.inD⟩
theorem headS_surf (x : LensD) (v : List UInt8) : headS x 7 [v] = (kNames.findIdx? (· == v)).map fun i => { x with l := x.l ++ [newSurf (i + 1)] } := rfl
theorem findIdx_lt {l : List (List UInt8)} {s : List UInt8} {i : Nat} (h : l.findIdx? (· == s) = some i) : i < l.length := by
  rw [List.findIdx?_eq_some_iff_getElem] at h
  exact h.1
set_option maxRecDepth 100000 in
set_option maxHeartbeats 1600000 in
theorem hsurface_any {B g : Nat} {at0 : Int} {cc : Nat} {D : Nat → Prop} {r : RdS} {W : World} {ws : List (List UInt8)} {a : Option Addr} {n c N : Nat} (h : RdX B g at0 cc D r W) (hw : Wds W a n c ws W.heap.size) (hat : r.at_ ≤ 7) (hc : cc ≤ 100001) (hB : B ≤ W.heap.size) (hT : TW N W) (hN : N ≤ W.heap.size) :
    Calls Tryz.prog 334 #[.pointer (some ⟨g, 0, none⟩), .slice a n c] W (StepP B g at0 cc D ((headS r.x 7 ws).map fun y => ⟨y, ((7 : Nat) : Int), []⟩) W) := by
  have hgB : g < B := by obtain ⟨f, v, s, k, m, hA, hL⟩ := h; exact hL.gB
  obtain ⟨ka, kn, kc, hk, hkw⟩ := hT.kin
  have hkl : 2 < W.heap.size := Nat.lt_of_lt_of_le (Nat.lt_of_lt_of_le (show 2 < 14 by decide) hT.glo) hN
  have hdr : Below W.heap.size W W.drew := ⟨rfl, rfl, rfl, Nat.le_refl _, fun _ _ => rfl⟩
  have hmm := @run_makeMap Tryz.prog
  have hkn : kn = 4 := hkw.1.symm
  subst hkn
  have hkw' : Wds W.drew ka 4 kc kNames N := hkw.kept (fun _ _ => rfl) (Nat.le_refl _)
  have H := Lib.hid (h.go hdr); have Hw := Lib.hid (wds_go hw hdr); have Hat := Lib.hid hat; have Hdr := Lib.hid hdr; have Hk := Lib.hid hkw'
  have hkd : W.drew.cell? ⟨2, 0, none⟩ = some (.slice ka 4 kc) := hk
  have hkld : 2 < W.drew.heap.size := hkl
  clear h hw hat hkw hkw' hT hdr hk hkl
  go_enter Tryz.func334, Tryz.ntmps334
  go_upto_region 0 with fail
  refine wp_region_eager 4 [(0, true), (1, true), (2, false), (3, false)] (by kernel_rfl) (by kernel_rfl) ?_
  iterate 2
    refine wpOrd_yield (v := ?_) rfl (fun _ _ _ h => h) (by rfl) ?_ ?_
    rotate_left
    · intro y hy
      have k1 := (hy.cell (p := ⟨2, 0, none⟩) hkld).trans hkd
      go_simp
      with_reducible rfl
    try simp only [Act.put, List.setIfInBounds_toArray, List.set_cons_zero, List.set_cons_succ]
  refine wpOrd_step rfl rfl (fun KK hKK => ?_)
  go_simp
  refine (single_any ws a n c _ W.drew Hw.out).mono ?_
  rintro e w1 ⟨he, rfl⟩
  rcases singleR_cases he with ⟨x, rfl, rfl⟩ | ⟨hno, rfl⟩
  · refine hKK _ _ (Below.refl _ _) ?_
    clear hKK KK he
    try simp only [Act.put, List.setIfInBounds_toArray, List.set_cons_zero, List.set_cons_succ]
    refine wpOrd_step rfl rfl (fun KK hKK => ?_)
    go_simp
    refine (indexS_any kNames x ka 4 kc N W.drew Hk.out hN (by omega)).mono ?_
    rintro e w2 ⟨rfl, hb2⟩
    refine hKK _ _ hb2 ?_
    clear hKK KK
    try simp only [Act.put, List.setIfInBounds_toArray, List.set_cons_zero, List.set_cons_succ]
    refine wpOrd_nil rfl ?_
    cases hi : kNames.findIdx? (· == x) with
    | none =>
      have hb : StepP B g at0 cc D ((headS r.x 7 [x]).map fun y => (⟨y, ((7 : Nat) : Int), []⟩ : RdS)) W MalS w2 := StepP.bad (map_none (by rw [headS_surf, hi]; rfl)) (Hdr.out.trans hb2) (by omega)
      have Hb2 := hb
      clear hb hi hb2 hkd
      unfold idxV
      unfold MalS at Hb2
      have Hb3 := Lib.hid Hb2; clear Hb2
      go_wp2_with fail
      refine (must_no w2).mono ?_
      rintro e w3 ⟨rfl, rfl⟩
      unfold MalS
      go_wp2_with fail
      exact ⟨rfl, Hb3.out⟩
    | some i =>
      have hi4 : i < 4 := findIdx_lt hi
      have hr : ((headS r.x 7 [x]).map fun y => (⟨y, ((7 : Nat) : Int), []⟩ : RdS)) = some ⟨{ r.x with l := r.x.l ++ [newSurf (i + 1)] }, 7, []⟩ := map_some (k := 7) (by rw [headS_surf, hi]; rfl)
      obtain ⟨f, v, s, k, m, hA, hL⟩ := H.out.go hb2
      have hs1 := hL.l.1
      obtain ⟨css, hO⟩ := hL.l.own Hat.out (by omega)
      obtain ⟨cg, fg⟩ := hA.cell 7
      have hlg := lt_of_block hA
      have hB2 : B ≤ w2.heap.size := by have := hb2.size; exact Nat.le_trans hB this
      have Hr := Lib.hid hr; have HA := Lib.hid hA; have HL := Lib.hid hL; have HO := Lib.hid hO; have Hb := Lib.hid (Hdr.out.trans hb2)
      clear hr hA hL hO hb2 hi Hk H Hw hkd
      obtain ⟨sa, sn, sc⟩ := s
      change w2.cell? ⟨g, 7, none⟩ = some (.slice sa sn sc) at cg
      change sn ≤ cc at hs1
      unfold idxV
      go_wp2_with fail
      refine (must_yes w2).mono ?_
      rintro e w3 ⟨rfl, rfl⟩
      have hal : Below w2.heap.size w2 (w2.alloc (.cells (cells22 (newSurfZ ((i : Int) + 1)) none 0 0).toArray 70)) := (Below.refl _ _).alloc (Nat.le_refl _) _
      have hA4 := HA.out.go hal
      have HA4 := Lib.hid hA4; have HL4 := Lib.hid (HL.out.go hal)
      have hlg4 := lt_of_block hA4
      have hrow4 := ownsRow_below HO.out.row hal
      have hinD := HO.out.inD
      have hB4 : B ≤ (w2.alloc (.cells (cells22 (newSurfZ ((i : Int) + 1)) none 0 0).toArray 70)).heap.size := by have := hal.size; omega
      have hnew := heap_alloc_new w2 (.cells (cells22 (newSurfZ ((i : Int) + 1)) none 0 0).toArray 70)
      have Hal := Lib.hid hal; have Hnew := Lib.hid hnew; have Hrow4 := Lib.hid hrow4; have HinD := Lib.hid hinD
      clear hal hnew hrow4 hinD hA4
      go_wp2_with (refine wpL_append_E Tryz.underlying34 Tryz.infoSurf3 rfl (by omega) (by omega) rfl _ _ rfl B _ (.slice sa sn sc) sn w2.heap.size _ (cells22 (newSurfZ ((i : Int) + 1)) none 0 0) rfl Hrow4.out Hnew.out rfl rfl (by simp [Value.oneCell', cells22]) (by omega) hB4 ?_; intro g2 cap w5 hrow hgr hg2; have hA5 := (hgr.kept g hlg4 (fun e => by have := (ownBlock_lt Hrow4.out e).1; omega)).trans HA4.out; obtain ⟨cg5, fg5⟩ := ReaderA.cell hA5 7; change w5.cell? ⟨g, 7, none⟩ = some (.slice sa sn sc) at cg5; obtain ⟨c10, f10⟩ := surf_ten g2 (sn + 1) cap hA5; have Hrow := Lib.hid hrow; have Hgr := Lib.hid hgr; have HA5 := Lib.hid hA5; clear hrow hgr hA5 cg fg)
      go_end0
      obtain ⟨q1, q2, q3, q4⟩ := surfW (g2 := g2) (n := sn + 1) (cap := cap) HA5.out rfl
      exact stepP_surface Hr.out (below_chain Hb.out Hal.out) HA4.out HL4.out (HO.out.go surfOk Hal.out) Hrow.out Hgr.out hg2 Hat.out hc hB q1 q2 (Nat.le_refl _) q3 q4
  · have hb : StepP B g at0 cc D ((headS r.x 7 ws).map fun y => (⟨y, ((7 : Nat) : Int), []⟩ : RdS)) W MalS W.drew := StepP.bad (map_none (headS_one (by omega) hno)) Hdr.out (by omega)
    have Hb := Lib.hid hb; clear hb
    have Hb2 := Hb.out
    unfold MalS at Hb2 ⊢
    have Hb3 := Lib.hid Hb2; clear Hb2 Hb
    exact ⟨rfl, Hb3.out⟩
theorem headS_conf (x : LensD) (v : List UInt8) : headS x 8 [v] = some { x with cf := x.cf ++ [⟨bs v, []⟩] } := rfl
theorem Tryz.infoConfQ : (Tryz.prog.info? 75).map (fun i => (i.zero, i.size, i.bytes)) = some (some (.agg #[.string { data := #[] }, .slice none 0 0]), 2, 40) := by kernel_rfl
set_option maxRecDepth 100000 in
set_option maxHeartbeats 1600000 in
theorem hconfig_any {B g : Nat} {at0 : Int} {cc : Nat} {D : Nat → Prop} {r : RdS} {W : World} {ws : List (List UInt8)} {a : Option Addr} {n c : Nat} (h : RdX B g at0 cc D r W) (hw : Wds W a n c ws W.heap.size) (hl : ∀ s ∈ ws, s.length ≤ 100000) (hat : r.at_ ≤ 8) (hc : cc ≤ 100001) (hB : B ≤ W.heap.size) :
    Calls Tryz.prog 335 #[.pointer (some ⟨g, 0, none⟩), .slice a n c] W (StepP B g at0 cc D ((headS r.x 8 ws).map fun y => ⟨y, ((8 : Nat) : Int), []⟩) W) := by
  have hdr : Below W.heap.size W W.drew := ⟨rfl, rfl, rfl, Nat.le_refl _, fun _ _ => rfl⟩
  obtain ⟨f, v, s, k, m, hA, hL⟩ := h.go hdr
  have hgB := hL.gB
  have hs1 := hL.cf.1
  have hc1 := hL.c1
  obtain ⟨css, hO⟩ := hL.cf.own hat (by omega)
  obtain ⟨cg, fg⟩ := hA.cell 8
  have hlg := lt_of_block hA
  have hBd : B ≤ W.drew.heap.size := hB
  have Hw := Lib.hid (wds_go hw hdr); have Hat := Lib.hid hat; have Hdr := Lib.hid hdr; have HA := Lib.hid hA; have HL := Lib.hid hL; have HO := Lib.hid hO; have Hl := Lib.hid hl
  clear h hw hat hdr hA hL hO hl
  obtain ⟨ka, kn, kc⟩ := k
  change W.drew.cell? ⟨g, 8, none⟩ = some (.slice ka kn kc) at cg
  change kn ≤ cc at hs1
  go_enter Tryz.func335, Tryz.ntmps335
  refine wp_region_eagerK (S := fun x => x = g) 11 [(0, true), (1, true), (2, true), (3, true), (4, true), (5, true), (6, true), (7, false), (8, true), (9, false), (10, false)] (by kernel_rfl) (by kernel_rfl) ?_
  iterate 7
    refine wpOrd_yieldK (v := ?_) rfl (fun _ _ _ h => h) (by rfl) ?_ ?_
    rotate_left
    · intro y hy
      have k1 := (hy.cell (p := ⟨g, 8, none⟩) rfl).trans cg
      go_simp
      with_reducible rfl
    try simp only [Act.put, List.setIfInBounds_toArray, List.set_cons_zero, List.set_cons_succ]
  refine wpOrd_stepK rfl rfl (fun KK hKK => ?_)
  go_simp
  refine (single_any ws a n c _ W.drew Hw.out).mono ?_
  rintro e w1 ⟨he, rfl⟩
  rcases singleR_cases he with ⟨x, rfl, rfl⟩ | ⟨hno, rfl⟩
  · refine hKK _ _ (KeptOn.refl _ _) ?_
    clear hKK KK he
    try simp only [Act.put, List.setIfInBounds_toArray, List.set_cons_zero, List.set_cons_succ]
    iterate 1
      refine wpOrd_yieldK (v := ?_) rfl (fun _ _ _ h => h) (by rfl) ?_ ?_
      rotate_left
      · intro y hy
        skip
        go_simp
        with_reducible rfl
      try simp only [Act.put, List.setIfInBounds_toArray, List.set_cons_zero, List.set_cons_succ]
    have hx := Hl.out x (by simp)
    have hal : Below W.drew.heap.size W.drew (W.drew.alloc (.cells [Value.string (bs x), .slice none 0 0].toArray 75)) := (Below.refl _ _).alloc (Nat.le_refl _) _
    have hA4 := HA.out.go hal
    have hlg4 := lt_of_block hA4
    have hrow4 := ownsRow_below HO.out.row hal
    have hB4 : B ≤ (W.drew.alloc (.cells [Value.string (bs x), .slice none 0 0].toArray 75)).heap.size := by have := hal.size; omega
    refine wpOrd_stepK rfl rfl (fun KK hKK => ?_)
    go_simp
    refine hKK _ _ (fun y hy => alloc_old (by cases hy; exact hlg)) ?_
    clear hKK KK
    try simp only [Act.put, List.setIfInBounds_toArray, List.set_cons_zero, List.set_cons_succ]
    refine wpOrd_stepK rfl rfl (fun KK hKK => ?_)
    refine wp_append_E Tryz.underlying35 Tryz.infoConfQ rfl (by omega) (by omega) _ _ rfl B _ (.slice ka kn kc) kn W.heap.size _ [.string (bs x), .slice none 0 0] rfl hrow4 (heap_alloc_new W.drew _) rfl rfl (by simp [Value.oneCell']) (by omega) hB4 ?_
    intro g2 cap w5 hrow hgr hg2
    have hgne : (Value.slice ka kn kc).ownBlock ≠ some g := fun e => by have := (ownBlock_lt hrow4 e).1; omega
    refine hKK _ _ (fun y hy => by cases hy; exact hgr.kept g hlg4 hgne) ?_
    clear hKK KK
    have hA5 := (hgr.kept g hlg4 hgne).trans hA4
    obtain ⟨cg5, fg5⟩ := ReaderA.cell hA5 8
    change w5.cell? ⟨g, 8, none⟩ = some (.slice ka kn kc) at cg5
    have HA4 := Lib.hid hA4; have HL4 := Lib.hid (HL.out.go hal); have HO4 := Lib.hid (HO.out.go confOk hal); have Hal := Lib.hid (Hdr.out.trans hal); have Hrow := Lib.hid hrow; have Hgr := Lib.hid hgr; have Hx := Lib.hid hx
    clear hA4 hal hrow hgr hrow4 hA5 cg fg hx
    try simp only [Act.put, List.setIfInBounds_toArray, List.set_cons_zero, List.set_cons_succ]
    refine wpOrd_nilK rfl ?_
    go_wp2_with fail
    go_end0
    exact stepP_config (map_some (k := 8) (headS_conf _ _)) (by rw [bsz]; have := Hx.out; omega) Hal.out HA4.out HL4.out HO4.out Hrow.out Hgr.out hg2 Hat.out hc hB
  · have hb : StepP B g at0 cc D ((headS r.x 8 ws).map fun y => (⟨y, ((8 : Nat) : Int), []⟩ : RdS)) W MalS W.drew := StepP.bad (map_none (headS_one (by omega) hno)) Hdr.out (by omega)
    have Hb := Lib.hid hb; clear hb
    have Hb2 := Hb.out
    unfold MalS at Hb2 ⊢
    have Hb3 := Lib.hid Hb2; clear Hb2 Hb
    exact ⟨rfl, Hb3.out⟩
end Go.Proofs.YtgohdcccfkjooaaGreatDoor
