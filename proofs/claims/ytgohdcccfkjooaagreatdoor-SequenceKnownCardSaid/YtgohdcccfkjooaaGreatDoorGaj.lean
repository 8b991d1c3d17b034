/-
  DERIVED. Several texts in one: SqTa, SqTb, SqTc, SqTd, SqW, SqX, SqY.
-/
import Derived.Test.YtgohdcccfkjooaaGreatDoorGai
import Derived.Test.YtgohdcccfkjooaaGreatDoorHSqV
namespace Go.Proofs.YtgohdcccfkjooaaGreatDoor
open Go.RowKit

/-- name, digits, value -/
abbrev ValP := List UInt8 × Nat × Int
def oneV (x : ValP) : List UInt8 := if x.2.2 = 0 then [] else lineS [x.1, numT x.2.2 x.2.1]
def valT (xs : List ValP) : List UInt8 := (xs.map oneV).flatten
/-- a block that a writer leaves as it is -/
def Stay (B bw : Nat) (w : World) (k : Nat) : Prop := k < B ∨ ∃ cs T fr, w.heap[k]? = some (.cells cs T fr) ∧ T ≠ 5 ∧ k ≠ bw
theorem Stay.block {B bw k : Nat} {w w' : World} (h : Stay B bw w k) (hb : Below B w w') (hk : KeptT bw w w') : w'.heap[k]? = w.heap[k]? := by
  rcases h with h | ⟨cs, T, fr, h1, h2, h3⟩
  · exact hb.block k h
  · exact (hk k cs T fr h1 h2 h3).trans h1.symm
theorem Stay.go {B bw k : Nat} {w w' : World} (h : Stay B bw w k) (_hb : Below B w w') (hk : KeptT bw w w') : Stay B bw w' k := by
  rcases h with h | ⟨cs, T, fr, h1, h2, h3⟩
  · exact Or.inl h
  · exact Or.inr ⟨cs, T, fr, hk k cs T fr h1 h2 h3, h2, h3⟩
def ParIn (w : World) (bS b o : Nat) (x : ValP) : Prop := ∃ fid k, w.rangeAt b o [.string (bs x.1), .int .i64 (x.2.1 : Int), .func (.func fid) #[] #[]] ∧ (∀ b k0 w, Calls Tryz.prog fid #[.pointer (some ⟨b, k0, none⟩)] w fun e w' => e = .returned (.pointer (some ⟨b, k0 + k, none⟩)) ∧ w = w') ∧
  (∀ args w, (callFunc fid args).run Tryz.prog w = .ok (.enter fid args) w) ∧ w.cell? ⟨bS, k, none⟩ = some (.int .i64 x.2.2) ∧ x.2.1 ≤ 18 ∧ -9223372036854775808 ≤ x.2.2 ∧ x.2.2 ≤ 9223372036854775807
theorem ParIn.go {w w' : World} {bS b o : Nat} {x : ValP} (h : ParIn w bS b o x) (h1 : w'.heap[b]? = w.heap[b]?) (h2 : w'.heap[bS]? = w.heap[bS]?) : ParIn w' bS b o x := by
  obtain ⟨fid, k, q1, q2, q3, q4, q5⟩ := h
  exact ⟨fid, k, fun j v hv => (World.cell?_of_block (a := ⟨b, o + j, none⟩) h1).trans (q1 j v hv), q2, q3, (World.cell?_of_block (a := ⟨bS, k, none⟩) h2).trans q4, q5⟩
theorem valT_next {xs : List ValP} {k : Nat} {x : ValP} (h : xs[k]? = some x) : valT (xs.take (k + 1)) = valT (xs.take k) ++ oneV x := by
  unfold valT
  rw [take_next h, List.map_append, List.flatten_append]
  simp
theorem valT_le (xs : List ValP) (k : Nat) : (valT (xs.take k)).length ≤ (valT xs).length := by
  have : valT xs = valT (xs.take k) ++ valT (xs.drop k) := by
    unfold valT
    rw [← List.flatten_append, ← List.map_append, List.take_append_drop]
  rw [this, List.length_append]; omega
def RetW (B bw : Nat) (l : List UInt8) (w : World) (e : Ending) (w' : World) : Prop := e = .returned (.tuple #[]) ∧ Lib.IsBuilder 108 5 B bw (Lib.byteCells l) w' ∧ Below B w w' ∧ KeptT bw w w'
set_option maxRecDepth 100000 in
set_option maxHeartbeats 1600000 in
theorem wvalues_any (xs : List ValP) (b o n c bS bw B : Nat) (l : List UInt8) (w : World) (hx : ∀ i x, xs[i]? = some x → ParIn w bS b (o + i * 3) x) (hn : xs.length = n) (hnc : n ≤ c) (hn1 : n ≤ 1000) (hsb : Stay B bw w b) (hsS : Stay B bw w bS)
    (hb : Lib.IsBuilder 108 5 B bw (Lib.byteCells l) w) (hB : B ≤ w.heap.size) (hl : l.length + (valT xs).length ≤ 1000000) (hg : GW w) (hNB : 14 ≤ B) :
    Calls Tryz.prog 81 #[.pointer (some ⟨bw, 0, none⟩), .pointer (some ⟨bS, 0, none⟩), .slice (some ⟨b, o, none⟩) n c] w (RetW B bw (l ++ valT xs) w) := by
  have Hx := Lib.hid hx; have Hsb := Lib.hid hsb; have HsS := Lib.hid hsS; have Hb := Lib.hid hb; have Hl := Lib.hid hl; have Hg := Lib.hid hg; have Hn := Lib.hid hn
  clear hx hsb hsS hb hl hg hn
  go_enter Tryz.func81, Tryz.ntmps81
  go_wp2_with fail
  go_loopw [11] (fun iv wr => ∃ k : Nat, k ≤ n ∧ iv = .int .i64 (k : Int) ∧ Lib.IsBuilder 108 5 B bw (Lib.byteCells (l ++ valT (xs.take k))) wr ∧ Below B w wr ∧ KeptT bw w wr) (fun iv _ => n - (intOf iv).toNat)
  case atStart => exact ⟨0, Nat.zero_le _, rfl, by simpa [valT] using Hb.out, Below.refl _ _, KeptT.refl _ _⟩
  case round =>
    obtain ⟨k, hk, rfl, hbk, hbe, hkt⟩ := hrel
    have Hbk := Lib.hid hbk; have Hbe := Lib.hid hbe; have Hkt := Lib.hid hkt
    clear hbk hbe hkt
    by_cases hkn : k < n
    · obtain ⟨x, hx⟩ : ∃ x, xs[k]? = some x := ⟨xs[k]'(by rw [Hn.out]; exact hkn), List.getElem?_eq_getElem _⟩
      have hpar := (Hx.out k x hx).go (Hsb.out.block Hbe.out Hkt.out) (HsS.out.block Hbe.out Hkt.out)
      obtain ⟨nm, d, z⟩ := x
      obtain ⟨fid, kk, hrange, hcall, hent, hz, hd, hz1, hz2⟩ := hpar
      have Hxk := Lib.hid hx; have Hrange := Lib.hid hrange; have Hcall := Lib.hid hcall
      clear hx hrange hcall
      have hzl := lt_of_cell hz
      go_wp2_with (first
        | (refine wpL_load_par (.tmp 13) rfl rfl rfl Hrange.out ?_)
        | (refine wpL_store_par (heap_alloc_new wr _) rfl rfl (.tmp 7) (.tmp 14) rfl rfl rfl ?_; intro w5 hb5 hbe5; have hbw5 := hbe5 wr.heap.size wr (Nat.le_refl _) ((Below.refl _ _).alloc (Nat.le_refl _) _); have Hb5 := Lib.hid hb5; have Hbe5 := Lib.hid hbw5; have e2 := obj_cell hb5 2; clear hb5 hbe5 hbw5))
      refine (Hcall.out bS 0 _).mono ?_
      rintro e w6 ⟨rfl, rfl⟩
      rw [Nat.zero_add]
      clear hent e2
      have hz5 : w5.cell? ⟨bS, kk, none⟩ = some (.int .i64 z) := (Hbe5.out.cell (p := ⟨bS, kk, none⟩) hzl).trans hz
      clear hz
      have hle := valT_le xs (k + 1)
      rw [valT_next Hxk.out, List.length_append] at hle
      have Hle := Lib.hid hle; clear hle
      by_cases hz0 : z = 0
      · subst hz0
        have h1 : oneV (nm, d, (0 : Int)) = [] := by unfold oneV; rw [if_pos rfl]
        have H1 := Lib.hid h1; clear h1
        go_wp2_with fail
        go_roundw
        case rel => exact ⟨k + 1, by omega, by go_num, by rw [valT_next Hxk.out, H1.out, List.append_nil]; exact isBuilderW_below Hbk.out Hbe5.out, Hbe.out.trans (Hbe5.out.mono (Nat.le_trans hB Hbe.out.size)), Hkt.out.trans (KeptT.below Hbe5.out)⟩
        case measure => simp [intOf]; omega
      · have h1 : oneV (nm, d, z) = lineS [nm, numT z d] := by unfold oneV; rw [if_neg hz0]
        have hzb : (z != 0) = true := by rw [bne_iff_ne]; exact hz0
        have hzc : (z == 0) = false := by rw [beq_eq_false_iff_ne]; exact hz0
        have H1 := Lib.hid h1; clear h1
        have e0 := obj_cell Hb5.out 0
        have e1 := obj_cell Hb5.out 1
        have hlp := lt_of_block Hb5.out
        change w5.cell? ⟨wr.heap.size, 0, none⟩ = some (.string (bs nm)) at e0
        change w5.cell? ⟨wr.heap.size, 1, none⟩ = some (.int .i64 (d : Int)) at e1
        clear hz0
        go_wp2_with fail
        go_upto_region 5 with fail
        refine wp_region_eager 8 [(0, true), (1, true), (2, true), (3, true), (4, true), (5, true), (6, false), (7, false)] (by kernel_rfl) (by kernel_rfl) ?_
        iterate 6
          refine wpOrd_yield (v := ?_) rfl (fun _ _ _ h => h) (by rfl) ?_ ?_
          rotate_left
          · intro y hy
            have k1 := (hy.cell (p := ⟨wr.heap.size, 0, none⟩) hlp).trans e0
            have k2 := (hy.cell (p := ⟨wr.heap.size, 1, none⟩) hlp).trans e1
            go_simp
            with_reducible rfl
          try simp only [Act.put, List.setIfInBounds_toArray, List.set_cons_zero, List.set_cons_succ]
        refine wpOrd_step rfl rfl (fun KK hKK => ?_)
        go_simp
        have hb5 : Below wr.heap.size wr w5.drew := Hbe5.out.drew
        refine (numberS_any z d w5.drew hz1 hz2 hd ((Hg.out.of Hbe.out hNB).below hb5)).mono ?_
        rintro e w7 ⟨rfl, hb7⟩
        refine hKK _ _ hb7 ?_
        clear hKK KK
        try simp only [Act.put, List.setIfInBounds_toArray, List.set_cons_zero, List.set_cons_succ]
        have hb57 : Below wr.heap.size wr w7 := hb5.trans (hb7.mono Hbe5.out.size)
        refine wpOrd_step rfl rfl (fun KK hKK => ?_)
        go_simp
        refine hKK _ _ ((Below.refl _ _).alloc (Nat.le_refl _) _) ?_
        clear hKK KK
        try simp only [Act.put, List.setIfInBounds_toArray, List.set_cons_zero, List.set_cons_succ]
        refine wpOrd_nil rfl ?_
        have hb8 : Below wr.heap.size wr (w7.alloc (.cells #[.string (bs nm), .string (bs (numT z d))] 9)) := hb57.alloc hb57.size _
        have hnew := heap_alloc_new w7 (.cells #[.string (bs nm), .string (bs (numT z d))] 9)
        have hB8 : B ≤ (w7.alloc (.cells #[.string (bs nm), .string (bs (numT z d))] 9)).heap.size := by have := hb8.size; have := Hbe.out.size; omega
        have Hb8 := Lib.hid hb8; have Hnew := Lib.hid hnew
        clear hb8 hnew hb57 hb7 hb5 e0 e1 hz5
        go_wp2_with fail
        refine (lineW_any [nm, numT z d] w7.heap.size 0 2 B bw (l ++ valT (xs.take k)) _ (fun i x hx => ?_) (by simp) (by simp) (by simp) (by have := Hle.out; have := Hl.out; rw [H1.out] at *; rw [List.length_append]; omega) (isBuilderW_below Hbk.out Hb8.out) hB8).mono ?_
        · match i, hx with
          | 0, hx => cases hx; exact obj_cell Hnew.out 0
          | 1, hx => cases hx; exact obj_cell Hnew.out 1
        · rintro e w9 ⟨rfl, h9, h10, h11⟩
          have H9 := Lib.hid h9; have H10 := Lib.hid h10; have H11 := Lib.hid h11
          clear h9 h10 h11
          go_wp2_with fail
          go_roundw
          case rel => exact ⟨k + 1, by omega, by go_num, by rw [valT_next Hxk.out, H1.out, ← List.append_assoc]; exact H9.out, Hbe.out.trans ((Hb8.out.mono (Nat.le_trans hB Hbe.out.size)).trans H10.out), Hkt.out.trans ((KeptT.below Hb8.out).trans H11.out)⟩
          case measure => simp [intOf]; omega
    · obtain rfl : k = n := by omega
      go_wp2_with fail
      go_end0
      have h1 := Hbk.out
      rw [List.take_of_length_le (by rw [Hn.out]; exact Nat.le_refl _)] at h1
      exact ⟨rfl, h1, Hbe.out, Hkt.out⟩
end Go.Proofs.YtgohdcccfkjooaaGreatDoor

namespace Go.Proofs.YtgohdcccfkjooaaGreatDoor
open Go.RowKit

/-! ### a valid surface's numbers -/
theorem outB_in {lo hi : Int} {l : List Int} (h : (!outB lo hi l) = true) : ∀ x ∈ l, lo ≤ x ∧ x ≤ hi := by
  intro x hx
  unfold outB at h
  rw [Bool.not_eq_true', List.any_eq_false] at h
  have := h x hx
  simp at this
  omega
theorem okS_tests {s : Surf} {zs : List Int} {n : Nat} (h : okS s zs n = true) : test2 s = true ∧ test3 s = true ∧ test4 s = true := by
  have h1 : tests s zs n = true := by unfold okS at h; simp at h; exact h.1
  exact ⟨List.all_eq_true.1 h1 1 (by simp), List.all_eq_true.1 h1 2 (by simp), List.all_eq_true.1 h1 3 (by simp)⟩
theorem okS_rng {s : Surf} {zs : List Int} {n : Nat} (h : okS s zs n = true) : (∀ p : Int, -1000000000 ≤ s.get p ∧ s.get p ≤ 1000000000) ∧ (0 ≤ s.hole ∧ s.hole ≤ 1000000000) ∧ (-3 ≤ s.order ∧ s.order ≤ 3) := by
  obtain ⟨h2, h3, h4⟩ := okS_tests h
  unfold test2 at h2
  unfold test3 at h3
  unfold test4 at h4
  simp only [Bool.and_eq_true] at h2 h3 h4
  have a1 := outB_in h2.1.1; have a2 := outB_in h2.1.2; have a3 := outB_in h2.2
  have b1 := outB_in h3.1; have b2 := outB_in h3.2
  have c1 := outB_in h4.1; have c2 := outB_in h4.2
  simp only [List.forall_mem_cons, List.not_mem_nil, false_implies, implies_true, and_true] at a1 a2 a3 b1 b2 c1 c2
  refine ⟨fun p => ?_, by omega, by omega⟩
  unfold Surf.get
  repeat' split
  all_goals omega
theorem film_rng {s : Surf} {zs : List Int} {n : Nat} (h : okS s zs n = true) {k : Nat} (hk : k < n) : (0 ≤ zs.getD (k * 3) 0 ∧ zs.getD (k * 3) 0 ≤ 40000000) ∧ (0 ≤ zs.getD (k * 3 + 1) 0 ∧ zs.getD (k * 3 + 1) 0 ≤ 1000) ∧ (0 ≤ zs.getD (k * 3 + 2) 0 ∧ zs.getD (k * 3 + 2) 0 ≤ 1000) := by
  have h1 : filmB zs k = true := by
    unfold okS at h
    rw [Bool.and_eq_true] at h
    exact List.all_eq_true.1 h.2 k (List.mem_range.2 hk)
  unfold filmB okFilm at h1
  simp only [Bool.and_eq_true] at h1
  have a1 := outB_in h1.1.1 _ (List.mem_singleton.2 rfl)
  have a2 := outB_in h1.1.2 _ (List.mem_singleton.2 rfl)
  have a3 := outB_in h1.2 _ (List.mem_singleton.2 rfl)
  omega
theorem flat_succ (f : Nat → List UInt8) (k : Nat) : ((List.range (k + 1)).map f).flatten = ((List.range k).map f).flatten ++ f k := by
  rw [List.range_succ, List.map_append, List.flatten_append]
  simp
theorem flat_len (f : Nat → List UInt8) {k : Nat} : ∀ {n : Nat}, k < n → ((List.range k).map f).flatten.length + (f k).length ≤ ((List.range n).map f).flatten.length
  | 0, h => by omega
  | n + 1, h => by
    rw [flat_succ, List.length_append]
    by_cases e : k = n
    · subst e; omega
    · have := flat_len f (k := k) (n := n) (by omega)
      omega
theorem listB_nil {g : ByteArray} (h : listB g = []) : g = { data := #[] } := by
  obtain ⟨d⟩ := g
  have : d.toList = [] := h
  rw [Array.toList_eq_nil_iff.1 this]
theorem bs_listB (g : ByteArray) : bs (listB g) = g := by
  obtain ⟨d⟩ := g
  rfl
/-! ### its parameters in memory -/
def parL (s : Surf) (from_ n : Nat) : List ValP := (List.range n).map fun i => (nameP (from_ + i), digP (from_ + i), s.get ((from_ + i : Nat) : Int))
theorem valT_par (s : Surf) (from_ n : Nat) : valT (parL s from_ n) = someT s from_ n := by
  unfold valT parL someT
  rw [List.map_map]
  rfl
theorem parIn_par {N : Nat} {w : World} {bS : Nat} {s : Surf} {a : Option Addr} {n c : Nat} (hT : TW N w) (hS : SurfB w bS s a n c) {zs : List Int} {m : Nat} (ho : okS s zs m = true) (from_ k : Nat) (h1 : 1 ≤ from_) (h2 : from_ + k ≤ 18) : ∀ i x, (parL s from_ k)[i]? = some x → ParIn w bS 0 ((from_ - 1) * 3 + i * 3) x := by
  intro i x hx
  unfold parL at hx
  rw [List.getElem?_map] at hx
  cases hi : (List.range k)[i]? with
  | none => rw [hi] at hx; cases hx
  | some j =>
    obtain ⟨hik, hij⟩ := List.getElem?_eq_some_iff.1 hi
    rw [List.length_range] at hik
    rw [List.getElem_range] at hij
    subst hij
    rw [hi] at hx
    cases hx
    have hr := (okS_rng ho).1 ((from_ + i : Nat) : Int)
    have hp := hT.par (from_ - 1 + i) (by omega)
    have hg := hS.getP (p := ((from_ + i : Nat) : Int)) (by omega) (by omega)
    refine ⟨fnP (from_ - 1 + i), offP (from_ - 1 + i), ?_, fun b k0 w => fnP_any _ (by omega) b k0 w, fnP_enter _ (by omega), ?_, digP_le _, by show _ ≤ s.get _; omega, by show s.get _ ≤ _; omega⟩
    · have e1 : (from_ - 1) * 3 + i * 3 = (from_ - 1 + i) * 3 := by rw [Nat.add_mul]
      have e2 : nameP (from_ + i) = pNames.getD (from_ - 1 + i) [] := by unfold nameP; rw [show from_ + i - 1 = from_ - 1 + i by omega]
      have e3 : from_ - 1 + i + 1 = from_ + i := by omega
      rw [e1]
      rw [e3] at hp
      show w.rangeAt _ _ [.string (bs (nameP (from_ + i))), .int .i64 (digP (from_ + i) : Int), _]
      rw [e2]; exact hp
    · rw [offP_place _ (by omega)]
      have e4 : ((from_ - 1 + i : Nat) : Int) + 1 = ((from_ + i : Nat) : Int) := by omega
      rw [e4]; exact hg
end Go.Proofs.YtgohdcccfkjooaaGreatDoor

namespace Go.Proofs.YtgohdcccfkjooaaGreatDoor
open Go.RowKit

structure SSt (B bw bS : Nat) (s : Surf) (a : Option Addr) (n c : Nat) (l : List UInt8) (w W : World) : Prop where
  s : SurfB W bS s a n c
  b : Lib.IsBuilder 108 5 B bw (Lib.byteCells l) W
  be : Below B w W
  kt : KeptT bw w W
theorem SSt.next {B bw bS : Nat} {s : Surf} {a : Option Addr} {n c : Nat} {l l' : List UInt8} {w W W1 W2 : World} (h : SSt B bw bS s a n c l w W) (hal : Below W.heap.size W W1) (h2 : RetW B bw l' W1 (.returned (.tuple #[])) W2) (hne : bS ≠ bw) (hB : B ≤ w.heap.size) : SSt B bw bS s a n c l' w W2 := by
  obtain ⟨_, h3, h4, h5⟩ := h2
  have hs := h.be.size
  exact ⟨h5 bS _ _ _ ((hal.block bS (lt_of_block h.s)).trans h.s) (by decide) hne, h3, h.be.trans ((hal.mono (Nat.le_trans hB hs)).trans h4), h.kt.trans ((KeptT.below hal).trans h5)⟩
theorem SSt.go {B bw bS : Nat} {s : Surf} {a : Option Addr} {n c : Nat} {l : List UInt8} {w W W1 : World} (h : SSt B bw bS s a n c l w W) (hal : Below W.heap.size W W1) (hB : B ≤ w.heap.size) : SSt B bw bS s a n c l w W1 :=
  ⟨(hal.block bS (lt_of_block h.s)).trans h.s, isBuilderW_below h.b hal, h.be.trans (hal.mono (Nat.le_trans hB h.be.size)), h.kt.trans (KeptT.below hal)⟩
theorem lineR_any (ws : List (List UInt8)) (g c B b : Nat) (l : List UInt8) (w : World) (h : w.heap[g]? = some (.cells (strCs ws).toArray 9 (0, 0))) (hc : ws.length ≤ c) (hn : ws.length ≤ 1000000) (hl : l.length + (lineS ws).length ≤ 1000000)
    (hb : Lib.IsBuilder 108 5 B b (Lib.byteCells l) w) (hB : B ≤ w.heap.size) :
    Calls Tryz.prog 41 #[.pointer (some ⟨b, 0, none⟩), .slice (some ⟨g, 0, none⟩) ws.length c] w (RetW B b (l ++ lineS ws) w) :=
  (lineW_any ws g 0 c B b l w (fun i x hx => by
    rw [Nat.zero_add, obj_cell h i]
    unfold strCs
    rw [List.getElem?_toArray, List.getElem?_map, hx]; rfl) (lt_of_block h) hc hn hl hb hB).mono fun e w' h => h
theorem retW_ends {B b : Nat} {l : List UInt8} {w w' : World} {e : Ending} (h : RetW B b l w e w') : e = .returned (.tuple #[]) := h.1
/-- the parts of a surface's text -/
def surfP (x : SurfC) : Nat → List UInt8
  | 0 => lineS [wSurface, kNames.getD (x.s.kind - 1).toNat []]
  | 1 => someT x.s 1 10
  | 2 => if x.s.hole = 0 then [] else lineS [wHole, numT x.s.hole 6]
  | 3 => someT x.s 11 5
  | 4 => if x.s.order = 0 then [] else lineS [wOrder, numT x.s.order 0]
  | 5 => someT x.s 16 2
  | 6 => if listB x.s.glass = [] then [] else lineS [wGlass, listB x.s.glass]
  | _ => ((List.range (x.zs.length / 3)).map (filmT x.zs)).flatten
theorem surfT_parts (x : SurfC) : surfT x = surfP x 0 ++ surfP x 1 ++ surfP x 2 ++ surfP x 3 ++ surfP x 4 ++ surfP x 5 ++ surfP x 6 ++ surfP x 7 := rfl
set_option maxRecDepth 100000 in
set_option maxHeartbeats 3200000 in
theorem wsurface_any (x : SurfC) (a : Option Addr) (n c bw B N : Nat) (l : List UInt8) (w : World) (ho : okC x = true) (hz : IR B w 3 a n c x.zs) (hn : n ≤ 1000000)
    (hb : Lib.IsBuilder 108 5 B bw (Lib.byteCells l) w) (hB : B ≤ w.heap.size) (hl : l.length + (surfT x).length ≤ 1000000) (hg : GW w) (hT : TW N w) (hNB : N ≤ B) :
    Calls Tryz.prog 43 #[.pointer (some ⟨bw, 0, none⟩), .agg #[.int .i64 x.s.kind, .int .i64 x.s.curv, .int .i64 x.s.conic, .int .i64 x.s.curvX, .int .i64 x.s.conicX, .int .i64 x.s.a0, .int .i64 x.s.a1, .int .i64 x.s.a2, .int .i64 x.s.a3, .int .i64 x.s.p0, .int .i64 x.s.p1, .int .i64 x.s.order, .int .i64 x.s.thick, .string x.s.glass, .int .i64 x.s.semi, .int .i64 x.s.hole, .int .i64 x.s.dx, .int .i64 x.s.dy, .int .i64 x.s.ax, .int .i64 x.s.ay, .int .i64 x.s.az, .slice a n c]] w (RetW B bw (l ++ surfT x) w) := by
  have hbw : bw < w.heap.size := by
    rcases hb with ⟨_, v, h, _⟩ | ⟨_, v, h, _⟩
    · exact lt_of_block h
    · exact lt_of_block h
  have hbB : B ≤ bw := by
    rcases hb with ⟨h, _⟩ | ⟨h, _⟩
    · exact h
    · exact h
  have hal := (Below.refl w.heap.size w).alloc (Nat.le_refl _) (.cells #[.int .i64 x.s.kind, .int .i64 x.s.curv, .int .i64 x.s.conic, .int .i64 x.s.curvX, .int .i64 x.s.conicX, .int .i64 x.s.a0, .int .i64 x.s.a1, .int .i64 x.s.a2, .int .i64 x.s.a3, .int .i64 x.s.p0, .int .i64 x.s.p1, .int .i64 x.s.order, .int .i64 x.s.thick, .string x.s.glass, .int .i64 x.s.semi, .int .i64 x.s.hole, .int .i64 x.s.dx, .int .i64 x.s.dy, .int .i64 x.s.ax, .int .i64 x.s.ay, .int .i64 x.s.az, .slice a n c] 70)
  have hst : SSt B bw w.heap.size x.s a n c l w (w.alloc (.cells #[.int .i64 x.s.kind, .int .i64 x.s.curv, .int .i64 x.s.conic, .int .i64 x.s.curvX, .int .i64 x.s.conicX, .int .i64 x.s.a0, .int .i64 x.s.a1, .int .i64 x.s.a2, .int .i64 x.s.a3, .int .i64 x.s.p0, .int .i64 x.s.p1, .int .i64 x.s.order, .int .i64 x.s.thick, .string x.s.glass, .int .i64 x.s.semi, .int .i64 x.s.hole, .int .i64 x.s.dx, .int .i64 x.s.dy, .int .i64 x.s.ax, .int .i64 x.s.ay, .int .i64 x.s.az, .slice a n c] 70)) := ⟨SurfB.new w x.s a n c, isBuilderW_below hb hal, hal.mono hB, KeptT.below hal⟩
  have hok : okS x.s x.zs (x.zs.length / 3) = true := ho
  obtain ⟨hk1, hk4⟩ := okS_kind hok
  obtain ⟨ki, hki, hki4⟩ : ∃ ki : Nat, x.s.kind = (ki : Int) + 1 ∧ ki < 4 := ⟨(x.s.kind - 1).toNat, by omega, by omega⟩
  have hne : w.heap.size ≠ bw := by omega
  have Hst := Lib.hid hst; have Hok := Lib.hid hok; have Hz := Lib.hid hz; have Hl := Lib.hid hl; have Hg := Lib.hid hg; have HT := Lib.hid hT; have Hki := Lib.hid hki; have Hne := Lib.hid hne
  clear hst hok ho hz hl hg hT hal hb hki hne hk1 hk4
  go_enter Tryz.func43, Tryz.ntmps43
  go_upto_region 1 with fail
  refine step_world (fun wx => SSt B bw w.heap.size x.s a n c l w wx) Hst.out ?_
  clear Hst
  rintro w1 hst
  -- the kind
  obtain ⟨ka, kn, kc, hk, hkw⟩ := (HT.out.below (hst.be.mono hNB)).kin
  have hkn : kn = 4 := hkw.1.symm
  subst hkn
  obtain ⟨kg, ko, rfl, hkl, hkc⟩ := hkw.2.2 (by omega)
  obtain ⟨kw, hkw0⟩ : ∃ kw, kNames.getD ki [] = kw := ⟨_, rfl⟩
  have kcell : w1.cell? ⟨kg, ko + ki, none⟩ = some (.string (bs kw)) := by
    rw [← hkw0]
    exact hkc ki _ (by
      have : ki < kNames.length := hki4
      rw [List.getD_eq_getElem?_getD, List.getElem?_eq_getElem this]; rfl)
  have k0 : w1.cell? ⟨w.heap.size, 0, none⟩ = some (.int .i64 ((ki : Int) + 1)) := by rw [← Hki.out]; exact hst.s.cells.1
  have hkc4 : 4 ≤ kc := hkw.2.1
  have hki' : (ki : Int) < 4 := by omega
  have hki0 : (0 : Int) ≤ (ki : Int) := by omega
  have h0 : surfP x 0 = lineS [wSurface, kw] := by
    show lineS [wSurface, kNames.getD (x.s.kind - 1).toNat []] = _
    rw [Hki.out, show (ki : Int) + 1 - 1 = (ki : Int) by omega, Int.toNat_natCast, hkw0]
  have hsum : l.length + (surfP x 0).length + (surfP x 1).length + (surfP x 2).length + (surfP x 3).length + (surfP x 4).length + (surfP x 5).length + (surfP x 6).length + (surfP x 7).length ≤ 1000000 := by
    have := Hl.out
    rw [surfT_parts] at this
    simp only [List.length_append] at this
    omega
  have Hsum := Lib.hid hsum
  have H0 := Lib.hid h0; have Hst := Lib.hid hst
  clear hkc hkw hst h0 hsum hkw0
  go_wp2_with fail
  refine (lineR_any [wSurface, kw] w1.heap.size 2 B bw l _ (heap_alloc_new w1 _) (by simp) (by simp) (by have := Hsum.out; have := congrArg List.length H0.out; omega) (isBuilderW_below Hst.out.b ((Below.refl _ _).alloc (Nat.le_refl _) _)) (by have := Hst.out.be.size; simp; omega)).mono ?_
  rintro ee w2 h2
  obtain rfl := retW_ends h2
  have hst2 := Hst.out.next ((Below.refl w1.heap.size w1).alloc (Nat.le_refl _) _) h2 Hne.out hB
  rw [← H0.out] at hst2
  have Hst2 := Lib.hid hst2
  clear h2 hst2 kcell k0 hk Hst H0
  -- parameters from 1 on
  go_wp2_with fail
  refine (wvalues_any (parL x.s 1 10) 0 0 10 17 w.heap.size bw B (l ++ surfP x 0) w2 (parIn_par (HT.out.below (Hst2.out.be.mono hNB)) Hst2.out.s Hok.out 1 10 (by omega) (by omega)) (by simp [parL]) (by omega) (by omega) (Or.inl (Nat.lt_of_lt_of_le (Nat.lt_of_lt_of_le (show 0 < 14 by decide) HT.out.glo) hNB)) (Or.inr ⟨_, _, _, Hst2.out.s, by decide, Hne.out⟩) Hst2.out.b (Nat.le_trans hB Hst2.out.be.size) (by rw [valT_par]; have := Hsum.out; simp only [List.length_append]; show _ + (surfP x 1).length ≤ _; omega) (Hg.out.of Hst2.out.be (Nat.le_trans HT.out.glo hNB)) (Nat.le_trans HT.out.glo hNB)).mono ?_
  rintro ee w3 h2
  obtain rfl := retW_ends h2
  have hst2 := Hst2.out.next (Below.refl w2.heap.size w2) h2 Hne.out hB
  rw [valT_par] at hst2
  have Hst3 := Lib.hid (show SSt B bw w.heap.size x.s a n c (l ++ surfP x 0 ++ surfP x 1) w w3 from hst2)
  clear h2 hst2 Hst2
  -- wHole
  have hlk : (Instr.lookup 176 (.map (some (Classical.choose (HT.out.below (Hst3.out.be.mono hNB)).oth))) (.string { data := #[104, 111, 108, 101] }) false).run Tryz.prog w3 = .ok (.agg #[.string (bs wHole), .int .i64 6, .func (.func 325) #[] #[]]) w3 := by
    obtain ⟨ol, _, _, hmv, hlook⟩ := Classical.choose_spec (HT.out.below (Hst3.out.be.mono hNB)).oth
    have := run_lookup_V Tryz.underlying176 Tryz.underlying9 (Tryz.zeroPar w3) hmv wHole false
    rw [hlook wHole] at this
    exact this
  have hoth : w3.cell? ⟨3, 0, none⟩ = some (.map (some (Classical.choose (HT.out.below (Hst3.out.be.mono hNB)).oth))) := by
    obtain ⟨ol, h, _⟩ := Classical.choose_spec (HT.out.below (Hst3.out.be.mono hNB)).oth
    exact h
  generalize Classical.choose (HT.out.below (Hst3.out.be.mono hNB)).oth = ob at *
  go_wp2_with fail
  have hal : Below w3.heap.size w3 (w3.alloc (.cells #[.string (bs wHole), .int .i64 6, .func (.func 325) #[] #[]] 116)) := (Below.refl _ _).alloc (Nat.le_refl _) _
  have hst1 := Hst3.out.go hal hB
  have hnew := heap_alloc_new w3 (.cells #[.string (bs wHole), .int .i64 6, .func (.func 325) #[] #[]] 116)
  have hr := okS_rng Hok.out
  have e : valT [(wHole, 6, x.s.hole)] = surfP x 2 := by simp [valT, oneV, surfP]
  refine (wvalues_any [(wHole, 6, x.s.hole)] w3.heap.size 0 1 1 w.heap.size bw B (l ++ surfP x 0 ++ surfP x 1) _ (fun i y hy => ?_) rfl (by omega) (by omega) (Or.inr ⟨_, _, _, hnew, by decide, by have := Hst3.out.be.size; omega⟩) (Or.inr ⟨_, _, _, hst1.s, by decide, Hne.out⟩) hst1.b (Nat.le_trans hB hst1.be.size) (by rw [e]; have := Hsum.out; simp only [List.length_append]; omega) (Hg.out.of hst1.be (Nat.le_trans HT.out.glo hNB)) (Nat.le_trans HT.out.glo hNB)).mono ?_
  · match i, hy with
    | 0, hy =>
      cases hy
      have pl := place_hole
      refine ⟨_, 15, fun j v hv => ?_, pl.call, pl.ent, obj_cell hst1.s 15, by show 6 ≤ 18; omega, ?_, ?_⟩
      · match j, hv with
        | 0, hv => cases hv; exact obj_cell hnew 0
        | 1, hv => cases hv; exact obj_cell hnew 1
        | 2, hv => cases hv; exact obj_cell hnew 2
      · show _ ≤ x.s.hole; omega
      · show x.s.hole ≤ _; omega
  · rintro ee w4 h2
    obtain rfl := retW_ends h2
    have hst2 := Hst3.out.next hal h2 Hne.out hB
    rw [e] at hst2
    have Hst4 := Lib.hid (show SSt B bw w.heap.size x.s a n c (l ++ surfP x 0 ++ surfP x 1 ++ surfP x 2) w w4 from hst2)
    clear h2 hst2 Hst3 hst1 hnew hal hr e hlk hoth
    -- parameters from 11 on
    go_wp2_with fail
    refine (wvalues_any (parL x.s 11 5) 0 30 5 7 w.heap.size bw B (l ++ surfP x 0 ++ surfP x 1 ++ surfP x 2) w4 (parIn_par (HT.out.below (Hst4.out.be.mono hNB)) Hst4.out.s Hok.out 11 5 (by omega) (by omega)) (by simp [parL]) (by omega) (by omega) (Or.inl (Nat.lt_of_lt_of_le (Nat.lt_of_lt_of_le (show 0 < 14 by decide) HT.out.glo) hNB)) (Or.inr ⟨_, _, _, Hst4.out.s, by decide, Hne.out⟩) Hst4.out.b (Nat.le_trans hB Hst4.out.be.size) (by rw [valT_par]; have := Hsum.out; simp only [List.length_append]; show _ + (surfP x 3).length ≤ _; omega) (Hg.out.of Hst4.out.be (Nat.le_trans HT.out.glo hNB)) (Nat.le_trans HT.out.glo hNB)).mono ?_
    rintro ee w5 h2
    obtain rfl := retW_ends h2
    have hst2 := Hst4.out.next (Below.refl w4.heap.size w4) h2 Hne.out hB
    rw [valT_par] at hst2
    have Hst5 := Lib.hid (show SSt B bw w.heap.size x.s a n c (l ++ surfP x 0 ++ surfP x 1 ++ surfP x 2 ++ surfP x 3) w w5 from hst2)
    clear h2 hst2 Hst4
    -- wOrder
    have hlk : (Instr.lookup 176 (.map (some (Classical.choose (HT.out.below (Hst5.out.be.mono hNB)).oth))) (.string { data := #[111, 114, 100, 101, 114] }) false).run Tryz.prog w5 = .ok (.agg #[.string (bs wOrder), .int .i64 0, .func (.func 326) #[] #[]]) w5 := by
      obtain ⟨ol, _, _, hmv, hlook⟩ := Classical.choose_spec (HT.out.below (Hst5.out.be.mono hNB)).oth
      have := run_lookup_V Tryz.underlying176 Tryz.underlying9 (Tryz.zeroPar w5) hmv wOrder false
      rw [hlook wOrder] at this
      exact this
    have hoth : w5.cell? ⟨3, 0, none⟩ = some (.map (some (Classical.choose (HT.out.below (Hst5.out.be.mono hNB)).oth))) := by
      obtain ⟨ol, h, _⟩ := Classical.choose_spec (HT.out.below (Hst5.out.be.mono hNB)).oth
      exact h
    generalize Classical.choose (HT.out.below (Hst5.out.be.mono hNB)).oth = ob at *
    go_wp2_with fail
    have hal : Below w5.heap.size w5 (w5.alloc (.cells #[.string (bs wOrder), .int .i64 0, .func (.func 326) #[] #[]] 116)) := (Below.refl _ _).alloc (Nat.le_refl _) _
    have hst1 := Hst5.out.go hal hB
    have hnew := heap_alloc_new w5 (.cells #[.string (bs wOrder), .int .i64 0, .func (.func 326) #[] #[]] 116)
    have hr := okS_rng Hok.out
    have e : valT [(wOrder, 0, x.s.order)] = surfP x 4 := by simp [valT, oneV, surfP]
    refine (wvalues_any [(wOrder, 0, x.s.order)] w5.heap.size 0 1 1 w.heap.size bw B (l ++ surfP x 0 ++ surfP x 1 ++ surfP x 2 ++ surfP x 3) _ (fun i y hy => ?_) rfl (by omega) (by omega) (Or.inr ⟨_, _, _, hnew, by decide, by have := Hst5.out.be.size; omega⟩) (Or.inr ⟨_, _, _, hst1.s, by decide, Hne.out⟩) hst1.b (Nat.le_trans hB hst1.be.size) (by rw [e]; have := Hsum.out; simp only [List.length_append]; omega) (Hg.out.of hst1.be (Nat.le_trans HT.out.glo hNB)) (Nat.le_trans HT.out.glo hNB)).mono ?_
    · match i, hy with
      | 0, hy =>
        cases hy
        have pl := place_order
        refine ⟨_, 11, fun j v hv => ?_, pl.call, pl.ent, obj_cell hst1.s 11, by show 0 ≤ 18; omega, ?_, ?_⟩
        · match j, hv with
          | 0, hv => cases hv; exact obj_cell hnew 0
          | 1, hv => cases hv; exact obj_cell hnew 1
          | 2, hv => cases hv; exact obj_cell hnew 2
        · show _ ≤ x.s.order; omega
        · show x.s.order ≤ _; omega
    · rintro ee w6 h2
      obtain rfl := retW_ends h2
      have hst2 := Hst5.out.next hal h2 Hne.out hB
      rw [e] at hst2
      have Hst6 := Lib.hid (show SSt B bw w.heap.size x.s a n c (l ++ surfP x 0 ++ surfP x 1 ++ surfP x 2 ++ surfP x 3 ++ surfP x 4) w w6 from hst2)
      clear h2 hst2 Hst5 hst1 hnew hal hr e hlk hoth
      -- parameters from 16 on
      go_wp2_with fail
      refine (wvalues_any (parL x.s 16 2) 0 45 2 2 w.heap.size bw B (l ++ surfP x 0 ++ surfP x 1 ++ surfP x 2 ++ surfP x 3 ++ surfP x 4) w6 (parIn_par (HT.out.below (Hst6.out.be.mono hNB)) Hst6.out.s Hok.out 16 2 (by omega) (by omega)) (by simp [parL]) (by omega) (by omega) (Or.inl (Nat.lt_of_lt_of_le (Nat.lt_of_lt_of_le (show 0 < 14 by decide) HT.out.glo) hNB)) (Or.inr ⟨_, _, _, Hst6.out.s, by decide, Hne.out⟩) Hst6.out.b (Nat.le_trans hB Hst6.out.be.size) (by rw [valT_par]; have := Hsum.out; simp only [List.length_append]; show _ + (surfP x 5).length ≤ _; omega) (Hg.out.of Hst6.out.be (Nat.le_trans HT.out.glo hNB)) (Nat.le_trans HT.out.glo hNB)).mono ?_
      rintro ee w7 h2
      obtain rfl := retW_ends h2
      have hst2 := Hst6.out.next (Below.refl w6.heap.size w6) h2 Hne.out hB
      rw [valT_par] at hst2
      have Hst7 := Lib.hid (show SSt B bw w.heap.size x.s a n c (l ++ surfP x 0 ++ surfP x 1 ++ surfP x 2 ++ surfP x 3 ++ surfP x 4 ++ surfP x 5) w w7 from hst2)
      clear h2 hst2 Hst6
        -- the glass
      by_cases hgl : listB x.s.glass = []
      · have hge : x.s.glass = { data := #[] } := listB_nil hgl
        have k13 : w7.cell? ⟨w.heap.size, 13, none⟩ = some (.string { data := #[] }) := by rw [← hge]; exact obj_cell Hst7.out.s 13
        have h6 : surfP x 6 = [] := by show (if listB x.s.glass = [] then [] else _) = _; rw [if_pos hgl]
        have Hst8 := Lib.hid (show SSt B bw w.heap.size x.s a n c (l ++ surfP x 0 ++ surfP x 1 ++ surfP x 2 ++ surfP x 3 ++ surfP x 4 ++ surfP x 5 ++ surfP x 6) w w7 by rw [h6, List.append_nil]; exact Hst7.out)
        clear Hst7 hgl hge h6
        have hzl : x.zs.length / 3 = n := by have := Hz.out.1; omega
        have k21 : w7.cell? ⟨w.heap.size, 21, none⟩ = some (.slice a n c) := obj_cell Hst8.out.s 21
        have hnc : n ≤ c := Hz.out.2.1
        go_wp2_with fail
        go_loopw [45] (fun iv wr => ∃ k : Nat, k ≤ n ∧ iv = .int .i64 (k : Int) ∧ SSt B bw w.heap.size x.s a n c (l ++ surfP x 0 ++ surfP x 1 ++ surfP x 2 ++ surfP x 3 ++ surfP x 4 ++ surfP x 5 ++ surfP x 6 ++ ((List.range k).map (filmT x.zs)).flatten) w wr) (fun iv _ => n - (intOf iv).toNat)
        case atStart => exact ⟨0, Nat.zero_le _, rfl, by simpa using Hst8.out⟩
        case round =>
          obtain ⟨k, hk, rfl, hsk⟩ := hrel
          have Hsk := Lib.hid hsk; clear hsk k21
          by_cases hkn : k < n
          · obtain ⟨b, off, rfl, hbl, z0, z1, z2⟩ := (Hz.out.below Hsk.out.be (Nat.le_refl _)).at3 hkn
            have hrg := film_rng Hok.out (k := k) (by omega)
            have hft : filmT x.zs k = lineS [wFilm, numT (x.zs.getD (k * 3) 0) 7, numT (x.zs.getD (k * 3 + 1) 0) 0, numT (x.zs.getD (k * 3 + 2) 0) 0] := rfl
            have hfl := flat_len (filmT x.zs) (k := k) (n := n) hkn
            have Hft := Lib.hid hft; have Hfl := Lib.hid hfl; clear hft hfl
            generalize x.zs.getD (k * 3) 0 = q0 at *
            generalize x.zs.getD (k * 3 + 1) 0 = q1 at *
            generalize x.zs.getD (k * 3 + 2) 0 = q2 at *
            go_wp2_with fail
            have hnb := heap_alloc_new wr (.cells #[.int .i64 q0, .int .i64 q1, .int .i64 q2] 67)
            have hal : Below wr.heap.size wr (wr.alloc (.cells #[.int .i64 q0, .int .i64 q1, .int .i64 q2] 67)) := (Below.refl _ _).alloc (Nat.le_refl _) _
            have e0 := obj_cell hnb 0
            have e1 := obj_cell hnb 1
            have e2 := obj_cell hnb 2
            have hlp := lt_of_block hnb
            have Hal := Lib.hid hal
            clear hnb hal z0 z1 z2
            go_upto_region 12 with fail
            have hgr : GW wr := Hg.out.of Hsk.out.be (Nat.le_trans HT.out.glo hNB)
            have Hgr := Lib.hid hgr; clear hgr
            refine wp_region_eager 11 [(0, true), (1, true), (2, true), (4, true), (5, true), (7, true), (8, true), (3, false), (6, false), (9, false), (10, false)] (by kernel_rfl) (by kernel_rfl) ?_
            iterate 7
              refine wpOrd_yield (v := ?_) rfl (fun _ _ _ h => h) (by rfl) ?_ ?_
              rotate_left
              · intro y hy
                have k1 := (hy.cell (p := ⟨wr.heap.size, 0, none⟩) hlp).trans e0
                have k2 := (hy.cell (p := ⟨wr.heap.size, 1, none⟩) hlp).trans e1
                have k3 := (hy.cell (p := ⟨wr.heap.size, 2, none⟩) hlp).trans e2
                go_simp
                with_reducible rfl
              try simp only [Act.put, List.setIfInBounds_toArray, List.set_cons_zero, List.set_cons_succ]
            clear e0 e1 e2
            refine wpOrd_step rfl rfl (fun KK hKK => ?_)
            go_simp
            refine (numberS_any q0 7 _ (by omega) (by omega) (by omega) (Hgr.out.below Hal.out.drew)).mono ?_
            rintro ee wa ⟨rfl, hba⟩
            refine hKK _ _ hba ?_
            clear hKK KK
            have hbA := Hal.out.drew.trans (hba.mono Hal.out.drew.size)
            try simp only [Act.put, List.setIfInBounds_toArray, List.set_cons_zero, List.set_cons_succ]
            refine wpOrd_step rfl rfl (fun KK hKK => ?_)
            go_simp
            refine (numberS_any q1 0 wa (by omega) (by omega) (by omega) (Hgr.out.below hbA)).mono ?_
            rintro ee wb ⟨rfl, hbb⟩
            refine hKK _ _ hbb ?_
            clear hKK KK
            have hbB2 := below_chain hbA hbb
            try simp only [Act.put, List.setIfInBounds_toArray, List.set_cons_zero, List.set_cons_succ]
            refine wpOrd_step rfl rfl (fun KK hKK => ?_)
            go_simp
            refine (numberS_any q2 0 wb (by omega) (by omega) (by omega) (Hgr.out.below hbB2)).mono ?_
            rintro ee wc ⟨rfl, hbc⟩
            refine hKK _ _ hbc ?_
            clear hKK KK
            have hbC := below_chain hbB2 hbc
            try simp only [Act.put, List.setIfInBounds_toArray, List.set_cons_zero, List.set_cons_succ]
            refine wpOrd_step rfl rfl (fun KK hKK => ?_)
            go_simp
            refine hKK _ _ ((Below.refl _ _).alloc (Nat.le_refl _) _) ?_
            clear hKK KK
            try simp only [Act.put, List.setIfInBounds_toArray, List.set_cons_zero, List.set_cons_succ]
            refine wpOrd_nil rfl ?_
            have hbD : Below wr.heap.size wr (wc.alloc (.cells (strCs [wFilm, numT q0 7, numT q1 0, numT q2 0]).toArray 9)) := hbC.alloc hbC.size _
            have hlen : (l ++ surfP x 0 ++ surfP x 1 ++ surfP x 2 ++ surfP x 3 ++ surfP x 4 ++ surfP x 5 ++ surfP x 6 ++ ((List.range k).map (filmT x.zs)).flatten).length + (lineS [wFilm, numT q0 7, numT q1 0, numT q2 0]).length ≤ 1000000 := by
              have h8 : (surfP x 7).length = (((List.range n).map (filmT x.zs)).flatten).length := by show (((List.range (x.zs.length / 3)).map (filmT x.zs)).flatten).length = _; rw [hzl]
              have h9 := Hfl.out
              have h10 := Hsum.out
              rw [Hft.out] at h9
              simp only [List.length_append]
              omega
            have HbD := Lib.hid hbD
            clear hbD hbA hbB2 hbC hba hbb hbc
            go_wp2_with fail
            refine (lineR_any [wFilm, numT q0 7, numT q1 0, numT q2 0] wc.heap.size 4 B bw (l ++ surfP x 0 ++ surfP x 1 ++ surfP x 2 ++ surfP x 3 ++ surfP x 4 ++ surfP x 5 ++ surfP x 6 ++ ((List.range k).map (filmT x.zs)).flatten) _ (heap_alloc_new wc _) (by simp) (by simp) hlen (isBuilderW_below Hsk.out.b HbD.out) (Nat.le_trans hB (Nat.le_trans Hsk.out.be.size HbD.out.size))).mono ?_
            rintro ee w9 h2
            obtain rfl := retW_ends h2
            have hst2 := Hsk.out.next HbD.out h2 Hne.out hB
            rw [← Hft.out, List.append_assoc, ← flat_succ] at hst2
            have Hst2 := Lib.hid hst2
            clear hst2 h2
            go_wp2_with fail
            go_roundw
            case rel => exact ⟨k + 1, by omega, by go_num, Hst2.out⟩
            case measure => simp [intOf]; omega
          · obtain rfl : k = n := by omega
            go_wp2_with fail
            go_end0
            have hs := Hsk.out
            have e7 : surfP x 7 = ((List.range k).map (filmT x.zs)).flatten := by show ((List.range (x.zs.length / 3)).map (filmT x.zs)).flatten = _; rw [hzl]
            refine ⟨rfl, ?_, hs.be, hs.kt⟩
            have hb := hs.b
            rw [surfT_parts, e7]
            try simp only [← List.append_assoc]
            try simp only [← List.append_assoc] at hb
            exact hb
      · obtain ⟨gl, hgl0⟩ : ∃ gl, listB x.s.glass = gl := ⟨_, rfl⟩
        have hgg : x.s.glass = bs gl := by rw [← hgl0, bs_listB]
        have k13 : w7.cell? ⟨w.heap.size, 13, none⟩ = some (.string (bs gl)) := by rw [← hgg]; exact obj_cell Hst7.out.s 13
        have hgn : gl ≠ [] := by rw [← hgl0]; exact hgl
        have hgb : (gl == []) = false := by rw [beq_eq_false_iff_ne]; exact hgn
        have hgc : gl.isEmpty = false := by rw [List.isEmpty_eq_false_iff]; exact hgn
        have h6 : surfP x 6 = lineS [wGlass, gl] := by show (if listB x.s.glass = [] then [] else lineS [wGlass, listB x.s.glass]) = _; rw [if_neg hgl, hgl0]
        have H6 := Lib.hid h6
        clear hgl h6 hgl0 hgg
        go_wp2_with fail
        refine (lineR_any [wGlass, gl] w7.heap.size 2 B bw (l ++ surfP x 0 ++ surfP x 1 ++ surfP x 2 ++ surfP x 3 ++ surfP x 4 ++ surfP x 5) _ (heap_alloc_new w7 _) (by simp) (by simp) (by have := Hsum.out; have := congrArg List.length H6.out; simp only [List.length_append]; omega) (isBuilderW_below Hst7.out.b ((Below.refl _ _).alloc (Nat.le_refl _) _)) (by have := Hst7.out.be.size; simp; omega)).mono ?_
        rintro ee w8 h2
        obtain rfl := retW_ends h2
        have hst2 := Hst7.out.next ((Below.refl w7.heap.size w7).alloc (Nat.le_refl _) _) h2 Hne.out hB
        rw [← H6.out] at hst2
        have Hst8 := Lib.hid (show SSt B bw w.heap.size x.s a n c (l ++ surfP x 0 ++ surfP x 1 ++ surfP x 2 ++ surfP x 3 ++ surfP x 4 ++ surfP x 5 ++ surfP x 6) w w8 from hst2)
        clear h2 hst2 k13 hgb hgc hgn H6 Hst7
        have hzl : x.zs.length / 3 = n := by have := Hz.out.1; omega
        have k21 : w8.cell? ⟨w.heap.size, 21, none⟩ = some (.slice a n c) := obj_cell Hst8.out.s 21
        have hnc : n ≤ c := Hz.out.2.1
        go_wp2_with fail
        go_loopw [45] (fun iv wr => ∃ k : Nat, k ≤ n ∧ iv = .int .i64 (k : Int) ∧ SSt B bw w.heap.size x.s a n c (l ++ surfP x 0 ++ surfP x 1 ++ surfP x 2 ++ surfP x 3 ++ surfP x 4 ++ surfP x 5 ++ surfP x 6 ++ ((List.range k).map (filmT x.zs)).flatten) w wr) (fun iv _ => n - (intOf iv).toNat)
        case atStart => exact ⟨0, Nat.zero_le _, rfl, by simpa using Hst8.out⟩
        case round =>
          obtain ⟨k, hk, rfl, hsk⟩ := hrel
          have Hsk := Lib.hid hsk; clear hsk k21
          by_cases hkn : k < n
          · obtain ⟨b, off, rfl, hbl, z0, z1, z2⟩ := (Hz.out.below Hsk.out.be (Nat.le_refl _)).at3 hkn
            have hrg := film_rng Hok.out (k := k) (by omega)
            have hft : filmT x.zs k = lineS [wFilm, numT (x.zs.getD (k * 3) 0) 7, numT (x.zs.getD (k * 3 + 1) 0) 0, numT (x.zs.getD (k * 3 + 2) 0) 0] := rfl
            have hfl := flat_len (filmT x.zs) (k := k) (n := n) hkn
            have Hft := Lib.hid hft; have Hfl := Lib.hid hfl; clear hft hfl
            generalize x.zs.getD (k * 3) 0 = q0 at *
            generalize x.zs.getD (k * 3 + 1) 0 = q1 at *
            generalize x.zs.getD (k * 3 + 2) 0 = q2 at *
            go_wp2_with fail
            have hnb := heap_alloc_new wr (.cells #[.int .i64 q0, .int .i64 q1, .int .i64 q2] 67)
            have hal : Below wr.heap.size wr (wr.alloc (.cells #[.int .i64 q0, .int .i64 q1, .int .i64 q2] 67)) := (Below.refl _ _).alloc (Nat.le_refl _) _
            have e0 := obj_cell hnb 0
            have e1 := obj_cell hnb 1
            have e2 := obj_cell hnb 2
            have hlp := lt_of_block hnb
            have Hal := Lib.hid hal
            clear hnb hal z0 z1 z2
            go_upto_region 12 with fail
            have hgr : GW wr := Hg.out.of Hsk.out.be (Nat.le_trans HT.out.glo hNB)
            have Hgr := Lib.hid hgr; clear hgr
            refine wp_region_eager 11 [(0, true), (1, true), (2, true), (4, true), (5, true), (7, true), (8, true), (3, false), (6, false), (9, false), (10, false)] (by kernel_rfl) (by kernel_rfl) ?_
            iterate 7
              refine wpOrd_yield (v := ?_) rfl (fun _ _ _ h => h) (by rfl) ?_ ?_
              rotate_left
              · intro y hy
                have k1 := (hy.cell (p := ⟨wr.heap.size, 0, none⟩) hlp).trans e0
                have k2 := (hy.cell (p := ⟨wr.heap.size, 1, none⟩) hlp).trans e1
                have k3 := (hy.cell (p := ⟨wr.heap.size, 2, none⟩) hlp).trans e2
                go_simp
                with_reducible rfl
              try simp only [Act.put, List.setIfInBounds_toArray, List.set_cons_zero, List.set_cons_succ]
            clear e0 e1 e2
            refine wpOrd_step rfl rfl (fun KK hKK => ?_)
            go_simp
            refine (numberS_any q0 7 _ (by omega) (by omega) (by omega) (Hgr.out.below Hal.out.drew)).mono ?_
            rintro ee wa ⟨rfl, hba⟩
            refine hKK _ _ hba ?_
            clear hKK KK
            have hbA := Hal.out.drew.trans (hba.mono Hal.out.drew.size)
            try simp only [Act.put, List.setIfInBounds_toArray, List.set_cons_zero, List.set_cons_succ]
            refine wpOrd_step rfl rfl (fun KK hKK => ?_)
            go_simp
            refine (numberS_any q1 0 wa (by omega) (by omega) (by omega) (Hgr.out.below hbA)).mono ?_
            rintro ee wb ⟨rfl, hbb⟩
            refine hKK _ _ hbb ?_
            clear hKK KK
            have hbB2 := below_chain hbA hbb
            try simp only [Act.put, List.setIfInBounds_toArray, List.set_cons_zero, List.set_cons_succ]
            refine wpOrd_step rfl rfl (fun KK hKK => ?_)
            go_simp
            refine (numberS_any q2 0 wb (by omega) (by omega) (by omega) (Hgr.out.below hbB2)).mono ?_
            rintro ee wc ⟨rfl, hbc⟩
            refine hKK _ _ hbc ?_
            clear hKK KK
            have hbC := below_chain hbB2 hbc
            try simp only [Act.put, List.setIfInBounds_toArray, List.set_cons_zero, List.set_cons_succ]
            refine wpOrd_step rfl rfl (fun KK hKK => ?_)
            go_simp
            refine hKK _ _ ((Below.refl _ _).alloc (Nat.le_refl _) _) ?_
            clear hKK KK
            try simp only [Act.put, List.setIfInBounds_toArray, List.set_cons_zero, List.set_cons_succ]
            refine wpOrd_nil rfl ?_
            have hbD : Below wr.heap.size wr (wc.alloc (.cells (strCs [wFilm, numT q0 7, numT q1 0, numT q2 0]).toArray 9)) := hbC.alloc hbC.size _
            have hlen : (l ++ surfP x 0 ++ surfP x 1 ++ surfP x 2 ++ surfP x 3 ++ surfP x 4 ++ surfP x 5 ++ surfP x 6 ++ ((List.range k).map (filmT x.zs)).flatten).length + (lineS [wFilm, numT q0 7, numT q1 0, numT q2 0]).length ≤ 1000000 := by
              have h8 : (surfP x 7).length = (((List.range n).map (filmT x.zs)).flatten).length := by show (((List.range (x.zs.length / 3)).map (filmT x.zs)).flatten).length = _; rw [hzl]
              have h9 := Hfl.out
              have h10 := Hsum.out
              rw [Hft.out] at h9
              simp only [List.length_append]
              omega
            have HbD := Lib.hid hbD
            clear hbD hbA hbB2 hbC hba hbb hbc
            go_wp2_with fail
            refine (lineR_any [wFilm, numT q0 7, numT q1 0, numT q2 0] wc.heap.size 4 B bw (l ++ surfP x 0 ++ surfP x 1 ++ surfP x 2 ++ surfP x 3 ++ surfP x 4 ++ surfP x 5 ++ surfP x 6 ++ ((List.range k).map (filmT x.zs)).flatten) _ (heap_alloc_new wc _) (by simp) (by simp) hlen (isBuilderW_below Hsk.out.b HbD.out) (Nat.le_trans hB (Nat.le_trans Hsk.out.be.size HbD.out.size))).mono ?_
            rintro ee w9 h2
            obtain rfl := retW_ends h2
            have hst2 := Hsk.out.next HbD.out h2 Hne.out hB
            rw [← Hft.out, List.append_assoc, ← flat_succ] at hst2
            have Hst2 := Lib.hid hst2
            clear hst2 h2
            go_wp2_with fail
            go_roundw
            case rel => exact ⟨k + 1, by omega, by go_num, Hst2.out⟩
            case measure => simp [intOf]; omega
          · obtain rfl : k = n := by omega
            go_wp2_with fail
            go_end0
            have hs := Hsk.out
            have e7 : surfP x 7 = ((List.range k).map (filmT x.zs)).flatten := by show ((List.range (x.zs.length / 3)).map (filmT x.zs)).flatten = _; rw [hzl]
            refine ⟨rfl, ?_, hs.be, hs.kt⟩
            have hb := hs.b
            rw [surfT_parts, e7]
            try simp only [← List.append_assoc]
            try simp only [← List.append_assoc] at hb
            exact hb
end Go.Proofs.YtgohdcccfkjooaaGreatDoor

namespace Go.Proofs.YtgohdcccfkjooaaGreatDoor
open Go.RowKit

structure LRng (x : LensD) : Prop where
  dist : 0 ≤ x.dist ∧ x.dist ≤ 1000000000
  pupil : 0 ≤ x.pupil ∧ x.pupil ≤ 1000000000
  stop : 0 ≤ x.stop ∧ x.stop ≤ 16
  prim : 0 ≤ x.prim ∧ x.prim ≤ 16
  fs : ∀ i, i < x.fs.length / 2 → (-1000000000 ≤ x.fs.getD (i * 2) 0 ∧ x.fs.getD (i * 2) 0 ≤ 1000000000) ∧ (-1000000000 ≤ x.fs.getD (i * 2 + 1) 0 ∧ x.fs.getD (i * 2 + 1) 0 ≤ 1000000000)
  ws : ∀ i, i < x.ws.length / 2 → (0 ≤ x.ws.getD (i * 2) 0 ∧ x.ws.getD (i * 2) 0 ≤ 2500000) ∧ (1 ≤ x.ws.getD (i * 2 + 1) 0 ∧ x.ws.getD (i * 2 + 1) 0 ≤ 100)
  l : ∀ y ∈ x.l, okC y = true
  cf : ∀ c ∈ x.cf, ∀ i, i < c.zs.length / 3 → (0 ≤ c.zs.getD (i * 3) 0 ∧ c.zs.getD (i * 3) 0 ≤ 16) ∧ (1 ≤ c.zs.getD (i * 3 + 1) 0 ∧ c.zs.getD (i * 3 + 1) 0 ≤ 17) ∧ (-1000000000 ≤ c.zs.getD (i * 3 + 2) 0 ∧ c.zs.getD (i * 3 + 2) 0 ≤ 1000000000)
theorem bt_in {n lo hi : Int} (h : bt n lo hi = true) : lo ≤ n ∧ n ≤ hi := by
  unfold bt at h
  simp at h
  exact h
theorem get_put {s : Surf} {p v : Int} (h1 : 1 ≤ p) (h2 : p ≤ 17) : (s.put p v).get p = v := by
  rcases ways17 h1 h2 with rfl | rfl | rfl | rfl | rfl | rfl | rfl | rfl | rfl | rfl | rfl | rfl | rfl | rfl | rfl | rfl | rfl <;> rfl
theorem putB_rng {l : List SurfC} {i p v : Int} (h : putB l i p v = true) : (0 ≤ i ∧ i ≤ (l.length : Int) - 1) ∧ (1 ≤ p ∧ p ≤ 17) ∧ (-1000000000 ≤ v ∧ v ≤ 1000000000) := by
  unfold putB at h
  rw [Bool.and_eq_true] at h
  obtain ⟨h1, h2⟩ := h
  cases hx : l[i.toNat]? with
  | none => rw [hx] at h2; cases h2
  | some x =>
    rw [hx] at h2
    simp only [decide_eq_true_eq] at h2
    have hm : missI x.s x.zs (x.zs.length / 3) p = 0 := by
      unfold setI at h2
      split at h2
      · assumption
      · exact absurd h2 (by assumption)
    have hb : hasB x.s p = true := by
      unfold missI at hm
      split at hm
      · split at hm
        · assumption
        · cases hm
      · cases hm
    have hp := hasB_range hb
    have ho : okS (x.s.put p v) x.zs (x.zs.length / 3) = true := by
      unfold setI at h2
      rw [if_pos hm] at h2
      split at h2
      · assumption
      · cases h2
    have hv := (okS_rng ho).1 p
    rw [get_put hp.1 hp.2] at hv
    unfold lhasB at h1
    simp only [Bool.and_eq_true] at h1
    exact ⟨bt_in h1.1.1, hp, hv⟩
theorem chN_len {l : List SurfC} {zs : List Int} : ∀ {k : Nat} {l' : List SurfC}, chN l zs k = some l' → l'.length = l.length
  | 0, l', h => by unfold chN at h; cases h; rfl
  | k + 1, l', h => by
    unfold chN at h
    cases hc : chN l zs k with
    | none => rw [hc] at h; cases h
    | some l2 =>
      rw [hc] at h
      simp only [Option.bind_some] at h
      split at h
      · cases h
        rw [length_putL, chN_len hc]
      · cases h
theorem chN_rng {l : List SurfC} {zs : List Int} : ∀ {k : Nat} {l' : List SurfC}, chN l zs k = some l' → ∀ i, i < k → (0 ≤ zs.getD (i * 3) 0 ∧ zs.getD (i * 3) 0 ≤ (l.length : Int) - 1) ∧ (1 ≤ zs.getD (i * 3 + 1) 0 ∧ zs.getD (i * 3 + 1) 0 ≤ 17) ∧ (-1000000000 ≤ zs.getD (i * 3 + 2) 0 ∧ zs.getD (i * 3 + 2) 0 ≤ 1000000000)
  | 0, l', h, i, hi => by omega
  | k + 1, l', h, i, hi => by
    unfold chN at h
    cases hc : chN l zs k with
    | none => rw [hc] at h; cases h
    | some l2 =>
      rw [hc] at h
      simp only [Option.bind_some] at h
      split at h
      · rename_i hq
        by_cases e : i = k
        · subst e
          have := putB_rng hq.2
          rw [chN_len hc] at this
          exact this
        · exact chN_rng hc i (by omega)
      · cases h
theorem waves_low {ws : List Int} {n : Nat} (h : (List.range n).all (wavGood ws) = true) : ∀ i, i < n → 299999 < ws.getD (i * 2) 0
  | 0, hi => by
    have := List.all_eq_true.1 h 0 (List.mem_range.2 hi)
    unfold wavGood wavPrev at this
    simp at this
    have h1 := this.1.1
    simpa using h1
  | i + 1, hi => by
    have h1 := waves_low h i (by omega)
    have := List.all_eq_true.1 h (i + 1) (List.mem_range.2 hi)
    unfold wavGood wavPrev at this
    rw [if_neg (by omega)] at this
    simp only [Bool.and_eq_true, decide_eq_true_eq, Nat.add_sub_cancel] at this
    omega
theorem valid_rng {x : LensD} (h : validB x = true) : LRng x := by
  have hv : ∀ k, k < 6 → validN x k = true := fun k hk => List.all_eq_true.1 h k (List.mem_range.2 hk)
  have h1 : sizesB x.dist x.pupil = true := hv 1 (by omega)
  have h2 : fieldsB x.dist x.fs (x.fs.length / 2) = true := hv 2 (by omega)
  have h3 : wavesB x.prim x.ws (x.ws.length / 2) = true := hv 3 (by omega)
  have h4 : surfacesB x.stop x.l = true := hv 4 (by omega)
  have h5 : configsB x.l x.cf = true := hv 5 (by omega)
  unfold sizesB at h1
  rw [Bool.and_eq_true] at h1
  have d1 := bt_in h1.1; have d2 := bt_in h1.2
  unfold fieldsB at h2
  rw [Bool.and_eq_true] at h2
  unfold wavesB at h3
  simp only [Bool.and_eq_true] at h3
  have e1 := bt_in h3.1.2; have e2 := bt_in h3.2
  unfold surfacesB at h4
  simp only [Bool.and_eq_true] at h4
  have g1 := bt_in h4.1.1.1.1; have g2 := bt_in h4.1.1.1.2
  unfold configsB at h5
  simp only [Bool.and_eq_true] at h5
  refine ⟨by omega, by omega, by omega, by omega, fun i hi => ?_, fun i hi => ?_, fun y hy => ?_, fun c hc i hi => ?_⟩
  · have := List.all_eq_true.1 h2.1 i (List.mem_range.2 hi)
    unfold fldGood fldOk at this
    simp only [Bool.and_eq_true] at this
    have a1 := bt_in this.1.1; have a2 := bt_in this.1.2
    have hm : fldMost x.dist ≤ 1000000000 := by unfold fldMost; split <;> omega
    omega
  · have hlow := waves_low h3.1.1 i hi
    have := List.all_eq_true.1 h3.1.1 i (List.mem_range.2 hi)
    unfold wavGood at this
    simp only [Bool.and_eq_true, decide_eq_true_eq] at this
    have a1 := bt_in this.2
    omega
  · have hb := h4.1.1.2
    unfold badB at hb
    rw [Bool.not_eq_true', List.any_eq_false] at hb
    have := hb y hy
    simpa using this
  · have hc2 := List.all_eq_true.1 h5.1.1 c hc
    unfold cfGood at hc2
    cases hch : chN x.l c.zs (c.zs.length / 3) with
    | none => rw [hch] at hc2; cases hc2
    | some l' =>
      have := chN_rng hch i hi
      omega
end Go.Proofs.YtgohdcccfkjooaaGreatDoor

namespace Go.Proofs.YtgohdcccfkjooaaGreatDoor
open Go.RowKit

def changeR (r : RdS) (fw : List UInt8) (ws : List (List UInt8)) : Option RdS := (lastPut r.x.cf fun c => changeS c (fw :: ws)).map fun cf => ⟨{ r.x with cf := cf }, 8, r.seen⟩
theorem changeR_len {r : RdS} {fw : List UInt8} {ws : List (List UInt8)} (h : ws.length ≠ 3) : changeR r fw ws = none := by
  have hp : ∀ c, changeS c (fw :: ws) = none := fun c => by
    match ws, h with
    | [], _ => rfl
    | [_], _ => rfl
    | [_, _], _ => rfl
    | [_, _, _], h => simp at h
    | _ :: _ :: _ :: _ :: _, _ => rfl
  unfold changeR lastPut
  cases r.x.cf.getLast? with
  | none => rfl
  | some y => simp [hp]
theorem changeR_three {r : RdS} {l0 : List ConfC} {y : ConfC} (hl : r.x.cf = l0 ++ [y]) (fw a p v : List UInt8) : changeR r fw [a, p, v] = match paramS p with
    | none => none
    | some q => match valS a 0 with
      | none => none
      | some i => (valS v (digP q)).map fun n => ⟨{ r.x with cf := l0 ++ [⟨y.nm, y.zs ++ [i, (q : Int), n]⟩] }, 8, r.seen⟩ := by
  unfold changeR
  rw [hl, lastPut_snoc]
  unfold changeS
  simp only
  cases paramS p with
  | none => rfl
  | some q =>
    cases valS a 0 with
    | none => rfl
    | some i => cases hv : valS v (digP q) <;> simp [hv]
set_option maxRecDepth 100000 in
set_option maxHeartbeats 1600000 in
theorem rchange_any {B g cc A n c N : Nat} {D : Nat → Prop} {r : RdS} {W : World} {fw : List UInt8} {ws : List (List UInt8)} (h : RdX B g 8 cc D r W) (hat : r.at_ = 8) (hw : Wds W (some ⟨A, 0, none⟩) n c (fw :: ws) W.heap.size) (hl : ∀ s ∈ fw :: ws, s.length ≤ 100000) (hn : ws.length ≤ 100000)
    (hc : cc ≤ 100001) (hB : B ≤ W.heap.size) (hg : GW W) (hT : TW N W) (hNB : N ≤ B) :
    Calls Tryz.prog 92 #[.pointer (some ⟨g, 0, none⟩), .slice (some ⟨A, 0, none⟩) n c] W (StepP B g 8 cc D (changeR r fw ws) W) := by
  obtain ⟨f, v, s, k, m, hA, hL⟩ := h
  have hgB := hL.gB
  rcases hL.cf.2 with ⟨h7, _⟩ | ⟨_, l0, y, css, q, bb, cap, hS⟩ | ⟨h7, _⟩
  · omega
  · have e1 := hS.ep
    subst e1
    have c8 : W.cell? ⟨g, 8, none⟩ = some (.slice (some ⟨bb, 0, none⟩) (l0.length + 1) cap) := (hA.cell 8).1
    have hlg : g < W.heap.size := lt_of_block hA
    have hcap : l0.length + 1 ≤ cap := by
      rcases hS.row.2 with ⟨e, _⟩ | ⟨g', cap', cur, e, _, _, h3, _⟩
      · cases e
      · cases e; exact h3
    have hl0 : l0.length ≤ 100001 := by have := hL.cf.1; have : l0.length + 1 ≤ cc := this; omega
    have hn1 : n = ws.length + 1 := by have := hw.1; simp at this; omega
    subst hn1
    have hcn : ws.length + 1 ≤ c := hw.2.1
    have hlA : A < W.heap.size := by
      obtain ⟨g', off, e, h3, _⟩ := hw.2.2 (by omega)
      cases e; exact h3
    have hwc : ∀ i x, (fw :: ws)[i]? = some x → W.cell? ⟨A, i, none⟩ = some (.string (bs x)) := fun i x hx => by
      obtain ⟨g', off, e, _, h3⟩ := hw.2.2 (by omega)
      cases e; have := h3 i x hx; rwa [Nat.zero_add] at this
    have HA := Lib.hid hA; have HL := Lib.hid hL; have HS := Lib.hid hS; have Hl := Lib.hid hl; have Hg := Lib.hid hg; have HT := Lib.hid hT; have Hn := Lib.hid hn; have Hat := Lib.hid hat; have Hwc := Lib.hid hwc
    clear hA hL hS hl hg hT hw hn hat hwc
    go_enter Tryz.func92, Tryz.ntmps92
    by_cases h1 : ws.length = 3
    · obtain ⟨a, p, v', rfl⟩ : ∃ a p v', ws = [a, p, v'] := by
        match ws, h1 with
        | [x, y, z], _ => exact ⟨x, y, z, rfl⟩
      have cw2 := Hwc.out 2 p rfl
      cases hfi : pNames.findIdx? (· == p) with
      | none =>
        have hfI : findI p = -1 := by unfold findI; rw [hfi]; rfl
        have hpn : changeR r fw [a, p, v'] = none := by rw [changeR_three HS.out.el, paramS_none hfi]
        have Hpn := Lib.hid hpn; have Hfi := Lib.hid hfi
        clear hpn hfi
        go_wp2_with fail
        refine (must_yes _).mono ?_
        rintro e w3 ⟨rfl, rfl⟩
        go_wp2_with (refine (find_any p N _ HT.out (by omega)).mono ?_; rintro e w6 ⟨rfl, hb6⟩; have Hb6 := Lib.hid hb6; clear hb6)
        refine (must_no _).mono ?_
        rintro e w8 ⟨rfl, rfl⟩
        have hbd : StepP B g 8 cc D (changeR r fw [a, p, v']) W MalS _ := StepP.bad Hpn.out Hb6.out (by omega)
        unfold MalS at hbd ⊢
        have Hbd := Lib.hid hbd; clear hbd
        go_wp2_with fail
        exact ⟨rfl, Hbd.out⟩
      | some i =>
        have hfI : findI p = (i : Int) := by unfold findI; rw [hfi]; rfl
        have hi17 : i < 17 := findIdx_lt hfi
        have Hpar := Lib.hid (paramS_some hfi)
        clear hfi
        go_wp2_with fail
        refine (must_yes _).mono ?_
        rintro e w3 ⟨rfl, rfl⟩
        go_wp2_with (refine (find_any p N _ HT.out (by omega)).mono ?_; rintro e w6 ⟨rfl, hb6⟩; have Hb6 := Lib.hid hb6; clear hb6)
        refine (must_yes _).mono ?_
        rintro e w8 ⟨rfl, rfl⟩
        clear cw2
        have hs6 := Hb6.out.size
        have c8' : w6.cell? ⟨g, 8, none⟩ = some (.slice (some ⟨bb, 0, none⟩) (l0.length + 1) cap) := (Hb6.out.cell (p := ⟨g, 8, none⟩) hlg).trans c8
        have hlg6 : g < w6.heap.size := by omega
        clear c8
        go_upto_region 3 with fail
        have hwrap : IntKind.i64.wrap (l0.length : Int) = (l0.length : Int) := IntWalk.i64_in _ (by omega)
        refine wp_region_eager 13 [(0, true), (1, true), (2, true), (3, true), (4, true), (5, true), (6, true), (7, true), (8, true), (9, true), (10, true), (11, true), (12, true)] (by kernel_rfl) (by kernel_rfl) ?_
        iterate 11
          refine wpOrd_yield (v := ?_) rfl (fun _ _ _ h => h) (by rfl) ?_ ?_
          rotate_left
          · intro y hy
            have k1 := (hy.cell (p := ⟨g, 8, none⟩) hlg6).trans c8'
            go_simp
            with_reducible rfl
          try simp only [Act.put, List.setIfInBounds_toArray, List.set_cons_zero, List.set_cons_succ]
        iterate 2
          refine wpOrd_yield (v := ?_) rfl (fun _ _ _ h => h) (by rfl) ?_ ?_
          rotate_left
          · intro y hy
            go_simp
            try rw [hwrap]
            try rw [if_pos (show (l0.length : Int) < (l0.length : Int) + 1 by omega)]
            try with_reducible rfl
          try simp only [Act.put, List.setIfInBounds_toArray, List.set_cons_zero, List.set_cons_succ]
        refine wpOrd_nil rfl ?_
        clear c8'
        go_upto_region 4 with fail
        have hS6 := HS.out.go Hb6.out
        have hbb6 := hS6.bbB
        have hlA6 : A < w6.heap.size := by omega
        have cw1 : w6.cell? ⟨A, 1, none⟩ = some (.string (bs a)) := (Hb6.out.cell (p := ⟨A, 1, none⟩) hlA).trans (Hwc.out 1 a rfl)
        have cw3 : w6.cell? ⟨A, 3, none⟩ = some (.string (bs v')) := (Hb6.out.cell (p := ⟨A, 3, none⟩) hlA).trans (Hwc.out 3 v' rfl)
        have hT6 := HT.out.below (Hb6.out.mono (by omega))
        have hG0 : 0 < w6.heap.size := Nat.lt_of_lt_of_le (Nat.lt_of_lt_of_le (show 0 < 14 by decide) HT.out.glo) (by omega)
        have p1 : w6.cell? ⟨0, i * 3 + 1, none⟩ = some (.int .i64 (digP (i + 1) : Int)) := hT6.par i hi17 1 _ rfl
        obtain ⟨cg, fg⟩ := hS6.cell (show 1 < 2 by omega)
        change w6.cell? ⟨bb, l0.length * 2 + 1, none⟩ = some (.slice q.a q.n q.c) at cg
        have hd18 := digP_le (i + 1)
        generalize hdg : digP (i + 1) = dg at *
        have Hdg := Lib.hid hdg; have HS6 := Lib.hid hS6; have Hg6 := Lib.hid (Hg.out.below Hb6.out)
        clear hdg hS6 hT6
        obtain ⟨qa, qn, qc⟩ := q
        change w6.cell? ⟨bb, l0.length * 2 + 1, none⟩ = some (.slice qa qn qc) at cg
        have hi17' : (i : Int) < 17 := by omega
        have hwi : IntKind.i64.wrap ((i : Int) + 1) = (i : Int) + 1 := IntWalk.i64_in _ (by omega)
        refine wp_region_eagerK (S := fun x => x = bb ∨ x = A ∨ x = 0) 22 [(0, true), (1, true), (2, true), (3, true), (4, true), (5, true), (6, true), (7, true), (9, true), (10, true), (11, true), (12, true), (13, true), (14, true), (15, true), (16, true), (17, true), (8, false), (18, false), (19, true), (20, false), (21, false)] (by kernel_rfl) (by kernel_rfl) ?_
        iterate 17
          refine wpOrd_yieldK (v := ?_) rfl (fun _ _ _ h => h) (by rfl) ?_ ?_
          rotate_left
          · intro y hy
            have k1 := (hy.cell (p := ⟨bb, l0.length * 2 + 1, none⟩) (Or.inl rfl)).trans cg
            have k2 := (hy.cell (p := ⟨A, 1, none⟩) (Or.inr (Or.inl rfl))).trans cw1
            have k3 := (hy.cell (p := ⟨A, 3, none⟩) (Or.inr (Or.inl rfl))).trans cw3
            have k4 := (hy.cell (p := ⟨0, i * 3 + 1, none⟩) (Or.inr (Or.inr rfl))).trans p1
            go_simp
            with_reducible rfl
          try simp only [Act.put, List.setIfInBounds_toArray, List.set_cons_zero, List.set_cons_succ]
        have hKw : ∀ w w' : World, w6.heap.size ≤ w.heap.size → Below w.heap.size w w' → KeptOn (fun x => x = bb ∨ x = A ∨ x = 0) w w' := fun w w' h1 h2 x hx => h2.block x (by rcases hx with rfl | rfl | rfl <;> omega)
        have HKw := Lib.hid hKw; clear hKw
        refine wpOrd_stepK rfl rfl (fun KK hKK => ?_)
        go_simp
        refine (value_any a 0 _ (Hl.out a (by simp)) (by omega) (Hg6.out.below (Below.refl _ _).drew.drew)).mono ?_
        rintro e w9 ⟨he, hb9⟩
        have hb69 : Below w6.heap.size w6 w9 := (Below.refl w6.heap.size w6).drew.drew.trans hb9
        cases hva : valS a 0 with
        | none =>
          unfold ValueR at he
          rw [hva] at he
          subst he
          have hbd : StepP B g 8 cc D (changeR r fw [a, p, v']) W MalS w9 := StepP.bad (by rw [changeR_three HS.out.el, Hpar.out]; simp only [hva]) (below_chain Hb6.out hb69) (by omega)
          unfold MalS at hbd ⊢
          exact ⟨rfl, hbd⟩
        | some z0 =>
          unfold ValueR at he
          rw [hva] at he
          subst he
          refine hKK _ _ (HKw.out _ _ (Nat.le_refl _) hb9) ?_
          clear hKK KK
          try simp only [Act.put, List.setIfInBounds_toArray, List.set_cons_zero, List.set_cons_succ]
          refine wpOrd_stepK rfl rfl (fun KK hKK => ?_)
          go_simp
          refine (value_any v' dg w9 (Hl.out v' (by simp)) hd18 (Hg6.out.below hb69)).mono ?_
          rintro e w10 ⟨he, hb10⟩
          have hb610 : Below w6.heap.size w6 w10 := below_chain hb69 hb10
          cases hvv : valS v' dg with
          | none =>
            unfold ValueR at he
            rw [hvv] at he
            subst he
            have hbd : StepP B g 8 cc D (changeR r fw [a, p, v']) W MalS w10 := StepP.bad (by rw [changeR_three HS.out.el, Hpar.out]; simp only [hva, Hdg.out, hvv]; rfl) (below_chain Hb6.out hb610) (by omega)
            unfold MalS at hbd ⊢
            exact ⟨rfl, hbd⟩
          | some z1 =>
            unfold ValueR at he
            rw [hvv] at he
            subst he
            refine hKK _ _ (HKw.out _ _ hb69.size hb10) ?_
            clear hKK KK
            try simp only [Act.put, List.setIfInBounds_toArray, List.set_cons_zero, List.set_cons_succ]
            have hr : changeR r fw [a, p, v'] = some ⟨{ r.x with cf := l0 ++ [⟨y.nm, y.zs ++ [z0, ((i + 1 : Nat) : Int), z1]⟩] }, 8, r.seen⟩ := by rw [changeR_three HS.out.el, Hpar.out]; simp only [hva, Hdg.out, hvv]; rfl
            have Hr := Lib.hid hr
            clear hr hva hvv
            iterate 1
              refine wpOrd_yieldK (v := ?_) rfl (fun _ _ _ h => h) (by rfl) ?_ ?_
              rotate_left
              · intro y hy
                skip
                go_simp
                with_reducible rfl
              try simp only [Act.put, List.setIfInBounds_toArray, List.set_cons_zero, List.set_cons_succ]
            refine wpOrd_stepK rfl rfl (fun K hK => ?_)
            go_simp
            refine hK _ _ (HKw.out _ _ hb610.size ((Below.refl _ _).alloc (Nat.le_refl _) _)) ?_
            clear hK K
            try simp only [Act.put, List.setIfInBounds_toArray, List.set_cons_zero, List.set_cons_succ]
            have hb11 : Below w6.heap.size w6 (w10.alloc (.cells [Value.int .i64 z0, .int .i64 ((i : Int) + 1), .int .i64 z1].toArray 72)) := hb610.trans ((Below.refl w10.heap.size w10).alloc (Nat.le_refl _) _ |>.mono hb610.size)
            have hA4 := HA.out.go (below_chain Hb6.out hb11)
            have hL4 := HL.out.go (below_chain Hb6.out hb11)
            have hS4 := HS6.out.go hb11
            have hlg4 := lt_of_block hA4
            have hbb4 := hS4.bbB
            have hB4 : B ≤ (w10.alloc (.cells [Value.int .i64 z0, .int .i64 ((i : Int) + 1), .int .i64 z1].toArray 72)).heap.size := by have := (below_chain Hb6.out hb11).size; omega
            have hqn := hS4.qn
            change qn ≤ cc at hqn
            refine wpOrd_stepK rfl rfl (fun K hK => ?_)
            refine wp_append_E Tryz.underlying73 Tryz.infoChange3 rfl (by omega) (by omega) _ _ rfl B _ (.slice qa qn qc) qn w10.heap.size _ [.int .i64 z0, .int .i64 ((i : Int) + 1), .int .i64 z1] rfl hS4.coat.row (heap_alloc_new w10 _) rfl rfl (by simp [Value.oneCell']) (by omega) hB4 ?_
            intro g2 cap2 w12 hrow hgr hg2
            have hne1 : (Value.slice qa qn qc).ownBlock ≠ some bb := hS4.ne
            have hne2 : (Value.slice qa qn qc).ownBlock ≠ some A := HS.out.coat.word (by omega) (Hwc.out 0 fw rfl)
            have hne3 : (Value.slice qa qn qc).ownBlock ≠ some 0 := fun e => by
              have h9 := (ownBlock_lt hS4.coat.row e).1
              have h10 := HT.out.glo
              have h11 : 0 < 14 := by decide
              exact absurd (Nat.lt_of_lt_of_le (Nat.lt_of_lt_of_le h11 h10) (Nat.le_trans hNB h9)) (Nat.lt_irrefl _)
            refine hK _ _ (fun x hx => hgr.kept x (by have := hb11.size; rcases hx with rfl | rfl | rfl <;> omega) (by rcases hx with rfl | rfl | rfl; exact hne1; exact hne2; exact hne3)) ?_
            clear hK K
            have hcell : w12.cell? ⟨bb, l0.length * 2 + 1, none⟩ = some (.slice qa qn qc) ∧ w12.frozen? ⟨bb, l0.length * 2 + 1, none⟩ = false := by
              have hk := hgr.kept bb hbb4.2 hne1
              obtain ⟨q1, q2⟩ := hS4.cell (show 1 < 2 by omega)
              exact ⟨by simp only [World.cell?, hk]; exact q1, by simp only [World.frozen?, hk]; exact q2⟩
            obtain ⟨cg3, fg3⟩ := hcell
            have HA4 := Lib.hid hA4; have HL4 := Lib.hid hL4; have HS4 := Lib.hid hS4; have Hb4 := Lib.hid (below_chain Hb6.out hb11); have Hrow := Lib.hid hrow; have Hgr := Lib.hid hgr
            clear hA4 hL4 hS4 hb11 hrow hgr cg fg cw1 cw3 p1 hb610 hb10 hb69 hb9
            try simp only [Act.put, List.setIfInBounds_toArray, List.set_cons_zero, List.set_cons_succ]
            refine wpOrd_nilK rfl ?_
            go_wp2_with fail
            go_end0
            exact stepP_change Hr.out Hat.out Hb4.out HA4.out HL4.out HS4.out Hrow.out Hgr.out hg2 hB hc
    · have h0 : ((ws.length : Int) + 1 == 4) = false := by rw [beq_eq_false_iff_ne]; omega
      have hb : StepP B g 8 cc D (changeR r fw ws) W MalS W := StepP.bad (changeR_len h1) (Below.refl _ _) (by omega)
      have Hb2 := hb
      clear hb h1 c8
      unfold MalS at Hb2
      have Hb3 := Lib.hid Hb2; clear Hb2
      go_wp2_with fail
      refine (must_no _).mono ?_
      rintro e w3 ⟨rfl, rfl⟩
      unfold MalS
      go_wp2_with fail
      exact ⟨rfl, Hb3.out⟩
  · omega
end Go.Proofs.YtgohdcccfkjooaaGreatDoor

namespace Go.Proofs.YtgohdcccfkjooaaGreatDoor
open Go.RowKit

theorem stepP_read {B g c : Nat} {D : Nat → Prop} {r : RdS} {ws : List (List UInt8)} {W W' : World} {e : Ending} (h : StepP B g r.at_ c D (lineR r ws) W e W') (hat : ∀ q, lineR r ws = some q → q.at_ = r.at_) : ReadP (RdM B g) g c D r ws W e W' := by
  obtain ⟨h1, h2, h3⟩ := h
  refine ⟨h1, h2, h3.imp ?_ id⟩
  rintro ⟨q, e1, e2, D', h4, h5⟩
  refine ⟨q, e1, e2, D', h4, ?_⟩
  show RdX B g q.at_ _ _ _ _
  rw [hat q e1]; exact h5
theorem stepP_bad_read {B g c : Nat} {D : Nat → Prop} {r : RdS} {ws : List (List UInt8)} {W W' : World} (h : lineR r ws = none) (hb : Below W.heap.size W W') (hg : g ≤ W.heap.size) : ReadP (RdM B g) g c D r ws W MalS W' :=
  ⟨hb.mono hg, fun k hk _ => hb.block k hk, Or.inr ⟨h, rfl⟩⟩
/-- a head line that is read: the kind is stored -/
theorem stepP_stored {B g c k : Nat} {D : Nat → Prop} {r : RdS} {y : LensD} {ws : List (List UInt8)} {W W' : World} (h : StepP B g r.at_ c D (some ⟨y, (k : Int), []⟩) W (.returned (.tuple #[])) W') (hl : lineR r ws = some ⟨y, (k : Int), []⟩) (hdg : D g) : ReadP (RdM B g) g c D r ws W (.returned (.tuple #[])) (W'.setCell ⟨g, 9, none⟩ (.int .i64 (k : Int))) := by
  obtain ⟨h1, h2, h3⟩ := h
  rcases h3 with ⟨q, e1, _, D', h4, h5⟩ | ⟨e, _⟩
  · cases e1
    exact ⟨below_cell h1 (Nat.le_refl _), fun b h6 h7 => (cell_other (fun e => h7 (by rw [e]; exact hdg))).trans (h2 b h6 h7), Or.inl ⟨_, hl, rfl, D', h4, h5.put⟩⟩
  · cases e
def headOk (r : RdS) (k : Nat) : Prop := (k : Int) = r.at_ + 1 ∨ (5 ≤ k ∧ 4 ≤ r.at_ ∧ r.at_ ≤ (k : Int))
theorem heads_any {B g cc n c N k : Nat} {at0 : Int} {D : Nat → Prop} {r : RdS} {W : World} {ws : List (List UInt8)} {a : Option Addr} (hk : k < 10) (h : RdX B g at0 cc D r W) (hok : headOk r k) (h9 : r.at_ ≠ 9) (hw : Wds W a n c ws W.heap.size) (hl : ∀ s ∈ ws, s.length ≤ 100000) (hn : ws.length ≤ 100000) (hc : cc ≤ 100001) (hB : B ≤ W.heap.size) (hg : GW W) (hT : TW N W) (hN : N ≤ W.heap.size) :
    Calls Tryz.prog (fnR k) #[.pointer (some ⟨g, 0, none⟩), .slice a n c] W (StepP B g at0 cc D ((headS r.x k ws).map fun y => ⟨y, (k : Int), []⟩) W) := by
  have hhi : r.at_ ≤ 9 := by obtain ⟨f, v, s, k, m, hA, hL⟩ := h; exact hL.hi
  unfold headOk at hok
  match k, hk with
  | 0, _ => exact hname_any h hw hl (by omega) hc hB hg
  | 1, _ => exact hobject_any h hw hl (by omega) hc hB hg
  | 2, _ => exact hpupil_any h hw hl (by omega) hc hB hg
  | 3, _ => exact hstop_any h hw hl (by omega) hc hB hg
  | 4, _ => exact hprimary_any h hw hl (by omega) hc hB hg
  | 5, _ => exact hfield_any h hw hl hn (by omega) hc hB hg
  | 6, _ => exact hwave_any h hw hl hn (by omega) hc hB hg
  | 7, _ => exact hsurface_any h hw (by omega) hc hB hT hN
  | 8, _ => exact hconfig_any h hw hl (by omega) hc hB
  | 9, _ => exact hend_any h hw (by omega) hc hB
  | k + 10, hk => omega
theorem lineR_nine {r : RdS} {ws : List (List UInt8)} (h : r.at_ = 9) : lineR r ws = none := by unfold lineR; rw [if_pos h]
theorem lineR_head {r : RdS} {fw : List UInt8} {ws : List (List UInt8)} {k : Nat} (h9 : r.at_ ≠ 9) (hk : oNames.findIdx? (· == fw) = some k) : (headOk r k → lineR r (fw :: ws) = (headS r.x k ws).map fun y => ⟨y, (k : Int), []⟩) ∧ (¬ headOk r k → lineR r (fw :: ws) = none) := by
  constructor
  · intro h
    unfold lineR
    simp only [if_neg h9, hk]
    exact if_pos h
  · intro h
    unfold lineR
    simp only [if_neg h9, hk]
    exact if_neg h
theorem lineR_part {r : RdS} {fw : List UInt8} {ws : List (List UInt8)} (h7 : r.at_ = 7) (hk : oNames.findIdx? (· == fw) = none) : lineR r (fw :: ws) = partR r fw ws := by
  unfold lineR partR
  simp only [if_neg (show ¬ r.at_ = 9 by omega), hk, if_pos h7]
theorem lineR_change {r : RdS} {ws : List (List UInt8)} (h8 : r.at_ = 8) : lineR r (wChange :: ws) = changeR r wChange ws := by
  have hk : oNames.findIdx? (· == wChange) = none := by decide
  unfold lineR changeR
  simp only [if_neg (show ¬ r.at_ = 9 by omega), hk, if_neg (show ¬ r.at_ = 7 by omega)]
  rw [if_pos ⟨h8, trivial⟩]
theorem lineR_other {r : RdS} {fw : List UInt8} {ws : List (List UInt8)} (h9 : r.at_ ≠ 9) (h7 : r.at_ ≠ 7) (h8 : ¬ (r.at_ = 8 ∧ fw = wChange)) (hk : oNames.findIdx? (· == fw) = none) : lineR r (fw :: ws) = none := by
  unfold lineR
  simp only [if_neg h9, hk, if_neg h7, if_neg h8]
theorem partR_at {r q : RdS} {fw : List UInt8} {ws : List (List UInt8)} (h : partR r fw ws = some q) : q.at_ = 7 := by
  unfold partR at h
  split at h
  · cases h
  · cases hp : lastPut r.x.l (fun y => partS y (fw :: ws)) with
    | none => rw [hp] at h; cases h
    | some l => rw [hp] at h; cases h; rfl
theorem changeR_at {r q : RdS} {fw : List UInt8} {ws : List (List UInt8)} (h : changeR r fw ws = some q) : q.at_ = 8 := by
  unfold changeR at h
  cases hp : lastPut r.x.cf (fun c => changeS c (fw :: ws)) with
  | none => rw [hp] at h; cases h
  | some l => rw [hp] at h; cases h; rfl
theorem enter_r0 (args : Array Value) (w : World) : (callFunc 327 args).run Tryz.prog w = .ok (.enter 327 args) w := by kernel_rfl
theorem enter_r1 (args : Array Value) (w : World) : (callFunc 328 args).run Tryz.prog w = .ok (.enter 328 args) w := by kernel_rfl
theorem enter_r2 (args : Array Value) (w : World) : (callFunc 329 args).run Tryz.prog w = .ok (.enter 329 args) w := by kernel_rfl
theorem enter_r3 (args : Array Value) (w : World) : (callFunc 330 args).run Tryz.prog w = .ok (.enter 330 args) w := by kernel_rfl
theorem enter_r4 (args : Array Value) (w : World) : (callFunc 331 args).run Tryz.prog w = .ok (.enter 331 args) w := by kernel_rfl
theorem enter_r5 (args : Array Value) (w : World) : (callFunc 332 args).run Tryz.prog w = .ok (.enter 332 args) w := by kernel_rfl
theorem enter_r6 (args : Array Value) (w : World) : (callFunc 333 args).run Tryz.prog w = .ok (.enter 333 args) w := by kernel_rfl
theorem enter_r7 (args : Array Value) (w : World) : (callFunc 334 args).run Tryz.prog w = .ok (.enter 334 args) w := by kernel_rfl
theorem enter_r8 (args : Array Value) (w : World) : (callFunc 335 args).run Tryz.prog w = .ok (.enter 335 args) w := by kernel_rfl
theorem enter_r9 (args : Array Value) (w : World) : (callFunc 336 args).run Tryz.prog w = .ok (.enter 336 args) w := by kernel_rfl
theorem fnR_enter (k : Nat) (hk : k < 10) : ∀ args w, (callFunc (fnR k) args).run Tryz.prog w = .ok (.enter (fnR k) args) w := by
  match k, hk with
  | 0, _ => exact enter_r0
  | 1, _ => exact enter_r1
  | 2, _ => exact enter_r2
  | 3, _ => exact enter_r3
  | 4, _ => exact enter_r4
  | 5, _ => exact enter_r5
  | 6, _ => exact enter_r6
  | 7, _ => exact enter_r7
  | 8, _ => exact enter_r8
  | 9, _ => exact enter_r9
  | k + 10, hk => omega
theorem Tryz.zeroRdr (w : World) : (zeroValue 188).run Tryz.prog w = .ok .nilFunc w := by kernel_rfl
theorem stepP_ends {B g : Nat} {at0 : Int} {c : Nat} {D : Nat → Prop} {res : Option RdS} {W W' : World} {e : Ending} (h : StepP B g at0 c D res W e W') : e = .returned (.tuple #[]) ∨ e = MalS := by
  rcases h.2.2 with ⟨_, _, h, _⟩ | ⟨_, h⟩
  · exact Or.inl h
  · exact Or.inr h
theorem at_nine (at0 : Int) : at0 = 9 ∨ ((at0 != 9) = true) := by
  by_cases h : at0 = 9
  · exact Or.inl h
  · exact Or.inr (by rw [bne_iff_ne]; exact h)
set_option maxRecDepth 100000 in
set_option maxHeartbeats 1600000 in
theorem rread_any {B g c A : Nat} {D : Nat → Prop} {r : RdS} {W : World} {fw : List UInt8} {ws : List (List UInt8)} (h : RdM B g c D r W) (hw : Wds W (some ⟨A, 0, none⟩) (ws.length + 1) (ws.length + 1) (fw :: ws) W.heap.size) (hl : ∀ s ∈ fw :: ws, s.length ≤ 100000) (hn : ws.length ≤ 100000) (hc : c ≤ 100001) (hB : B ≤ W.heap.size) (hg : GW W) (hT : TW g W) :
    Calls Tryz.prog 52 #[.pointer (some ⟨g, 0, none⟩), .slice (some ⟨A, 0, none⟩) (ws.length + 1) (ws.length + 1)] W (ReadP (RdM B g) g c D r (fw :: ws) W) := by
  obtain ⟨hgB, hdg, hlo, hhi⟩ : g < B ∧ D g ∧ -1 ≤ r.at_ ∧ r.at_ ≤ 9 := by obtain ⟨f, v, s, k, m, hA, hL⟩ := h; exact ⟨hL.gB, hL.dg, hL.lo, hL.hi⟩
  have hgl : g < W.heap.size := by omega
  obtain ⟨c9, f9⟩ : W.cell? ⟨g, 9, none⟩ = some (.int .i64 r.at_) ∧ W.frozen? ⟨g, 9, none⟩ = false := by obtain ⟨f, v, s, k, m, hA, hL⟩ := h; exact hA.cell 9
  have cw0 : W.cell? ⟨A, 0, none⟩ = some (.string (bs fw)) := by
    obtain ⟨g', off, e, _, h3⟩ := hw.2.2 (by omega)
    cases e; exact h3 0 fw rfl
  have hlA : A < W.heap.size := by
    obtain ⟨g', off, e, h3, _⟩ := hw.2.2 (by omega)
    cases e; exact h3
  obtain ⟨oa, on, oc, ho, how⟩ := hT.ord
  have hon : on = 10 := how.1.symm
  subst hon
  have hol : 1 < W.heap.size := Nat.lt_of_lt_of_le (Nat.lt_of_lt_of_le (show 1 < 14 by decide) hT.glo) (by omega)
  have H := Lib.hid h; have Hw := Lib.hid hw; have Hl := Lib.hid hl; have Hg := Lib.hid hg; have HT := Lib.hid hT; have How := Lib.hid how; have Hn := Lib.hid hn
  clear h hw hl hg hT how hn f9
  go_enter Tryz.func52, Tryz.ntmps52
  rcases at_nine r.at_ with h9 | h9
  · have hb : ReadP (RdM B g) g c D r (fw :: ws) W MalS W := stepP_bad_read (lineR_nine h9) (Below.refl _ _) (by omega)
    have Hb2 := hb
    rw [h9] at c9
    clear hb h9 cw0 ho hlo hhi
    unfold MalS at Hb2
    have Hb3 := Lib.hid Hb2; clear Hb2
    go_wp2_with fail
    refine (must_no _).mono ?_
    rintro e w3 ⟨rfl, rfl⟩
    unfold MalS
    go_wp2_with fail
    exact ⟨rfl, Hb3.out⟩
  · have h9n : r.at_ ≠ 9 := by rw [bne_iff_ne] at h9; exact h9
    have H9 := Lib.hid h9n; clear h9n
    go_wp2_with fail
    refine (must_yes _).mono ?_
    rintro e w3 ⟨rfl, rfl⟩
    clear h9
    go_upto_region 1 with fail
    refine wp_region_eager 5 [(0, true), (1, true), (2, true), (3, true), (4, false)] (by kernel_rfl) (by kernel_rfl) ?_
    iterate 4
      refine wpOrd_yield (v := ?_) rfl (fun _ _ _ h => h) (by rfl) ?_ ?_
      rotate_left
      · intro y hy
        have k1 := (hy.cell (p := ⟨1, 0, none⟩) hol).trans ho
        have k2 := (hy.cell (p := ⟨A, 0, none⟩) hlA).trans cw0
        go_simp
        with_reducible rfl
      try simp only [Act.put, List.setIfInBounds_toArray, List.set_cons_zero, List.set_cons_succ]
    refine wpOrd_step rfl rfl (fun KK hKK => ?_)
    go_simp
    refine (indexS_any oNames fw oa 10 oc g W.drew (How.out.kept (fun _ _ => rfl) (Nat.le_refl _)) (show g ≤ W.heap.size by omega) (by omega)).mono ?_
    rintro e w4 ⟨rfl, hb4⟩
    refine hKK _ _ hb4 ?_
    clear hKK KK
    try simp only [Act.put, List.setIfInBounds_toArray, List.set_cons_zero, List.set_cons_succ]
    refine wpOrd_nil rfl ?_
    have hbW : Below W.heap.size W w4 := (Below.refl W.heap.size W).drew.trans hb4
    have hs4 := hbW.size
    have d9 : w4.cell? ⟨g, 9, none⟩ = some (.int .i64 r.at_) := (hbW.cell (p := ⟨g, 9, none⟩) hgl).trans c9
    have dw0 : w4.cell? ⟨A, 0, none⟩ = some (.string (bs fw)) := (hbW.cell (p := ⟨A, 0, none⟩) hlA).trans cw0
    have H4 := Lib.hid (RdX.go H.out hbW); have Hb4 := Lib.hid hbW; have Hw4 := Lib.hid (wds_go Hw.out hbW); have Hg4 := Lib.hid (Hg.out.below hbW); have HT4 := Lib.hid (HT.out.below (hbW.mono (by omega)))
    clear hb4 hbW c9 cw0 ho H Hw Hg HT How
    cases hk : oNames.findIdx? (· == fw) with
    | some k =>
      have hk10 : k < 10 := findIdx_lt hk
      have hhead := lineR_head (ws := ws) H9.out hk
      have Hhead := Lib.hid hhead; have Hk := Lib.hid hk
      clear hhead hk
      unfold idxV
      have hk0 : (0 : Int) ≤ (k : Int) := by omega
      by_cases h1 : (k : Int) = r.at_ + 1
      · have h1b : ((k : Int) == r.at_ + 1) = true := by rw [beq_iff_eq]; exact h1
        have hok : headOk r k := Or.inl h1
        have Hok := Lib.hid hok
        clear h1 hok
        go_wp2_with fail
        refine (must_yes _).mono ?_
        rintro e w5 ⟨rfl, rfl⟩
        go_upto_region 4 with fail
        have hG4 : 4 < w4.heap.size := Nat.lt_of_lt_of_le (Nat.lt_of_lt_of_le (show 4 < 14 by decide) HT4.out.glo) (by omega)
        obtain ⟨ob, ol, hob, hobN, hmv, hlook⟩ := HT4.out.rdr
        have hobl : ob < w4.heap.size := by omega
        have hlk : ∀ y, Below w4.heap.size w4 y → (Instr.lookup 189 (.map (some ob)) (.string (bs fw)) false).run Tryz.prog y = .ok (.func (.func (fnR k)) #[] #[]) y := fun y hy => by
          rw [run_lookup_V Tryz.underlying189 Tryz.underlying9 (Tryz.zeroRdr y) (hmv.block (hy.block ob hobl)) fw false, hlook fw]
          unfold rdrS
          rw [Hk.out]
          rfl
        have Hlk := Lib.hid hlk
        clear hmv hlook hlk
        have hlA4 : A < w4.heap.size := by omega
        have hgl4 : g < w4.heap.size := by omega
        have hB4 : B ≤ w4.drew.heap.size := by show B ≤ w4.heap.size; omega
        have hN4 : g ≤ w4.drew.heap.size := by show g ≤ w4.heap.size; omega
        have Hbd := Lib.hid (Hb4.out.drew)
        have hdr : Below w4.heap.size w4 w4.drew := (Below.refl _ _).drew
        have H4d := Lib.hid (RdX.go H4.out hdr); have Hg4d := Lib.hid (Hg4.out.below hdr); have HT4d := Lib.hid (HT4.out.below (hdr.mono (by omega)))
        have hwd := wds_go Hw4.out hdr
        have Hwd := Lib.hid hwd
        clear hdr hwd
        by_cases hws : ws.length = 0
        · obtain rfl : ws = [] := List.length_eq_zero_iff.1 hws
          refine wp_region_eager 8 [(0, true), (1, true), (2, true), (3, true), (4, true), (5, true), (6, true), (7, true)] (by kernel_rfl) (by kernel_rfl) ?_
          iterate 8
            refine wpOrd_yield (v := ?_) rfl (fun _ _ _ h => h) (by rfl) ?_ ?_
            rotate_left
            · intro y hy
              have k1 := (hy.cell (p := ⟨4, 0, none⟩) hG4).trans hob
              have k2 := (hy.cell (p := ⟨A, 0, none⟩) hlA4).trans dw0
              have k3 := Hlk.out y (below_undrew (k := 1) hy)
              go_simp
              with_reducible rfl
            try simp only [Act.put, List.setIfInBounds_toArray, List.set_cons_zero, List.set_cons_succ]
          refine wpOrd_nil rfl ?_
          have hent := fnR_enter k hk10
          go_wp2_with fail
          clear hent
          refine (heads_any hk10 H4d.out Hok.out H9.out ⟨rfl, Nat.le_refl _, fun h0 => absurd h0 (by simp)⟩ (fun s hs => Hl.out s (List.mem_cons_of_mem _ hs)) Hn.out hc hB4 Hg4d.out HT4d.out hN4).mono ?_
          rintro e w6 hst
          have hst2 := stepP_from hst Hbd.out (by omega)
          clear hst
          cases hh : headS r.x k [] with
          | none =>
            rw [hh] at hst2
            rcases hst2.2.2 with ⟨q, e1, _⟩ | ⟨_, rfl⟩
            · cases e1
            · have hread : ReadP (RdM B g) g c D r (fw :: []) W MalS w6 := ⟨hst2.1, hst2.2.1, Or.inr ⟨(Hhead.out.1 Hok.out).trans (by rw [hh]; rfl), rfl⟩⟩
              clear hst2 hh
              unfold MalS at hread ⊢
              have Hread := Lib.hid hread; clear hread
              go_wp2_with fail
              exact ⟨rfl, Hread.out⟩
          | some y =>
            rw [hh] at hst2
            rcases id hst2.2.2 with ⟨q, e1, rfl, D', h4, h5⟩ | ⟨e1, _⟩
            · have hl2 : lineR r (fw :: []) = some ⟨y, (k : Int), []⟩ := (Hhead.out.1 Hok.out).trans (by rw [hh]; rfl)
              have hread := stepP_stored (k := k) (y := y) hst2 hl2 hdg
              obtain ⟨f', v', s', k', m', hA', hL'⟩ := h5
              obtain ⟨c9', f9'⟩ := hA'.cell 9
              change w6.cell? ⟨g, 9, none⟩ = some (.int .i64 r.at_) at c9'
              have Hread := Lib.hid hread
              clear hread hst2 hl2 hL' hA' h4 hh e1 dw0 d9
              go_wp2_with fail
              go_end0
              exact Hread.out
            · cases e1
        · have hws2 : ¬ ws = [] := fun e => hws (by rw [e]; rfl)
          have hge : (1 : Int) ≤ (ws.length : Int) + 1 := by omega
          refine wp_region_eager 8 [(0, true), (1, true), (2, true), (3, true), (4, true), (5, true), (6, true), (7, true)] (by kernel_rfl) (by kernel_rfl) ?_
          iterate 8
            refine wpOrd_yield (v := ?_) rfl (fun _ _ _ h => h) (by rfl) ?_ ?_
            rotate_left
            · intro y hy
              have k1 := (hy.cell (p := ⟨4, 0, none⟩) hG4).trans hob
              have k2 := (hy.cell (p := ⟨A, 0, none⟩) hlA4).trans dw0
              have k3 := Hlk.out y (below_undrew (k := 1) hy)
              go_simp
              with_reducible rfl
            try simp only [Act.put, List.setIfInBounds_toArray, List.set_cons_zero, List.set_cons_succ]
          refine wpOrd_nil rfl ?_
          have hent := fnR_enter k hk10
          go_wp2_with fail
          clear hent
          refine (heads_any hk10 H4d.out Hok.out H9.out (by have := wds_tail Hwd.out; simpa using this) (fun s hs => Hl.out s (List.mem_cons_of_mem _ hs)) Hn.out hc hB4 Hg4d.out HT4d.out hN4).mono ?_
          rintro e w6 hst
          have hst2 := stepP_from hst Hbd.out (by omega)
          clear hst
          cases hh : headS r.x k ws with
          | none =>
            rw [hh] at hst2
            rcases hst2.2.2 with ⟨q, e1, _⟩ | ⟨_, rfl⟩
            · cases e1
            · have hread : ReadP (RdM B g) g c D r (fw :: ws) W MalS w6 := ⟨hst2.1, hst2.2.1, Or.inr ⟨(Hhead.out.1 Hok.out).trans (by rw [hh]; rfl), rfl⟩⟩
              clear hst2 hh
              unfold MalS at hread ⊢
              have Hread := Lib.hid hread; clear hread
              go_wp2_with fail
              exact ⟨rfl, Hread.out⟩
          | some y =>
            rw [hh] at hst2
            rcases id hst2.2.2 with ⟨q, e1, rfl, D', h4, h5⟩ | ⟨e1, _⟩
            · have hl2 : lineR r (fw :: ws) = some ⟨y, (k : Int), []⟩ := (Hhead.out.1 Hok.out).trans (by rw [hh]; rfl)
              have hread := stepP_stored (k := k) (y := y) hst2 hl2 hdg
              obtain ⟨f', v', s', k', m', hA', hL'⟩ := h5
              obtain ⟨c9', f9'⟩ := hA'.cell 9
              change w6.cell? ⟨g, 9, none⟩ = some (.int .i64 r.at_) at c9'
              have Hread := Lib.hid hread
              clear hread hst2 hl2 hL' hA' h4 hh e1 dw0 d9
              go_wp2_with fail
              go_end0
              exact Hread.out
            · cases e1
      · have h1b : ((k : Int) == r.at_ + 1) = false := by rw [beq_eq_false_iff_ne]; exact h1
        by_cases h5 : 5 ≤ k
        · by_cases h4 : 4 ≤ r.at_
          · by_cases h6 : r.at_ ≤ (k : Int)
            · have hok : headOk r k := Or.inr ⟨h5, h4, h6⟩
              have Hok := Lib.hid hok
              have h5' : (5 : Int) ≤ (k : Int) := by omega
              clear h1 hok
              go_wp2_with fail
              refine (must_yes _).mono ?_
              rintro e w5 ⟨rfl, rfl⟩
              go_upto_region 4 with fail
              have hG4 : 4 < w4.heap.size := Nat.lt_of_lt_of_le (Nat.lt_of_lt_of_le (show 4 < 14 by decide) HT4.out.glo) (by omega)
              obtain ⟨ob, ol, hob, hobN, hmv, hlook⟩ := HT4.out.rdr
              have hobl : ob < w4.heap.size := by omega
              have hlk : ∀ y, Below w4.heap.size w4 y → (Instr.lookup 189 (.map (some ob)) (.string (bs fw)) false).run Tryz.prog y = .ok (.func (.func (fnR k)) #[] #[]) y := fun y hy => by
                rw [run_lookup_V Tryz.underlying189 Tryz.underlying9 (Tryz.zeroRdr y) (hmv.block (hy.block ob hobl)) fw false, hlook fw]
                unfold rdrS
                rw [Hk.out]
                rfl
              have Hlk := Lib.hid hlk
              clear hmv hlook hlk
              have hlA4 : A < w4.heap.size := by omega
              have hgl4 : g < w4.heap.size := by omega
              have hB4 : B ≤ w4.drew.heap.size := by show B ≤ w4.heap.size; omega
              have hN4 : g ≤ w4.drew.heap.size := by show g ≤ w4.heap.size; omega
              have Hbd := Lib.hid (Hb4.out.drew)
              have hdr : Below w4.heap.size w4 w4.drew := (Below.refl _ _).drew
              have H4d := Lib.hid (RdX.go H4.out hdr); have Hg4d := Lib.hid (Hg4.out.below hdr); have HT4d := Lib.hid (HT4.out.below (hdr.mono (by omega)))
              have hwd := wds_go Hw4.out hdr
              have Hwd := Lib.hid hwd
              clear hdr hwd
              by_cases hws : ws.length = 0
              · obtain rfl : ws = [] := List.length_eq_zero_iff.1 hws
                refine wp_region_eager 8 [(0, true), (1, true), (2, true), (3, true), (4, true), (5, true), (6, true), (7, true)] (by kernel_rfl) (by kernel_rfl) ?_
                iterate 8
                  refine wpOrd_yield (v := ?_) rfl (fun _ _ _ h => h) (by rfl) ?_ ?_
                  rotate_left
                  · intro y hy
                    have k1 := (hy.cell (p := ⟨4, 0, none⟩) hG4).trans hob
                    have k2 := (hy.cell (p := ⟨A, 0, none⟩) hlA4).trans dw0
                    have k3 := Hlk.out y (below_undrew (k := 1) hy)
                    go_simp
                    with_reducible rfl
                  try simp only [Act.put, List.setIfInBounds_toArray, List.set_cons_zero, List.set_cons_succ]
                refine wpOrd_nil rfl ?_
                have hent := fnR_enter k hk10
                go_wp2_with fail
                clear hent
                refine (heads_any hk10 H4d.out Hok.out H9.out ⟨rfl, Nat.le_refl _, fun h0 => absurd h0 (by simp)⟩ (fun s hs => Hl.out s (List.mem_cons_of_mem _ hs)) Hn.out hc hB4 Hg4d.out HT4d.out hN4).mono ?_
                rintro e w6 hst
                have hst2 := stepP_from hst Hbd.out (by omega)
                clear hst
                cases hh : headS r.x k [] with
                | none =>
                  rw [hh] at hst2
                  rcases hst2.2.2 with ⟨q, e1, _⟩ | ⟨_, rfl⟩
                  · cases e1
                  · have hread : ReadP (RdM B g) g c D r (fw :: []) W MalS w6 := ⟨hst2.1, hst2.2.1, Or.inr ⟨(Hhead.out.1 Hok.out).trans (by rw [hh]; rfl), rfl⟩⟩
                    clear hst2 hh
                    unfold MalS at hread ⊢
                    have Hread := Lib.hid hread; clear hread
                    go_wp2_with fail
                    exact ⟨rfl, Hread.out⟩
                | some y =>
                  rw [hh] at hst2
                  rcases id hst2.2.2 with ⟨q, e1, rfl, D', h4, h5⟩ | ⟨e1, _⟩
                  · have hl2 : lineR r (fw :: []) = some ⟨y, (k : Int), []⟩ := (Hhead.out.1 Hok.out).trans (by rw [hh]; rfl)
                    have hread := stepP_stored (k := k) (y := y) hst2 hl2 hdg
                    obtain ⟨f', v', s', k', m', hA', hL'⟩ := h5
                    obtain ⟨c9', f9'⟩ := hA'.cell 9
                    change w6.cell? ⟨g, 9, none⟩ = some (.int .i64 r.at_) at c9'
                    have Hread := Lib.hid hread
                    clear hread hst2 hl2 hL' hA' h4 hh e1 dw0 d9
                    go_wp2_with fail
                    go_end0
                    exact Hread.out
                  · cases e1
              · have hws2 : ¬ ws = [] := fun e => hws (by rw [e]; rfl)
                have hge : (1 : Int) ≤ (ws.length : Int) + 1 := by omega
                refine wp_region_eager 8 [(0, true), (1, true), (2, true), (3, true), (4, true), (5, true), (6, true), (7, true)] (by kernel_rfl) (by kernel_rfl) ?_
                iterate 8
                  refine wpOrd_yield (v := ?_) rfl (fun _ _ _ h => h) (by rfl) ?_ ?_
                  rotate_left
                  · intro y hy
                    have k1 := (hy.cell (p := ⟨4, 0, none⟩) hG4).trans hob
                    have k2 := (hy.cell (p := ⟨A, 0, none⟩) hlA4).trans dw0
                    have k3 := Hlk.out y (below_undrew (k := 1) hy)
                    go_simp
                    with_reducible rfl
                  try simp only [Act.put, List.setIfInBounds_toArray, List.set_cons_zero, List.set_cons_succ]
                refine wpOrd_nil rfl ?_
                have hent := fnR_enter k hk10
                go_wp2_with fail
                clear hent
                refine (heads_any hk10 H4d.out Hok.out H9.out (by have := wds_tail Hwd.out; simpa using this) (fun s hs => Hl.out s (List.mem_cons_of_mem _ hs)) Hn.out hc hB4 Hg4d.out HT4d.out hN4).mono ?_
                rintro e w6 hst
                have hst2 := stepP_from hst Hbd.out (by omega)
                clear hst
                cases hh : headS r.x k ws with
                | none =>
                  rw [hh] at hst2
                  rcases hst2.2.2 with ⟨q, e1, _⟩ | ⟨_, rfl⟩
                  · cases e1
                  · have hread : ReadP (RdM B g) g c D r (fw :: ws) W MalS w6 := ⟨hst2.1, hst2.2.1, Or.inr ⟨(Hhead.out.1 Hok.out).trans (by rw [hh]; rfl), rfl⟩⟩
                    clear hst2 hh
                    unfold MalS at hread ⊢
                    have Hread := Lib.hid hread; clear hread
                    go_wp2_with fail
                    exact ⟨rfl, Hread.out⟩
                | some y =>
                  rw [hh] at hst2
                  rcases id hst2.2.2 with ⟨q, e1, rfl, D', h4, h5⟩ | ⟨e1, _⟩
                  · have hl2 : lineR r (fw :: ws) = some ⟨y, (k : Int), []⟩ := (Hhead.out.1 Hok.out).trans (by rw [hh]; rfl)
                    have hread := stepP_stored (k := k) (y := y) hst2 hl2 hdg
                    obtain ⟨f', v', s', k', m', hA', hL'⟩ := h5
                    obtain ⟨c9', f9'⟩ := hA'.cell 9
                    change w6.cell? ⟨g, 9, none⟩ = some (.int .i64 r.at_) at c9'
                    have Hread := Lib.hid hread
                    clear hread hst2 hl2 hL' hA' h4 hh e1 dw0 d9
                    go_wp2_with fail
                    go_end0
                    exact Hread.out
                  · cases e1
            · have h5' : (5 : Int) ≤ (k : Int) := by omega
              have hb : ReadP (RdM B g) g c D r (fw :: ws) W MalS w4 := stepP_bad_read (Hhead.out.2 (by unfold headOk; omega)) Hb4.out (by omega)
              clear Hhead
              unfold MalS at hb
              have Hb3 := Lib.hid hb; clear hb
              have H1 := Lib.hid h1; clear h1
              go_wp2_with fail
              refine (must_no _).mono ?_
              rintro e w5 ⟨rfl, rfl⟩
              unfold MalS
              go_wp2_with fail
              exact ⟨rfl, Hb3.out⟩
          · have h5' : (5 : Int) ≤ (k : Int) := by omega
            have hb : ReadP (RdM B g) g c D r (fw :: ws) W MalS w4 := stepP_bad_read (Hhead.out.2 (by unfold headOk; omega)) Hb4.out (by omega)
            clear Hhead
            unfold MalS at hb
            have Hb3 := Lib.hid hb; clear hb
            have H1 := Lib.hid h1; clear h1
            go_wp2_with fail
            refine (must_no _).mono ?_
            rintro e w5 ⟨rfl, rfl⟩
            unfold MalS
            go_wp2_with fail
            exact ⟨rfl, Hb3.out⟩
        · have h5' : ¬ (5 : Int) ≤ (k : Int) := by omega
          have hb : ReadP (RdM B g) g c D r (fw :: ws) W MalS w4 := stepP_bad_read (Hhead.out.2 (by unfold headOk; omega)) Hb4.out (by omega)
          clear Hhead
          unfold MalS at hb
          have Hb3 := Lib.hid hb; clear hb
          have H1 := Lib.hid h1; clear h1
          go_wp2_with fail
          refine (must_no _).mono ?_
          rintro e w5 ⟨rfl, rfl⟩
          unfold MalS
          go_wp2_with fail
          exact ⟨rfl, Hb3.out⟩
    | none =>
      unfold idxV
      by_cases h7 : r.at_ = 7
      · have hr := lineR_part (ws := ws) h7 hk
        have Hr := Lib.hid hr; have Hk := Lib.hid hk
        clear hr hk
        have H7 := Lib.hid h7
        rw [h7] at d9
        clear h7
        go_wp2_with fail
        have hp := H4.out
        unfold RdM at hp
        refine (rpart_any (ws := ws) (by rw [← H7.out]; exact hp) H7.out Hw4.out Hl.out Hn.out hc (by omega) Hg4.out HT4.out (by omega)).mono ?_
        rintro e w5 hst
        have hst2 := stepP_from hst Hb4.out (by omega)
        have hread : ReadP (RdM B g) g c D r (fw :: ws) W e w5 := stepP_read (by rw [H7.out, Hr.out]; exact hst2) (fun q hq => by rw [Hr.out] at hq; rw [H7.out]; exact partR_at hq)
        have he := stepP_ends hst
        clear hst hst2 hp
        rcases he with rfl | rfl
        · have Hread := Lib.hid hread; clear hread
          go_wp2_with fail
          go_end0
          exact Hread.out
        · unfold MalS at hread ⊢
          have Hread := Lib.hid hread; clear hread
          go_wp2_with fail
          exact ⟨rfl, Hread.out⟩
      · have h7b : (r.at_ == 7) = false := by rw [beq_eq_false_iff_ne]; exact h7
        by_cases h8 : r.at_ = 8
        · by_cases hcw : fw = wChange
          · subst hcw
            have hr := lineR_change (ws := ws) h8
            have Hr := Lib.hid hr; have Hk := Lib.hid hk
            clear hr hk h7 h7b
            have H8 := Lib.hid h8
            rw [h8] at d9
            clear h8
            have hcq : (bs wChange == ({ data := #[99, 104, 97, 110, 103, 101] } : ByteArray)) = true := by decide
            go_wp2_with fail
            have hp := H4.out
            unfold RdM at hp
            refine (rchange_any (ws := ws) (by rw [← H8.out]; exact hp) H8.out Hw4.out Hl.out Hn.out hc (by omega) Hg4.out HT4.out (by omega)).mono ?_
            rintro e w5 hst
            have hst2 := stepP_from hst Hb4.out (by omega)
            have hread : ReadP (RdM B g) g c D r (wChange :: ws) W e w5 := stepP_read (by rw [H8.out, Hr.out]; exact hst2) (fun q hq => by rw [Hr.out] at hq; rw [H8.out]; exact changeR_at hq)
            have he := stepP_ends hst
            clear hst hst2 hp
            rcases he with rfl | rfl
            · have Hread := Lib.hid hread; clear hread
              go_wp2_with fail
              go_end0
              exact Hread.out
            · unfold MalS at hread ⊢
              have Hread := Lib.hid hread; clear hread
              go_wp2_with fail
              exact ⟨rfl, Hread.out⟩
          · have hb : ReadP (RdM B g) g c D r (fw :: ws) W MalS w4 := stepP_bad_read (lineR_other H9.out h7 (fun h => hcw h.2) hk) Hb4.out (by omega)
            have hcq : (fw == [99, 104, 97, 110, 103, 101]) = false := by rw [beq_eq_false_iff_ne]; exact hcw
            rw [h8] at d9
            clear hk h7 h7b h8 hcw
            unfold MalS at hb
            have Hb3 := Lib.hid hb; clear hb
            go_wp2_with fail
            refine (must_no _).mono ?_
            rintro e w5 ⟨rfl, rfl⟩
            unfold MalS
            go_wp2_with fail
            exact ⟨rfl, Hb3.out⟩
        · have hb : ReadP (RdM B g) g c D r (fw :: ws) W MalS w4 := stepP_bad_read (lineR_other H9.out h7 (fun h => h8 h.1) hk) Hb4.out (by omega)
          have h8b : (r.at_ == 8) = false := by rw [beq_eq_false_iff_ne]; exact h8
          clear hk h7 h8
          unfold MalS at hb
          have Hb3 := Lib.hid hb; clear hb
          go_wp2_with fail
          refine (must_no _).mono ?_
          rintro e w5 ⟨rfl, rfl⟩
          unfold MalS
          go_wp2_with fail
          exact ⟨rfl, Hb3.out⟩
end Go.Proofs.YtgohdcccfkjooaaGreatDoor

namespace Go.Proofs.YtgohdcccfkjooaaGreatDoor
open Go.RowKit

theorem rdSpec (B g : Nat) : RdSpec B g (RdM B g) where
  lens := by
    rintro c D r W ⟨f, v, s, k, m, hA, hL⟩
    exact ⟨f, v, s, k, m, hA, hL.lensAt⟩
  own := by
    rintro c D r W b ⟨f, v, s, k, m, hA, hL⟩ hb
    exact hL.own b hb
  kept := by
    intro c D r W W' h hk hs
    exact RdX.keep h hk hs
  read := by
    intro c D r W ws A h hw hne hl hn hc hB hg hT
    match ws, hne with
    | [], hne => exact absurd rfl hne
    | fw :: ws, _ => exact rread_any h hw hl (by rw [List.length_cons] at hn; omega) hc hB hg hT
/-- sequence.Parse -/
theorem sparse_any (t : List UInt8) (w : World) (hg : GW w) (hT : TW w.heap.size w) (hP : Places w.heap.size w) (ht : t.length ≤ 100000) : Calls Tryz.prog 18 #[.string (bs t)] w (RetPS w (readS t)) :=
  parse_any (Rd := RdM (w.heap.size + 8) (w.heap.size + 3)) t w (rdSpec _ _) (fun W h => rd_first (by omega) h) hg hT hP ht
end Go.Proofs.YtgohdcccfkjooaaGreatDoor
