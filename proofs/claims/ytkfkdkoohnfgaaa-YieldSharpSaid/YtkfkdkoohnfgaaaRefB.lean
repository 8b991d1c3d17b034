/-
  DERIVED. The walks of the reference's long integers, second part: Of, at, Right, told.
-/
import Derived.Test.YtkfkdkoohnfgaaaRefA
import Derived.Test.YtkfkdkoohnfgaaaOnly
namespace Go.Proofs.Ytkfkdkoohnfgaaa
open Go.RowKit

theorem ref_two (w : World) (x y : Value) (t : TypeId) : (w.alloc (.cells #[x, y] t)).cell? ⟨w.heap.size, 0, none⟩ = some x ∧ (w.alloc (.cells #[x, y] t)).cell? ⟨w.heap.size, 1, none⟩ = some y := by
  have h := heap_alloc_new w (.cells #[x, y] t)
  exact ⟨(obj_cell h 0).trans rfl, (obj_cell h 1).trans rfl⟩

theorem refL1_mk {w w3 : World} {s : Bool} {a : Option Addr} {n c B : Nat} {z : Int} (hlg : LG w3.heap.size w3 s a n c z) (hb : Below w.heap.size w w3) (hf : Fresh B a n) (blk : Nat) (hblk : blk < B) (hw : w.heap.size ≤ blk) (u v : Value) :
    RetL1 w z (.returned (.agg #[.bool s, .slice a n c])) ((w3.setCell ⟨blk, 0, none⟩ u).setCell ⟨blk, 1, none⟩ v) := by
  have hne : ∀ b off, a = some ⟨b, off, none⟩ → 0 < n → b ≠ blk := fun b off e h0 => by have := hf b off e h0; omega
  refine ⟨s, a, n, c, rfl, ?_, (hb.setCell hw _).setCell hw _, hf.mono (by omega)⟩
  have := (hlg.setCell ⟨blk, 0, none⟩ u hne).setCell ⟨blk, 1, none⟩ v hne
  simpa using this

theorem cells_at {w : World} {b : Nat} {x y : Value} {t : TypeId} (h : w.heap[b]? = some (.cells #[x, y] t (0, 0))) :
    w.cell? ⟨b, 0, none⟩ = some x ∧ w.cell? ⟨b, 1, none⟩ = some y ∧ w.frozen? ⟨b, 0, none⟩ = false ∧ w.frozen? ⟨b, 1, none⟩ = false := by
  refine ⟨?_, ?_, ?_, ?_⟩ <;> simp [World.cell?, World.frozen?, h]

/-- what holds ahead of each round of the reference's Of -/
def ROfRel (n : Nat) (w : World) (q d : Value) (wr : World) : Prop :=
  ∃ (k : Nat) (va : Option Addr) (vc : Nat) (zs : List Int), q = .int .i64 (k : Int) ∧ d = .slice va zs.length vc ∧ (k : Int) ≤ 9223372036854775807 ∧ digs n = zs ++ digs k ∧
    wr.ownsRow (w.heap.size + 1) 3 1 (.slice va zs.length vc) zs.length (zs.map (Value.int .i64)) ∧
    wr.heap[w.heap.size]? = some (.cells #[.bool false, .slice none 0 0] 51 (0, 0)) ∧ Below w.heap.size w wr ∧ w.heap.size + 1 ≤ wr.heap.size

set_option maxRecDepth 100000 in
set_option maxHeartbeats 800000 in
theorem refOf_any (n : Nat) (w : World) (hn : (n : Int) ≤ 9223372036854775807) :
    Calls Try.prog 36 #[.int .i64 (n : Int)] w (RetL1 w n) := by
  have hlen := length_digs_int n (by omega) (by omega)
  rw [Int.natAbs_natCast] at hlen
  have Hlen := Lib.hid hlen; clear hlen
  have hneg : ¬ (n : Int) < 0 := by omega
  go_enter Try.func36, Try.ntmps36
  go_wp2_with fail
  go_loopw [0, 3] (fun q d wr => ROfRel n w q d wr) (fun q _ _ => (intOf q).toNat)
  case atStart => exact ⟨n, none, 0, [], rfl, rfl, hn, by simp, World.ownsRow_nil _ _ _ _, heap_alloc_new _ _, (Below.refl _ _).alloc (Nat.le_refl _) _, by simp⟩
  case round =>
    obtain ⟨k, va, vc, zs, rfl, rfl, hk2, hd, hown, hc1, hbw, hsz⟩ := hrel
    have Hd := Lib.hid hd; have Hown := Lib.hid hown; have Hc1 := Lib.hid hc1; clear hd hown hc1
    by_cases hk0 : k = 0
    · subst hk0
      obtain ⟨j10, j11, j20, j21⟩ := cells_at Hc1.out
      have hzs : digs n = zs := by have := Hd.out; simpa [digs_zero] using this
      have hsl := owns_sl Hown.out
      have Hsl := Lib.hid hsl; clear hsl
      go_wp2_with fail
      refine (made_any false zs n _ _ _ _ Hsl.out (by rw [← hzs]; exact dig_digs n) (by rw [← hzs]; have := Hlen.out; omega) (by rw [← hzs, val_digs, Int.toNat_natCast]; have := Hlen.out; omega) (by rw [← hzs]; simp [val_digs])).mono ?_
      rintro e w1 ⟨s, a, m, c, rfl, hlg, hb1, hf⟩
      have c10 := (hb1.cell (p := ⟨w.heap.size, 0, none⟩) (by show w.heap.size < wr.heap.size; omega)).trans j10
      have c11 := (hb1.cell (p := ⟨w.heap.size, 1, none⟩) (by show w.heap.size < wr.heap.size; omega)).trans j11
      have c20 := (hb1.frozen (p := ⟨w.heap.size, 0, none⟩) (by show w.heap.size < wr.heap.size; omega)).trans j20
      have c21 := (hb1.frozen (p := ⟨w.heap.size, 1, none⟩) (by show w.heap.size < wr.heap.size; omega)).trans j21
      have Hlg := Lib.hid hlg; have Hf := Lib.hid hf; clear hlg hf hzs
      go_wp2_with fail
      refine bodyPost_ret (v := .agg #[.bool s, .slice a m c]) ?_ rfl ?_
      · simp [results, Try.results36, go_sem, c10, c11]
      · exact refL1_mk Hlg.out (hbw.trans (hb1.mono hbw.size)) Hf.out w.heap.size (by omega) (Nat.le_refl _) _ _
    · have hb : ((k : Int) != 0) = true := by simpa using hk0
      have hkp : 0 < k := by omega
      have hd3 := Hd.out
      have hlz : zs.length ≤ 3 := by have := Hlen.out; rw [hd3, List.length_append] at this; omega
      have hx : digs k = [(k : Int) % 1000000000] ++ digs ((k : Int) / 1000000000).toNat := by
        rw [digs_pos hkp, show ((k % 1000000000 : Nat) : Int) = (k : Int) % 1000000000 by omega, show k / 1000000000 = ((k : Int) / 1000000000).toNat by omega]; rfl
      have Hx := Lib.hid hx; clear hx
      have hpos : 0 < (k : Int) := by omega
      have hm : ((k : Int) / 1000000000).toNat < k := by omega
      have hq : 0 ≤ (k : Int) / 1000000000 := by omega
      have hq1 : (k : Int) / 1000000000 ≤ 9223372036854775807 := by omega
      have Hm := Lib.hid hm; clear hm
      clear hd3 hk0 hkp
      generalize hK : (k : Int) = K at *
      have HK := Lib.hid hK; clear hK
      go_wp2_with (refine wpList_append_ints rfl (.tmp 16) (.tmp 18) 49 rfl Try.underlying49 (w.heap.size + 1) _ _ zs rfl (Hown.out.alloc _) _ _ 1 1 [_] rfl (SL.one wr _ _) (by simp) (by omega) (by simp; omega) ?_)
      intro v' w1 hown1 hgrow
      obtain ⟨va', vc', rfl⟩ := owns_slice hown1
      have e1 := (grown_old (base := w.heap.size + 1) Hown.out hgrow (b := w.heap.size) (by omega) hsz).trans Hc1.out
      have e3 := grown_below hbw Hown.out hgrow (by omega) hsz
      have e4 := hgrow.size
      have He1 := Lib.hid e1; have Hown1 := Lib.hid hown1; clear e1 hown1 hgrow
      go_wp2
      go_roundw
      case rel =>
        refine ⟨(K / 1000000000).toNat, va', vc', zs ++ [K % 1000000000], by rw [Int.toNat_of_nonneg hq], by simp, by rw [Int.toNat_of_nonneg hq]; exact hq1, by rw [Hd.out, Hx.out, List.append_assoc], ?_, He1.out, e3, ?_⟩
        · simpa using Hown1.out
        · simp at e4 ⊢; omega
      case measure =>
        have := Hm.out
        simp [intOf]; omega

set_option maxHeartbeats 400000 in
theorem refAt_any (zs : List Int) (a : Option Addr) (n c i : Nat) (w : World) (h : SL w.heap.size w a n c zs) (hn : n ≤ 1000000) (hi : i ≤ 1000000) :
    Calls Try.prog 85 #[.slice a n c, .int .i64 (i : Int)] w (fun e w' => e = .returned (.int .i64 (zs.getD i 0)) ∧ w = w') := by
  have hl := h.len
  by_cases hin : i < n
  · obtain ⟨b, off, rfl, hb, ca⟩ := h.at (by omega)
    have g1 := ca i hin
    clear ca h hl
    go_enter Try.func85, Try.ntmps85
    go_wp2
    go_ret
    exact ⟨rfl, rfl⟩
  · have e : zs.getD i 0 = 0 := by rw [List.getD_eq_getElem?_getD, List.getElem?_eq_none (by omega)]; rfl
    rw [e]
    clear e h hl
    go_enter Try.func85, Try.ntmps85
    go_wp2
    go_ret
    exact ⟨rfl, rfl⟩
theorem refAt_z (zs : List Int) (a : Option Addr) (n c i : Nat) (z : Int) (w : World) (h : SL w.heap.size w a n c zs) (hn : n ≤ 1000000) (hi : i ≤ 1000000) (hz : zs.getD i 0 = z) :
    Calls Try.prog 85 #[.slice a n c, .int .i64 (i : Int)] w (fun e w' => e = .returned (.int .i64 z) ∧ w = w') := by
  subst hz; exact refAt_any zs a n c i w h hn hi
end Go.Proofs.Ytkfkdkoohnfgaaa
