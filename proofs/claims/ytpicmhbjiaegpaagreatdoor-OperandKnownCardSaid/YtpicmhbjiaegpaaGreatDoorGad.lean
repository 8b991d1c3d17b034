/-
  DERIVED. Several texts in one: RdB, RdC, RdD, RdE, RdF.
-/
import Derived.Test.YtpicmhbjiaegpaaGreatDoorGac
import Derived.Deep.DeepCutAuto
import Derived.Test.YtpicmhbjiaegpaaGreatDoorGaa
import Derived.Test.YtpicmhbjiaegpaaGreatDoorGab
namespace Go.Proofs.YtpicmhbjiaegpaaGreatDoor
open Go.RowKit

/-- the cells of the argument's variable, behind what the loops make -/
def DecRel (u : Nat) (s : Bool) (a : Option Addr) (n c : Nat) (w : World) (m : Nat) (o : Value) (wr : World) : Prop :=
  ∃ va vc, o = .slice va m vc ∧ wr.ownsRow (w.heap.size + 1) 5 1 (.slice va m vc) m (Lib.byteCells (dl m u)) ∧ wr.heap[w.heap.size]? = some (.cells #[.bool s, .slice a n c] 148 (0, 0)) ∧ Below w.heap.size w wr ∧ w.heap.size + 1 ≤ wr.heap.size

def DecCut (z : Int) (w : World) (o : Value) (wx : World) : Prop :=
  ∃ va vc' L, o = .slice va L vc' ∧ L = (intT z).length ∧ wx.ownsRow (w.heap.size + 1) 5 1 (.slice va L vc') L (Lib.byteCells (intT z).reverse) ∧ Below w.heap.size w wx ∧ w.heap.size + 1 ≤ wx.heap.size

def slLen : Value → Nat
  | .slice _ n _ => n
  | _ => 0

set_option maxRecDepth 100000 in
set_option maxHeartbeats 1600000 in
theorem refDecimal_any (s : Bool) (z : Int) (a : Option Addr) (n c : Nat) (w : World) (h : LG w.heap.size w s a n c z) :
    Calls Tryz.prog 104 #[.agg #[.bool s, .slice a n c]] w (RetB w (.string (bs (intT z)))) := by
  have hn := h.2.2
  have hlen := h.2.1.len
  rcases Nat.eq_zero_or_pos n with h0 | h0
  · subst h0
    have hz : z.natAbs = 0 := digs_len_zero.1 hlen.symm
    have hz : z = 0 := by omega
    subst hz
    have e : intT 0 = [48] := by unfold intT; rw [show (0 : Int).natAbs = 0 from rfl, decDigits_digit (by omega)]; rfl
    rw [e]
    clear h hlen e
    go_enter Tryz.func104, Tryz.ntmps104
    go_wp2_with fail
    go_ret
    exact ⟨rfl, (Below.refl _ _).alloc (Nat.le_refl _) _⟩
  · obtain ⟨b, off, rfl, hb, hc⟩ := h.2.1.at h0
    have hn0 : ((n : Int) == 0) = false := by simpa using (by omega : ¬ (n : Int) = 0)
    have Hc := Lib.hid hc; have Hs := Lib.hid h.1; have Hlen := Lib.hid hlen; clear hc hlen h
    go_enter Tryz.func104, Tryz.ntmps104
    go_wp2_with fail
    go_loopw [3, 4] (fun o i wr => ∃ k : Nat, k ≤ n ∧ i = .int .i64 k ∧ DecRel z.natAbs s (some ⟨b, off, none⟩) n c w (9 * k) o wr) (fun _ i _ => n - (intOf i).toNat)
    case atStart => exact ⟨0, by omega, rfl, none, 0, rfl, World.ownsRow_nil _ _ _ _, heap_alloc_new _ _, (Below.refl _ _).alloc (Nat.le_refl _) _, by simp⟩
    case round =>
      obtain ⟨k, hk, rfl, va, vc, rfl, hown, hobj, hbw, hsz⟩ := hrel
      have k1 : wr.cell? ⟨w.heap.size, 1, none⟩ = some (.slice (some ⟨b, off, none⟩) n c) := (obj_cell hobj 1).trans rfl
      have Hown := Lib.hid hown; have Hobj := Lib.hid hobj; clear hown hobj
      by_cases hlt : k < n
      · have hcell : wr.cell? ⟨b, off + k, none⟩ = some (.int .i64 ((digs z.natAbs).getD k 0)) := (hbw.cell (p := ⟨b, off + k, none⟩) hb).trans (Hc.out k hlt)
        rw [digs_getD] at hcell
        have hu : z.natAbs / 1000000000 ^ k % 1000000000 < 1000000000 := Nat.mod_lt _ (by omega)
        generalize hU : z.natAbs / 1000000000 ^ k % 1000000000 = U at *
        have HU := Lib.hid hU; clear hU
        go_wp2_with fail
        obtain ⟨wo, rfl⟩ : ∃ wo : World, wo = wr := ⟨_, rfl⟩
        go_loopw [3, 5, 6] (fun o d i wr => ∃ j : Nat, j ≤ 9 ∧ i = .int .i64 j ∧ d = .int .i64 ((U / 10 ^ j : Nat) : Int) ∧ DecRel z.natAbs s (some ⟨b, off, none⟩) n c w (9 * k + j) o wr) (fun _ _ i _ => 9 - (intOf i).toNat)
        case atStart => exact ⟨0, by omega, rfl, by simp, va, vc, rfl, Hown.out, Hobj.out, hbw, hsz⟩
        case round =>
          clear k1 hcell
          obtain ⟨j, hj, rfl, rfl, va', vc', rfl, hown', hobj', hbw', hsz'⟩ := hrel
          have k1' : wr.cell? ⟨w.heap.size, 1, none⟩ = some (.slice (some ⟨b, off, none⟩) n c) := (obj_cell hobj' 1).trans rfl
          have Hown' := Lib.hid hown'; have Hobj' := Lib.hid hobj'; clear hown' hobj'
          have hD1 : U / 10 ^ j < 1000000000 := Nat.lt_of_le_of_lt (Nat.div_le_self _ _) hu
          have hdig : U / 10 ^ (j + 1) = U / 10 ^ j / 10 := by rw [Nat.pow_succ, Nat.div_div_eq_div_mul]
          have Hdig := Lib.hid hdig; clear hdig
          have hd9 : j < 9 → U / 10 ^ j % 10 = z.natAbs / 10 ^ (9 * k + j) % 10 := fun h => by rw [← HU.out]; exact digit_of_digs _ _ _ h
          have Hd9 := Lib.hid hd9; clear hd9
          generalize hD : U / 10 ^ j = D at *
          have HD := Lib.hid hD; clear hD
          obtain ⟨bt, hbt⟩ : ∃ bt, bt = UInt8.ofNat (48 + D % 10) := ⟨_, rfl⟩
          have hbn : 48 + (D : Int) % 10 = (bt.toNat : Int) := by rw [hbt, toNat_digit (by omega)]; omega
          have Hbt := Lib.hid hbt; have Hbn := Lib.hid hbn; clear hbt hbn
          by_cases hl9 : j < 9
          · go_wp2_with (refine wpList_append_byte rfl (.tmp 29) (.tmp 34) 60 rfl Tryz.underlying60 (w.heap.size + 1) wr va' _ vc' _ _ bt rfl Hown'.out rfl Hbn.out rfl (by omega) hsz' ?_)
            intro va2 vc2 w2 hown2 hb2 hk2 hs2
            have hobj2 := (hk2 w.heap.size (by omega)).trans Hobj'.out
            have hbw2 := hb2 w.heap.size w (by omega) hbw'
            have Hown2 := Lib.hid hown2; have Hobj2 := Lib.hid hobj2; clear hown2 hobj2 hb2 hk2 k1'
            go_wp2_with fail
            go_roundw
            case rel =>
              refine ⟨j + 1, by omega, by go_num, by rw [Hdig.out, Int.natCast_ediv]; rfl, va2, vc2, rfl, ?_, Hobj2.out, hbw2, by omega⟩
              have e : dl (9 * k + (j + 1)) z.natAbs = dl (9 * k + j) z.natAbs ++ [bt] := by
                rw [← Nat.add_assoc, dl_snoc, ← Hd9.out hl9, Hbt.out]
              rw [e]
              exact Hown2.out
            case measure => simp [intOf]; omega
          · have : j = 9 := by omega
            subst this
            go_wp2_with fail
            go_roundw
            case rel => exact ⟨k + 1, by omega, by go_num, va', vc', rfl, Hown'.out, Hobj'.out, hbw', hsz'⟩
            case measure => simp [intOf]; omega
      · obtain rfl : k = n := by omega
        have hu0 : 0 < z.natAbs := by
          rcases Nat.eq_zero_or_pos z.natAbs with e | e
          · have := Hlen.out; rw [e, digs_zero] at this; simp at this; omega
          · exact e
        have hnd : Lib.nDigits z.natAbs ≤ 9 * k := by
          rcases nDigits_digs z.natAbs with h | h
          · rw [← Hlen.out] at h; exact h
          · omega
        have hnp := Lib.nDigits_pos z.natAbs
        obtain ⟨g, rfl, hg, -, -⟩ := owns_byte Hown.out (j := 0) (by rw [dl_length]; omega)
        have Hall : Hid (∀ q, q < 9 * k → wr.cell? ⟨g, q, none⟩ = some (.int .u8 (48 + z.natAbs / 10 ^ q % 10 : Nat))) := Lib.hid fun q hq => by
          obtain ⟨g', e, _, hc, _⟩ := owns_byte Hown.out (j := q) (by rw [dl_length]; exact hq)
          cases e
          rw [hc, dl_get _ hq]
        have hvc : 9 * k ≤ vc := by
          rcases (owns_cells Hown.out).2 with ⟨e, _⟩ | ⟨g', cap, e, _, hcap, _⟩
          · cases e
          · cases e; exact hcap
        go_wp2_with fail
        go_loop [3] (fun o => ∃ m : Nat, Lib.nDigits z.natAbs ≤ m ∧ m ≤ 9 * k ∧ o = .slice (some ⟨g, 0, none⟩) m vc) (fun o => slLen o)
        case atStart => exact ⟨9 * k, hnd, Nat.le_refl _, rfl⟩
        case round =>
          obtain ⟨m, hm1, hm2, rfl⟩ := hrel
          obtain ⟨q, rfl⟩ : ∃ q, m = q + 1 := ⟨m - 1, by omega⟩
          have hcq := Hall.out q (by omega)
          have hx1 : 48 + z.natAbs / 10 ^ q % 10 < 58 := by have := Nat.mod_lt (z.natAbs / 10 ^ q) (show 0 < 10 by omega); omega
          by_cases hq : Lib.nDigits z.natAbs = q + 1
          · have hne := (digit_top hq hu0).1
            generalize hX : 48 + z.natAbs / 10 ^ q % 10 = X at *
            have hXb : ((X : Int) == 48) = false := by
              rw [beq_eq_false_iff_ne]; omega
            have HX := Lib.hid hX; clear hX hne
            have Hq := Lib.hid hq; clear hq
            have k0 : wr.cell? ⟨w.heap.size, 0, none⟩ = some (.bool s) := (obj_cell Hobj.out 0).trans rfl
            have hsg : intT z = (if s then [45] else []) ++ Lib.decDigits z.natAbs := by
              unfold intT; rw [Hs.out]; by_cases h : z < 0 <;> simp [h]
            have Hsg := Lib.hid hsg; clear hsg
            have hrow : wr.ownsRow (w.heap.size + 1) 5 1 (.slice (some ⟨g, 0, none⟩) (q + 1) vc) (q + 1) (Lib.byteCells (Lib.decDigits z.natAbs).reverse) := by
              have h1 := ownsRow_take Hown.out hm2 (by omega)
              have e : (Lib.byteCells (dl (9 * k) z.natAbs)).take (q + 1) = Lib.byteCells (Lib.decDigits z.natAbs).reverse := by
                unfold Lib.byteCells
                rw [← List.map_take, dl_take _ _ _ hm2, ← dl_whole, Hq.out]
              rw [← e]; exact h1
            have Hrow := Lib.hid hrow; clear hrow
            go_upto_if 51 with fail
            clear hcq
            go_cut [3] (fun o wx => DecCut z w o wx)
            case first =>
              have hL : (intT z).length = q + 1 + (if s then 1 else 0) := by
                rw [Hsg.out, List.length_append, Lib.decDigits_length, Hq.out]; cases s <;> simp <;> omega
              have HL := Lib.hid hL; clear hL
              cases s with
              | true =>
                go_wp2_with (refine wpList_append_byte rfl (.tmp 52) (.tmp 53) 60 rfl Tryz.underlying60 (w.heap.size + 1) wr _ _ vc _ _ 45 rfl Hrow.out rfl rfl rfl (by omega) hsz ?_)
                intro va2 vc2 w2 hown2 hb2 hk2 hs2
                have hbw2 := hb2 w.heap.size w (by omega) hbw
                have Hown2 := Lib.hid hown2; clear hown2 hb2 hk2 
                go_wp2_with fail
                go_meet
                refine ⟨va2, vc2, q + 1 + 1, rfl, by rw [HL.out]; rfl, ?_, hbw2, by omega⟩
                have e : (intT z).reverse = (Lib.decDigits z.natAbs).reverse ++ [45] := by rw [Hsg.out]; simp
                rw [e]; exact Hown2.out
              | false =>
                go_wp2_with fail
                go_meet
                refine ⟨_, vc, q + 1, rfl, by rw [HL.out]; rfl, ?_, hbw, hsz⟩
                have e : (intT z).reverse = (Lib.decDigits z.natAbs).reverse := by rw [Hsg.out]; simp
                rw [e]; exact Hrow.out
            case rest =>
              obtain ⟨va, vc2, L, rfl, hL, hown2, hbw2, hsz2⟩ := hcut
              have hLn : L ≤ 5401 := by
                rw [hL, Hsg.out, List.length_append, Lib.decDigits_length, Hq.out]; cases s <;> simp <;> omega
              have hLp : 0 < L := by
                rw [hL, Hsg.out, List.length_append, Lib.decDigits_length, Hq.out]; omega
              obtain ⟨g2, rfl, hg2, -, -⟩ := owns_byte hown2 (j := 0) (by simp; omega)
              have Hcell : Hid (∀ j, j < L → wc.cell? ⟨g2, L - 1 - j, none⟩ = some (.int .u8 ((intT z).getD j 0).toNat)) := Lib.hid fun j hj => by
                obtain ⟨g', e, _, hc, _⟩ := owns_byte hown2 (j := L - 1 - j) (by simp; omega)
                cases e
                rw [hc]
                congr 4
                rw [List.getD_eq_getElem?_getD, List.getD_eq_getElem?_getD, List.getElem?_reverse (by omega)]
                congr 2; omega
              have hg3 : g2 < wc.heap.size := by
                rcases (owns_cells hown2).2 with ⟨e, _⟩ | ⟨g', cap, e, _, _, hc⟩
                · cases e
                · cases e; exact hc.lt
              have HL := Lib.hid hL; clear hL hown2 hk k1 hlt hnd hnp hvc hm1 hm2 hXb hu0 h0 hn hn0
              go_wp2_with (refine wpList_make_bytes rfl (.tmp 56) (.tmp 56) 60 rfl Tryz.underlying60 (L : Int) L rfl rfl rfl (by omega) ?_)
              intro w3 hcs3 hb3 hs3
              have hbw3 := hbw2.trans (hb3.mono (by omega))
              have Hcell3 : Hid (∀ j, j < L → w3.cell? ⟨g2, L - 1 - j, none⟩ = some (.int .u8 ((intT z).getD j 0).toNat)) := Lib.hid fun j hj => (hb3.cell (p := ⟨g2, L - 1 - j, none⟩) hg3).trans (Hcell.out j hj)
              clear Hcell
              generalize hG : wc.heap.size = G at *
              have HG := Lib.hid hG; clear hG hb3
              have Hcs3 := Lib.hid hcs3; clear hcs3
              go_wp2_with fail
              go_loopw [8] (fun i wx => ∃ k : Nat, k ≤ L ∧ i = .int .i64 k ∧ Cells wx G (Lib.byteCells (filled (intT z) k)) 5 ∧ OnlyB G w3 wx) (fun i _ => L - (intOf i).toNat)
              case atStart => exact ⟨0, by omega, rfl, by rw [filled_zero, ← HL.out]; exact Hcs3.out, OnlyB.refl _ _⟩
              case round =>
                obtain ⟨j, hj, rfl, hcs, honly⟩ := hrel
                by_cases hlt : j < L
                · have hcj := (honly.cell (p := ⟨g2, L - 1 - j, none⟩) (by simp; omega)).trans (Hcell3.out j hlt)
                  have hfr := hcs.free j
                  have hold := hcs.cell (j := j) (by rw [Lib.byteCells_length, filled_length _ (by have := HL.out; omega)]; have := HL.out; omega)
                  have e1 : ((L : Int) - 1 - (j : Int)) = ((L - 1 - j : Nat) : Int) := by omega
                  have hset := hcs.set j (by rw [Lib.byteCells_length, filled_length _ (by have := HL.out; omega)]; have := HL.out; omega) (.int .u8 ((intT z).getD j 0).toNat)
                  rw [byteCells_set, filled_set _ (by have := HL.out; omega)] at hset
                  have hon := honly.set j (.int .u8 ((intT z).getD j 0).toNat)
                  have Hset := Lib.hid hset; have Hon := Lib.hid hon; clear hset hon hcs
                  have e2 : 0 ≤ (L : Int) - 1 - (j : Int) := by omega
                  have e3 : ((L : Int) - 1 - (j : Int)).toNat = L - 1 - j := by omega
                  clear e1
                  go_wp2_with fail
                  go_roundw
                  case rel => exact ⟨j + 1, by omega, by go_num, by simpa using Hset.out, by simpa using Hon.out⟩
                  case measure => simp [intOf]; omega
                · obtain rfl : j = L := by omega
                  rw [HL.out, filled_all] at hcs
                  have hconv : (convert 60 9 (.slice (some ⟨G, 0, none⟩) j j)).run Tryz.prog wr = .ok (.string (bs (intT z))) wr := by
                    have := run_convert_bytes_back (P := Tryz.prog) wr 60 9 5 ⟨G, 0, none⟩ j (intT z) Tryz.underlying60 Tryz.underlying5 Tryz.underlying9 (fun i hi => by
                      have := hcs.cell (j := i) (by rw [Lib.byteCells_length]; exact hi)
                      rw [Addr.add_mid, Nat.zero_add, this]
                      simp [Lib.byteCells])
                    rw [← HL.out] at this
                    exact this
                  have hbw4 := hbw3.trans (honly.below (B := w.heap.size) (by omega))
                  clear hcs honly
                  go_wp2_with fail
                  go_ret
                  exact ⟨rfl, hbw4⟩
          · have hze := digit_above (u := z.natAbs) (m := q) (by omega)
            rw [hze] at hcq
            clear hze
            go_wp2_with fail
            go_round
            case rel => exact ⟨q, by omega, by omega, rfl⟩
            case measure => simp [slLen]
end Go.Proofs.YtpicmhbjiaegpaaGreatDoor

namespace Go.Proofs.YtpicmhbjiaegpaaGreatDoor
open Go.RowKit

/-- a slice of ints does not lie in a variable of a long integer -/
theorem LG.notVar {N : Nat} {w : World} {s x : Bool} {a p : Option Addr} {n c q r g : Nat} {z : Int} {T : TypeId} {fr : Nat × Nat} (h : LG N w s a n c z) (hg : w.heap[g]? = some (.cells #[.bool x, .slice p q r] T fr)) : ∀ b off, a = some ⟨b, off, none⟩ → 0 < n → b ≠ g := by
  intro b off e h0 he
  subst he e
  obtain ⟨b', off', e, _, hc⟩ := h.2.1.at h0
  cases e
  have h1 := hc 0 h0
  rw [Nat.add_zero] at h1
  simp only [World.cell?, hg] at h1
  match off, h1 with
  | 0, h1 => cases h1
  | 1, h1 => cases h1
  | k + 2, h1 => simp at h1

/-- block g holds the long integer z -/
def LV (w : World) (g : Nat) (z : Int) : Prop :=
  ∃ s p q c, w.heap[g]? = some (.cells #[.bool s, .slice p q c] 148 (0, 0)) ∧ LG w.heap.size w s p q c z

theorem LV.below {w w' : World} {g : Nat} {z : Int} (h : LV w g z) (hb : Below w.heap.size w w') : LV w' g z := by
  obtain ⟨s, p, q, c, h1, h2⟩ := h
  exact ⟨s, p, q, c, (hb.block g (lt_of_block h1)).trans h1, h2.go hb⟩
theorem LV.lt {w : World} {g : Nat} {z : Int} (h : LV w g z) : g < w.heap.size := let ⟨_, _, _, _, h1, _⟩ := h; lt_of_block h1
theorem LV.alloc {w : World} {g : Nat} {z : Int} (h : LV w g z) (o : Obj) : LV (w.alloc o) g z := h.below ((Below.refl _ _).alloc (Nat.le_refl _) _)
theorem LV.new {w : World} {s : Bool} {p : Option Addr} {q c : Nat} {z : Int} (h : LG w.heap.size w s p q c z) : LV (w.alloc (.cells #[.bool s, .slice p q c] 148)) w.heap.size z :=
  ⟨s, p, q, c, heap_alloc_new _ _, by simpa using h.go ((Below.refl _ _).alloc (Nat.le_refl _) _)⟩
theorem LG.setVar {w : World} {g : Nat} {z z' : Int} {s : Bool} {p : Option Addr} {q c : Nat} (hv : LV w g z') (h : LG w.heap.size w s p q c z) (u v : Value) :
    LG ((w.setCell ⟨g, 0, none⟩ u).setCell ⟨g, 1, none⟩ v).heap.size ((w.setCell ⟨g, 0, none⟩ u).setCell ⟨g, 1, none⟩ v) s p q c z := by
  obtain ⟨s', p', q', c', h1, _⟩ := hv
  have hne := h.notVar h1
  have := (h.setCell ⟨g, 0, none⟩ u hne).setCell ⟨g, 1, none⟩ v hne
  simpa using this
theorem LV.store {w : World} {g : Nat} {z z' : Int} {s : Bool} {p : Option Addr} {q c : Nat} (hv : LV w g z') (h : LG w.heap.size w s p q c z) :
    LV ((w.setCell ⟨g, 0, none⟩ (.bool s)).setCell ⟨g, 1, none⟩ (.slice p q c)) g z := by
  have h2 := h.setVar hv (.bool s) (.slice p q c)
  obtain ⟨s', p', q', c', h1, _⟩ := hv
  refine ⟨s, p, q, c, ?_, h2⟩
  rw [obj_setCell (w := w.setCell ⟨g, 0, none⟩ (.bool s)) (by exact obj_setCell h1 0 (.bool s)) 1 (.slice p q c)]
  rfl
theorem LV.other {w : World} {g k : Nat} {z z' : Int} (h : LV w k z) (hv : LV w g z') (hne : g ≠ k) (u v : Value) : LV ((w.setCell ⟨g, 0, none⟩ u).setCell ⟨g, 1, none⟩ v) k z := by
  obtain ⟨s, p, q, c, h1, h2⟩ := h
  exact ⟨s, p, q, c, obj_other (obj_other h1 _ hne _) _ hne _, h2.setVar hv u v⟩
theorem LV.below_store {B : Nat} {w0 w : World} {g : Nat} (hb : Below B w0 w) (hB : B ≤ g) (u v : Value) : Below B w0 ((w.setCell ⟨g, 0, none⟩ u).setCell ⟨g, 1, none⟩ v) := (hb.setCell (p := ⟨g, 0, none⟩) hB u).setCell (p := ⟨g, 1, none⟩) hB v

theorem natSign (k : Nat) : decide ((k : Int) < 0) = false := decide_eq_false (by omega)
theorem intT_nat (k : Nat) : intT (k : Int) = Lib.decDigits k := by
  unfold intT; rw [if_neg (by omega), Int.natAbs_natCast]; rfl
theorem numT_parts (z : Int) (d : Nat) : numT z d = (if z < 0 then [45] else []) ++ Lib.decDigits (z.natAbs / 10 ^ d) ++ (if z.natAbs % 10 ^ d = 0 then [] else 46 :: placesT d (z.natAbs % 10 ^ d)) := by
  unfold numT wholeT; rw [List.append_assoc]
/-- ahead of each round of the places -/
def WrPl (T : List UInt8) (B6 B9 : Nat) (w : World) (tv : Value) (wr : World) : Prop :=
  ∃ (j r : Nat) (T1 : List UInt8), j ≤ 18 ∧ r < 10 ^ j ∧ tv = .string (bs T1) ∧ T1 ++ placesT j r = T ∧ LV wr B6 ((10 ^ j : Nat) : Int) ∧ LV wr B9 (r : Int) ∧ Below w.heap.size w wr
def strLen : Value → Nat
  | .string s => s.size
  | _ => 0
theorem places_zero (j : Nat) : placesT j 0 = [] := by
  cases j with
  | zero => rfl
  | succ j => rw [placesT, if_pos rfl]

theorem digits_size {u k : Nat} (h : (digs u).length ≤ k) (hk : 1 ≤ k) : (Lib.decDigits u).length ≤ 9 * k := by
  rw [Lib.decDigits_length]
  rcases nDigits_digs u with e | e
  · omega
  · subst e; rw [Lib.nDigits_small (by omega)]; omega
theorem fit10 {i : Nat} (h : i ≤ 18) : (digs (10 ^ i)).length ≤ 3 := length_digs_le (by
  have : 10 ^ i ≤ 10 ^ 18 := Nat.pow_le_pow_right (by omega) h
  exact Nat.lt_of_le_of_lt this (by decide))

/-- behind the sign: the text so far, and the number without its sign -/
def WrCut (z : Int) (w : World) (tv : Value) (wx : World) : Prop :=
  tv = .string (bs (if z < 0 then [45] else [])) ∧ LV wx w.heap.size (z.natAbs : Int) ∧ Below w.heap.size w wx
/-- the power -/
def WrPow (u : Nat) (w : World) (g i : Nat) (wr : World) : Prop :=
  LV wr w.heap.size (u : Int) ∧ LV wr g ((10 ^ i : Nat) : Int) ∧ Below w.heap.size w wr ∧ w.heap.size < g

set_option maxRecDepth 100000 in
set_option maxHeartbeats 1600000 in
theorem refWritten_any (z : Int) (s : Bool) (a : Option Addr) (n c d : Nat) (w : World) (h : LG w.heap.size w s a n c z) (hd : d ≤ 18) :
    Calls Tryz.prog 90 #[.agg #[.bool s, .slice a n c], .int .i64 (d : Int)] w (RetB w (.string (bs (numT z d)))) := by
  have hv0 := LV.new h
  have hb0 : Below w.heap.size w (w.alloc (.cells #[.bool s, .slice a n c] 148)) := (Below.refl _ _).alloc (Nat.le_refl _) _
  have hlg0 := h.go hb0
  have HLn := Lib.hid h.2.1.len; have HLm := h.2.2
  have Hv0 := Lib.hid hv0; have Hs := Lib.hid h.1; have Hb0 := Lib.hid hb0; have Hlg0 := Lib.hid hlg0; clear h hv0 hb0 hlg0
  go_enter Tryz.func90, Tryz.ntmps90
  go_upto_if 13 with fail
  go_cut [5] (fun tv wx => WrCut z w tv wx)
  case first =>
    cases s with
    | true =>
      have hz : z < 0 := by simpa using Hs.out.symm
      have Hz := Lib.hid hz; clear hz
      go_wp2_with fail
      refine (refMinus_any true z a n c _ Hlg0.out).mono ?_
      rintro e w1 ⟨s1, a1, n1, c1, rfl, hlg1, hb1, hf1⟩
      have hv1 := Hv0.out.below hb1
      obtain ⟨_, _, _, _, h1, _⟩ := id hv1
      obtain ⟨k1, k2, k3, k4⟩ := cells_at h1
      have Hv1 := Lib.hid hv1; have Hlg1 := Lib.hid hlg1; have Hb1 := Lib.hid (Hb0.out.trans (hb1.mono Hb0.out.size)); clear hv1 hlg1 hb1 hf1 h1
      go_wp2_with fail
      go_meet
      refine ⟨by rw [if_pos Hz.out], ?_, LV.below_store Hb1.out (Nat.le_refl _) _ _⟩
      have := Hv1.out.store Hlg1.out
      rw [show (-z : Int) = (z.natAbs : Int) by have := Hz.out; omega] at this
      exact this
    | false =>
      have hz : ¬ z < 0 := by simpa using Hs.out.symm
      have Hz := Lib.hid hz; clear hz
      go_wp2_with fail
      go_meet
      refine ⟨by rw [if_neg (by have := Hz.out; omega)], ?_, Hb0.out⟩
      rw [show (z.natAbs : Int) = z by have := Hz.out; omega]
      exact Hv0.out
  case rest =>
    obtain ⟨rfl, hvx, hbx⟩ := hcut
    generalize hT : (if z < 0 then [45] else ([] : List UInt8)) = T0 at *
    have Hvx := Lib.hid hvx; have Hbx := Lib.hid hbx; have HT := Lib.hid hT; clear hvx hbx hT
    go_wp2_with fail
    refine (refOf_any 1 _ (by omega)).mono ?_
    rintro e w1 ⟨s1, a1, n1, c1, rfl, hl1, hb1, -⟩
    have hz := Hbx.out.size
    have hp := (Hvx.out.below hb1).alloc (.cells #[.bool s1, .slice a1 n1 c1] 148)
    have hp2 : LV (w1.alloc (.cells #[.bool s1, .slice a1 n1 c1] 148)) w1.heap.size ((10 ^ 0 : Nat) : Int) := LV.new hl1
    have hw1 := Hbx.out.trans (hb1.mono hz)
    have hP : WrPow z.natAbs w w1.heap.size 0 (w1.alloc (.cells #[.bool s1, .slice a1 n1 c1] 148)) := ⟨hp, hp2, hw1.alloc hw1.size _, by have := Hvx.out.lt; have := hb1.size; omega⟩
    have HP := Lib.hid hP; clear hp hp2 hw1 hP hb1 hl1 hz
    go_wp2_with fail
    go_loopw [7] (fun iv wr => ∃ i : Nat, i ≤ d ∧ iv = .int .i64 i ∧ WrPow z.natAbs w w1.heap.size i wr) (fun iv _ => d - (intOf iv).toNat)
    case atStart => exact ⟨0, Nat.zero_le _, rfl, HP.out⟩
    case round =>
      obtain ⟨i, hi, rfl, hv0, hv6, hwr, hg⟩ := hrel
      have hg6 := hv6.lt
      obtain ⟨s6, a6, n6, c6, h61, h62⟩ := id hv6
      obtain ⟨q1, q2, f1, f2⟩ := cells_at h61
      have H62 := Lib.hid h62; have Hv0 := Lib.hid hv0; have Hv6 := Lib.hid hv6; have Hwr := Lib.hid hwr
      clear h61 h62 hv0 hv6 hwr HP
      by_cases hin : i < d
      · go_wp2_with fail
        refine wp_region_eager 3 [(0, true), (1, false), (2, false)] (by kernel_rfl) (by kernel_rfl) ?_
        refine wpOrd_yield (v := ?_) rfl (fun _ _ _ h => h) (by rfl) ?_ ?_
        rotate_left
        · intro x hx
          have z1 := (hx.cell (p := ⟨w1.heap.size, 0, none⟩) hg6).trans q1
          have z2 := (hx.cell (p := ⟨w1.heap.size, 1, none⟩) hg6).trans q2
          go_simp
          with_reducible rfl
        try simp only [Act.put, List.setIfInBounds_toArray, List.set_cons_zero, List.set_cons_succ]
        refine wpOrd_step rfl rfl (fun KK hKK => ?_)
        go_simp
        refine (refOf_any 10 _ (by omega)).mono ?_
        rintro e w4 ⟨s4, a4, n4, c4, rfl, hlg4, hb4, -⟩
        refine hKK _ _ hb4 ?_
        clear hKK KK
        try simp only [Act.put, List.setIfInBounds_toArray, List.set_cons_zero, List.set_cons_succ]
        have Hb4 := Lib.hid (below_undrew (k := 1) hb4); have Hlg4 := Lib.hid hlg4
        have Hl4 := Lib.hid (H62.out.go (below_undrew (k := 1) hb4))
        clear hb4 hlg4
        refine wpOrd_step rfl rfl (fun KK hKK => ?_)
        go_simp
        refine (prod_any s6 s4 ((10 ^ i : Nat) : Int) (10 : Nat) a6 a4 n6 n4 c6 c4 _ Hl4.out Hlg4.out ?_).mono ?_
        · rw [← Int.natCast_mul, Int.natAbs_natCast, ← Nat.pow_succ]; exact Nat.le_trans (fit10 (by omega)) (by omega)
        rintro e w5 ⟨s5, a5, n5, c5, rfl, hlg5, hb5, -⟩
        refine hKK _ _ hb5 ?_
        clear hKK KK
        try simp only [Act.put, List.setIfInBounds_toArray, List.set_cons_zero, List.set_cons_succ]
        have hb45 : Below wr.heap.size wr w5 := Hb4.out.trans (hb5.mono Hb4.out.size)
        have hv5 := Hv6.out.below hb45
        have hv05 := Hv0.out.below hb45
        have hw5 := Hwr.out.trans (hb45.mono Hwr.out.size)
        obtain ⟨_, _, _, _, h5, _⟩ := id hv5
        obtain ⟨k1, k2, g1, g2⟩ := cells_at h5
        have Hv5 := Lib.hid hv5; have Hv05 := Lib.hid hv05; have Hw5 := Lib.hid hw5; have Hlg5 := Lib.hid hlg5
        clear q1 q2 f1 f2 hb5 hlg5 h5 hv5 hv05 hw5 hb45
        refine wpOrd_nil rfl ?_
        go_wp2_with fail
        go_roundw
        case rel =>
          refine ⟨i + 1, by omega, by go_num, Hv05.out.other Hv5.out (by omega) _ _, ?_, LV.below_store Hw5.out (by omega) _ _, hg⟩
          rw [Nat.pow_succ, Int.natCast_mul]
          exact Hv5.out.store Hlg5.out
        case measure => simp [intOf]; omega
      · obtain rfl : i = d := by omega
        obtain ⟨s2, a2, n2, c2, h21, h22⟩ := id Hv0.out
        obtain ⟨r1, r2, -, -⟩ := cells_at h21
        have H22 := Lib.hid h22; clear h21 h22
        have hm6 : n6 ≤ 599 := by
          have h1 := H62.out.2.1.len
          rw [Int.natAbs_natCast] at h1
          have h2 := fit10 hd; omega
        have hp10 : 0 < 10 ^ i := Nat.pow_pos (by omega)
        have Hp10 := Lib.hid hp10; clear hp10
        have hs2 : s2 = false := by rw [H22.out.1]; exact natSign _
        have hs6 : s6 = false := by rw [H62.out.1]; exact natSign _
        subst hs2 hs6
        go_wp2_with fail
        refine (parts_any z.natAbs (10 ^ i) a2 a6 n2 n6 c2 c6 _ H22.out H62.out Hp10.out hm6).mono ?_
        rintro e w3 ⟨s8, a8, n8, c8, s9, a9, n9, c9, rfl, hl8, hl9, hb3, -, -⟩
        have hb3s := hb3.size
        have hv60 := Hv6.out.below hb3
        have hw30 := Hwr.out.trans (hb3.mono Hwr.out.size)
        have hv8 := (LV.new hl8).alloc (.cells #[.bool s9, .slice a9 n9 c9] 148)
        have hl9' := hl9.go (w' := w3.alloc (.cells #[.bool s8, .slice a8 n8 c8] 148)) ((Below.refl _ _).alloc (Nat.le_refl _) _)
        have hv9 := LV.new hl9'
        have hv6' := (hv60.alloc (.cells #[.bool s8, .slice a8 n8 c8] 148)).alloc (.cells #[.bool s9, .slice a9 n9 c9] 148)
        have hw3' := (hw30.alloc hw30.size (.cells #[.bool s8, .slice a8 n8 c8] 148)).alloc (by simp; have := hw30.size; omega) (.cells #[.bool s9, .slice a9 n9 c9] 148)
        have hl8'' := (hl8.go (w' := (w3.alloc (.cells #[.bool s8, .slice a8 n8 c8] 148)).alloc (.cells #[.bool s9, .slice a9 n9 c9] 148)) (below_two _ _))
        have Hv8 := Lib.hid hv8; have Hv9 := Lib.hid hv9; have Hv6' := Lib.hid hv6'; have Hw3 := Lib.hid hw3'; have Hl8 := Lib.hid hl8''
        clear hv60 hw30 hv8 hl9' hv9 hv6' hw3' hl8'' hl8 hl9 hb3 r1 r2 q1 q2 f1 f2
        go_wp2_with fail
        refine (refDecimal_any s8 _ a8 n8 c8 _ Hl8.out).mono ?_
        rintro e w4 ⟨rfl, hb4⟩
        rw [intT_nat]
        have hv9 := Hv9.out.below hb4
        have hv6 := Hv6'.out.below hb4
        have hw4 := Hw3.out.trans (hb4.mono Hw3.out.size)
        have hpre := numT_parts z i
        rw [HT.out] at hpre
        obtain ⟨s9', a9', n9', c9', h91, h92⟩ := id hv9
        obtain ⟨k1, k2, g1, g2⟩ := cells_at h91
        have hl9 := h92.2.1.len
        rw [Int.natAbs_natCast] at hl9
        have hRlt := Nat.mod_lt z.natAbs Hp10.out
        generalize hR : z.natAbs % 10 ^ i = R at *
        have hb41 : (w3.alloc (.cells #[.bool s8, .slice a8 n8 c8] 148)).heap.size = w3.heap.size + 1 := by simp
        rw [hb41] at hv9 k1 k2 g1 g2
        have hQ : (Lib.decDigits (z.natAbs / 10 ^ i)).length ≤ 5400 := digits_size (Nat.le_trans (length_digs_mono (Nat.div_le_self _ _)) (by rw [← HLn.out]; exact HLm)) (by omega)
        generalize Lib.decDigits (z.natAbs / 10 ^ i) = Q at *
        have hT0 : T0.length ≤ 1 := by rw [← HT.out]; split <;> simp
        have hcat := bs_append T0 Q
        have hT1 : (T0 ++ Q).length ≤ 5401 := by rw [List.length_append]; omega
        generalize hT1e : T0 ++ Q = T1 at *
        have HT1e := Lib.hid hT1e; clear hT1e
        have Hv9' := Lib.hid hv9; have Hv6'' := Lib.hid hv6; have Hw4 := Lib.hid hw4; have Hpre := Lib.hid hpre; have HR := Lib.hid hR; have Hl9 := Lib.hid hl9; have HRlt := Lib.hid hRlt
        clear hv9 hv6 hw4 hb4 hb41 h91 h92 hpre hR hl9 hRlt Hv9 Hv6' Hl8 Hv8
        by_cases hR0 : R = 0
        · have hn9 : n9' = 0 := by rw [Hl9.out, hR0, digs_zero]; rfl
          subst hn9
          have HR0 := Lib.hid hR0; clear hR0
          go_wp2_with fail
          go_ret
          refine ⟨?_, Hw4.out⟩
          rw [Hpre.out, if_pos HR0.out, List.append_nil]; rfl
        · have hn9 : 0 < n9' := by
            rw [Hl9.out]
            rcases Nat.eq_zero_or_pos (digs R).length with e | e
            · exact absurd (digs_len_zero.1 e) hR0
            · exact e
          have hn9' : ((n9' : Int) == 0) = false := by simp; omega
          have HR0 := Lib.hid hR0; clear hR0
          have hcat2 := bs_append T1 [46]
          have e46 : (bs [46] : ByteArray) = { data := #[46] } := rfl
          rw [e46] at hcat2
          have hT2 : (T1 ++ [46]).length ≤ 5402 := by rw [List.length_append]; simp; omega
          generalize hT2e : T1 ++ [46] = T2 at *
          have HT2e := Lib.hid hT2e; clear hT2e e46
          go_wp2_with fail
          have hlt6 := Hv6''.out.lt
          have hlt9 := Hv9'.out.lt
          have h69 : w1.heap.size ≠ w3.heap.size + 1 := by omega
          have hw9 : w.heap.size ≤ w3.heap.size + 1 := by omega
          generalize hB9 : w3.heap.size + 1 = B9 at *
          have HB9 := Lib.hid hB9; clear hB9
          generalize hB6 : w1.heap.size = B6 at *
          have HB6 := Lib.hid hB6; clear hB6
          have hstart : T2 ++ placesT i R = numT z i := by
            rw [Hpre.out, if_neg HR0.out, ← HT2e.out, List.append_assoc]; rfl
          have Hst := Lib.hid hstart; clear hstart
          have hnum : (numT z i).length ≤ 6000 := by
            have h1 := congrArg List.length Hst.out
            have h2 := placesT_len i R
            rw [List.length_append] at h1
            omega
          go_loopw [5, 10, 11] (fun tv _ _ wr => WrPl (numT z i) B6 B9 w tv wr) (fun tv _ _ _ => (numT z i).length - strLen tv)
          case atStart => exact ⟨i, R, T2, hd, HRlt.out, rfl, Hst.out, Hv6''.out, Hv9'.out, Hw4.out⟩
          case round =>
            clear k1 k2 g1 g2 hcat hcat2 hlt6 hlt9
            obtain ⟨j, r, Tk, hj, hr, rfl, hTk, hv6, hv9, hw⟩ := hrel
            obtain ⟨s6, a6, n6, c6, h61, h62⟩ := id hv6
            obtain ⟨s9, a9, n9, c9, h91, h92⟩ := id hv9
            obtain ⟨p1, p2, -, -⟩ := cells_at h61
            obtain ⟨p3, p4, -, -⟩ := cells_at h91
            have hl9 := h92.2.1.len
            rw [Int.natAbs_natCast] at hl9
            have hg6 := hv6.lt
            have hg9 := hv9.lt
            have hTl : Tk.length ≤ (numT z i).length := by rw [← hTk, List.length_append]; omega
            have HTk := Lib.hid hTk; have Hv6 := Lib.hid hv6; have Hv9 := Lib.hid hv9; have Hw := Lib.hid hw; have H62 := Lib.hid h62; have H92 := Lib.hid h92; have Hl9' := Lib.hid hl9; have Hr := Lib.hid hr
            clear hTk hv6 hv9 hw h62 h92 hl9 hr h61 h91
            by_cases hr0 : r = 0
            · have hn9 : n9 = 0 := by rw [Hl9'.out, hr0, digs_zero]; rfl
              subst hn9
              subst hr0
              clear p1 p2 p3
              go_wp2_with fail
              go_ret
              refine ⟨?_, Hw.out⟩
              have := HTk.out
              rw [places_zero, List.append_nil] at this
              rw [this]; rfl
            · have hn9 : 0 < n9 := by
                rw [Hl9'.out]
                rcases Nat.eq_zero_or_pos (digs r).length with e | e
                · exact absurd (digs_len_zero.1 e) hr0
                · exact e
              obtain ⟨j, rfl⟩ : ∃ j', j = j' + 1 := by
                cases j with
                | zero => have := Hr.out; rw [Nat.pow_zero] at this; omega
                | succ j => exact ⟨j, rfl⟩
              have Hr0 := Lib.hid hr0; clear hr0
              go_wp2_with fail
              refine wp_region_floats 6 [5] [] [(0, true), (1, false), (2, false), (3, true), (4, true), (5, true)] (by kernel_rfl) (by kernel_rfl) ⟨by simp, by simp, fun _ h => by cases h⟩ (fun _ _ _ _ _ h => h) (fun _ _ o _ _ h => by cases o <;> exact h) ?_
              refine wpG_yield (v := ?_) rfl rfl (by rfl) ?_ ?_
              rotate_left
              · intro x hx
                have z1 := (hx.cell (p := ⟨B6, 0, none⟩) hg6).trans p1
                have z2 := (hx.cell (p := ⟨B6, 1, none⟩) hg6).trans p2
                go_simp
                with_reducible rfl
              try simp only [Act.put, List.setIfInBounds_toArray, List.set_cons_zero, List.set_cons_succ]
              refine wpG_step rfl rfl (fun x1 hx1 K hK => ?_)
              go_simp
              have hx1' : Below wr.heap.size wr x1 := below_undrew (k := 1) hx1
              refine (refOf_any 10 _ (by omega)).mono ?_
              rintro e w4' ⟨s4, a4, n4, c4, rfl, hlg4, hb4, -⟩
              refine hK _ _ hb4 ?_
              clear hK K
              try simp only [Act.put, List.setIfInBounds_toArray, List.set_cons_zero, List.set_cons_succ]
              have hs4 : s4 = false := by rw [hlg4.1]; exact natSign _
              have hs6 : s6 = false := by rw [H62.out.1]; exact natSign _
              subst hs4 hs6
              have hm4 : n4 ≤ 599 := by
                have h1 := hlg4.2.1.len
                rw [Int.natAbs_natCast] at h1
                have h2 := fit10 (i := 1) (by omega)
                rw [Nat.pow_one] at h2
                omega
              have hx4 : Below wr.heap.size wr w4' := hx1'.trans (hb4.mono hx1'.size)
              have Hx4 := Lib.hid hx4; have Hlg4 := Lib.hid hlg4
              clear hb4 hlg4 hx1 hx1' hx4
              refine wpG_step rfl rfl (fun x2 hx2 K hK => ?_)
              go_simp
              have hx2' := Hx4.out.trans (hx2.mono Hx4.out.size)
              refine (parts_any (10 ^ (j + 1)) 10 a6 a4 n6 n4 c6 c4 _ (H62.out.go hx2') (Hlg4.out.go hx2) (by omega) hm4).mono ?_
              rintro e w5 ⟨s5, a5, n5, c5, s5', a5', n5', c5', rfl, hlg5, -, hb5, -, -⟩
              refine hK _ _ hb5 ?_
              clear hK K
              try simp only [Act.put, List.setIfInBounds_toArray, List.set_cons_zero, List.set_cons_succ]
              have e10 : 10 ^ (j + 1) / 10 = 10 ^ j := by rw [Nat.pow_succ, Nat.mul_div_cancel _ (by omega)]
              rw [e10] at hlg5
              clear e10
              have Hx5 := Lib.hid (hx2'.trans (hb5.mono hx2'.size)); have Hlg5 := Lib.hid hlg5
              clear hx2 hx2' hb5 hlg5
              iterate 3
                refine wpG_pure (v := ?_) rfl (by rfl) ?_ ?_
                rotate_left
                · intro y
                  go_simp
                  with_reducible rfl
                try simp only [Act.put, List.setIfInBounds_toArray, List.set_cons_zero, List.set_cons_succ]
              refine wpG_nil0 rfl (fun w6 hb6 => ?_)
              have hlg6 := Hlg5.out.go hb6
              have hb45 : Below wr.heap.size wr w6 := Hx5.out.trans (hb6.mono Hx5.out.size)
              have hv6 := Hv6.out.below hb45
              have hv9 := Hv9.out.below hb45
              have hw6 := Hw.out.trans (hb45.mono Hw.out.size)
              obtain ⟨_, _, _, _, h5, _⟩ := id hv6
              obtain ⟨q1, q2, q3, q4⟩ := cells_at h5
              obtain ⟨s9', a9', n9', c9', h9', h9g⟩ := id hv9
              obtain ⟨q5, q6, -, -⟩ := cells_at h9'
              have hv6s := hv6.store hlg6
              have hv9s := hv9.other hv6 h69 (.bool s5) (.slice a5 n5 c5)
              have hl9s := h9g.setVar hv6 (.bool s5) (.slice a5 n5 c5)
              have hl6s := hlg6.setVar hv6 (.bool s5) (.slice a5 n5 c5)
              have hw6s := LV.below_store hw6 (by omega) (.bool s5) (.slice a5 n5 c5) (g := B6)
              have hs5 : s5 = false := by rw [hlg6.1]; exact natSign _
              have hs9 : s9' = false := by rw [h9g.1]; exact natSign _
              subst hs5 hs9
              have hm5 : n5 ≤ 599 := by
                have h1 := hlg6.2.1.len
                rw [Int.natAbs_natCast] at h1
                have h2 := fit10 (i := j) (by omega); omega
              have Hv6s := Lib.hid hv6s; have Hv9s := Lib.hid hv9s; have Hl9s := Lib.hid hl9s; have Hl6s := Lib.hid hl6s; have Hw6s := Lib.hid hw6s
              clear p1 p2 p3 p4 hb6 hlg6 h5 hv6 hv9 hw6 hb45 h9' h9g hv6s hv9s hl9s hl6s hw6s Hx5 Hlg5 Hx4 Hlg4
              go_wp2_with fail
              generalize hW6 : ((w6.setCell ⟨B6, 0, none⟩ (.bool false)).setCell ⟨B6, 1, none⟩ (.slice a5 n5 c5)) = W6 at *
              clear hW6
              refine (parts_any r (10 ^ j) a9' a5 n9' n5 c9' c5 _ Hl9s.out Hl6s.out (Nat.pow_pos (by omega)) hm5).mono ?_
              rintro e w7 ⟨sa, aa, na, ca, sb, ab, nb, cb, rfl, hla, hlb, hb7, -, -⟩
              have hla2 := hla.go (w' := (w7.alloc (.cells #[.bool sa, .slice aa na ca] 148)).alloc (.cells #[.bool sb, .slice ab nb cb] 148)) (below_two _ _)
              have hb7s : Below W6.heap.size W6 ((w7.alloc (.cells #[.bool sa, .slice aa na ca] 148)).alloc (.cells #[.bool sb, .slice ab nb cb] 148)) := hb7.trans ((below_two _ _).mono hb7.size)
              have hlb2 := hlb.go (w' := (w7.alloc (.cells #[.bool sa, .slice aa na ca] 148)).alloc (.cells #[.bool sb, .slice ab nb cb] 148)) (below_two _ _)
              have h7b : ((w7.alloc (.cells #[.bool sa, .slice aa na ca] 148)).alloc (.cells #[.bool sb, .slice ab nb cb] 148)).heap[w7.heap.size + 1]? = some (.cells #[.bool sb, .slice ab nb cb] 148 (0, 0)) := (heap_two _ _ _).2
              have Hv7 := Lib.hid (Hv6s.out.below hb7s); have Hv9' := Lib.hid (Hv9s.out.below hb7s); have Hw7 := Lib.hid (Hw6s.out.trans (hb7s.mono Hw6s.out.size))
              have Hla := Lib.hid hla2; have Hlb := Lib.hid hlb2; have H7b := Lib.hid h7b
              clear hla hlb hb7 hla2 hb7s hlb2 h7b Hv6s Hv9s Hl9s Hl6s Hw6s q1 q2 q3 q4 q5 q6
              go_wp2_with fail
              refine (refDecimal_any sa _ aa na ca _ Hla.out).mono ?_
              rintro e w8 ⟨rfl, hb8⟩
              rw [intT_nat]
              have h8b := (hb8.block (w7.heap.size + 1) (by simp)).trans H7b.out
              obtain ⟨u1, u2, -, -⟩ := cells_at h8b
              have hv8 := Hv9'.out.below hb8
              have hlb8 := Hlb.out.go hb8
              obtain ⟨_, _, _, _, h89, _⟩ := id hv8
              obtain ⟨v1, v2, v3, v4⟩ := cells_at h89
              have Hv86 := Lib.hid ((Hv7.out.below hb8).other hv8 (fun e => h69 e.symm) (.bool sb) (.slice ab nb cb))
              have Hv89 := Lib.hid (hv8.store hlb8)
              have Hw8 := Lib.hid (LV.below_store (Hw7.out.trans (hb8.mono Hw7.out.size)) hw9 (.bool sb) (.slice ab nb cb))
              clear hb8 h8b hv8 hlb8 h89 Hla Hlb H7b Hv7 Hv9' Hw7
              have hlt10 : r / 10 ^ j < 10 := by
                rw [Nat.div_lt_iff_lt_mul (Nat.pow_pos (by omega))]
                have := Hr.out
                rw [Nat.pow_succ] at this; omega
              have hstep := placesT_step Hr0.out Hr.out
              have hdl : (Lib.decDigits (r / 10 ^ j)).length = 1 := by rw [decDigits_digit hlt10]; rfl
              have Hrr := Lib.hid (Nat.mod_lt r (Nat.pow_pos (n := j) (by omega : 0 < 10)))
              generalize Lib.decDigits (r / 10 ^ j) = D at *
              have hTD : (Tk ++ D).length = Tk.length + 1 := by rw [List.length_append, hdl]
              have hcatk := bs_append Tk D
              have hfin : Tk ++ D ++ placesT j (r % 10 ^ j) = numT z i := by rw [← HTk.out, hstep, List.append_assoc]
              have hlk : Tk.length + 1 ≤ (numT z i).length := by rw [← hfin, List.length_append, hTD]; omega
              have HTD := Lib.hid hTD; have Hfin := Lib.hid hfin
              clear hTD hfin hstep
              go_wp2_with fail
              go_roundw
              case rel => exact ⟨j, r % 10 ^ j, Tk ++ D, by omega, Hrr.out, rfl, Hfin.out, Hv86.out, Hv89.out, Hw8.out⟩
              case measure =>
                show (numT z i).length - (Tk ++ D).length < (numT z i).length - Tk.length
                rw [HTD.out]; omega
end Go.Proofs.YtpicmhbjiaegpaaGreatDoor

namespace Go.Proofs.YtpicmhbjiaegpaaGreatDoor
open Go.RowKit

/-- what holds ahead of each round of the reference's Of, at a negative number -/
def NOfRel (n : Nat) (w : World) (q d : Value) (wr : World) : Prop :=
  ∃ (k : Nat) (va : Option Addr) (vc : Nat) (zs : List Int), q = .int .i64 (-(k : Int)) ∧ d = .slice va zs.length vc ∧ (k : Int) ≤ 9223372036854775808 ∧ digs n = zs ++ digs k ∧
    wr.ownsRow (w.heap.size + 1) 3 1 (.slice va zs.length vc) zs.length (zs.map (Value.int .i64)) ∧
    wr.heap[w.heap.size]? = some (.cells #[.bool false, .slice none 0 0] 148 (0, 0)) ∧ Below w.heap.size w wr ∧ w.heap.size + 1 ≤ wr.heap.size

set_option maxRecDepth 100000 in
set_option maxHeartbeats 800000 in
theorem refOf_neg (n : Nat) (w : World) (h0 : 0 < n) (hn : (n : Int) ≤ 9223372036854775808) :
    Calls Tryz.prog 91 #[.int .i64 (-(n : Int))] w (RetL1 w (-(n : Int))) := by
  have hlen := length_digs_int (-(n : Int)) (by omega) (by omega)
  rw [Int.natAbs_neg, Int.natAbs_natCast] at hlen
  have Hlen := Lib.hid hlen; clear hlen
  have hneg : -(n : Int) < 0 := by omega
  go_enter Tryz.func91, Tryz.ntmps91
  go_wp2_with fail
  go_loopw [0, 3] (fun q d wr => NOfRel n w q d wr) (fun q _ _ => (intOf q).natAbs)
  case atStart => exact ⟨n, none, 0, [], rfl, rfl, hn, by simp, World.ownsRow_nil _ _ _ _, heap_alloc_new _ _, (Below.refl _ _).alloc (Nat.le_refl _) _, by simp⟩
  case round =>
    obtain ⟨k, va, vc, zs, rfl, rfl, hk2, hd, hown, hc1, hbw, hsz⟩ := hrel
    have Hd := Lib.hid hd; have Hown := Lib.hid hown; have Hc1 := Lib.hid hc1; clear hd hown hc1
    by_cases hk0 : k = 0
    · subst hk0
      obtain ⟨j10, j11, j20, j21⟩ := cells_at Hc1.out
      have hzs : digs n = zs := by have := Hd.out; simpa [digs_zero] using this
      have hsl := owns_sl Hown.out
      have Hsl := Lib.hid hsl; clear hsl
      go_wp2_with fail
      refine (made_any true zs (-(n : Int)) _ _ _ _ Hsl.out (by rw [← hzs]; exact dig_digs n) (by rw [← hzs]; have := Hlen.out; omega) (by rw [← hzs, val_digs, Int.toNat_natCast]; have := Hlen.out; omega) (by rw [← hzs]; simp [val_digs])).mono ?_
      rintro e w1 ⟨s, a, m, c, rfl, hlg, hb1, hf⟩
      have c10 := (hb1.cell (p := ⟨w.heap.size, 0, none⟩) (by show w.heap.size < wr.heap.size; omega)).trans j10
      have c11 := (hb1.cell (p := ⟨w.heap.size, 1, none⟩) (by show w.heap.size < wr.heap.size; omega)).trans j11
      have c20 := (hb1.frozen (p := ⟨w.heap.size, 0, none⟩) (by show w.heap.size < wr.heap.size; omega)).trans j20
      have c21 := (hb1.frozen (p := ⟨w.heap.size, 1, none⟩) (by show w.heap.size < wr.heap.size; omega)).trans j21
      have Hlg := Lib.hid hlg; have Hf := Lib.hid hf; clear hlg hf hzs
      go_wp2_with fail
      refine bodyPost_ret (v := .agg #[.bool s, .slice a m c]) ?_ rfl ?_
      · simp [results, Tryz.results91, go_sem, c10, c11]
      · exact refL1_mk Hlg.out (hbw.trans (hb1.mono hbw.size)) Hf.out w.heap.size (by omega) (Nat.le_refl _) _ _
    · have hkp : 0 < k := by omega
      have hd3 := Hd.out
      have hlz : zs.length ≤ 3 := by have := Hlen.out; rw [hd3, List.length_append] at this; omega
      have hx : digs k = [((k % 1000000000 : Nat) : Int)] ++ digs (k / 1000000000) := by rw [digs_pos hkp]; rfl
      have Hx := Lib.hid hx; clear hx
      have ht := tmod_of_neg (k := -(k : Int)) (by omega)
      have hq := tdiv_of_neg (k := -(k : Int)) (by omega)
      rw [show (- -(k : Int)) % 1000000000 = ((k % 1000000000 : Nat) : Int) by omega] at ht
      rw [show (- -(k : Int)) / 1000000000 = ((k / 1000000000 : Nat) : Int) by omega] at hq
      have hb : ((-(k : Int)) != 0) = true := by simp; omega
      have hm : k / 1000000000 < k := by omega
      have hr1 : k % 1000000000 < 1000000000 := Nat.mod_lt _ (by omega)
      have hq1 : ((k / 1000000000 : Nat) : Int) ≤ 9223372036854775808 := by omega
      have hq2 : ((k / 1000000000 : Nat) : Int) ≤ 9223372037 := by omega
      have Hm := Lib.hid hm; clear hm hd3
      generalize hR : k % 1000000000 = R at *
      generalize hQ : k / 1000000000 = Q at *
      have HR := Lib.hid hR; have HQ := Lib.hid hQ; clear hR hQ
      generalize hK : -(k : Int) = K at *
      have HK := Lib.hid hK
      have hKn : K < 0 := by omega
      have hKl : -9223372036854775808 ≤ K := by omega
      clear hK hk0 hkp
      by_cases hr0 : R = 0
      · subst hr0
        go_wp2_with (refine wpList_append_ints rfl (.tmp 16) (.tmp 18) 146 rfl Tryz.underlying146 (w.heap.size + 1) _ _ zs rfl (Hown.out.alloc _) _ _ 1 1 [_] rfl (SL.one wr _ _) (by simp) (by omega) (by simp; omega) ?_)
        intro v' w1 hown1 hgrow
        obtain ⟨va', vc', rfl⟩ := owns_slice hown1
        have e1 := (grown_old (base := w.heap.size + 1) Hown.out hgrow (b := w.heap.size) (by omega) hsz).trans Hc1.out
        have e3 := grown_below hbw Hown.out hgrow (by omega) hsz
        have e4 := hgrow.size
        have He1 := Lib.hid e1; have Hown1 := Lib.hid hown1; clear e1 hown1 hgrow
        go_wp2_with fail
        go_roundw
        case rel =>
          refine ⟨Q, va', vc', zs ++ [0], rfl, by simp, hq1, (by rw [Hd.out, Hx.out, List.append_assoc]; try rfl), ?_, He1.out, e3, ?_⟩
          · simpa using Hown1.out
          · simp at e4 ⊢; omega
        case measure =>
          have := Hm.out
          have := HK.out
          simp [intOf]; omega
      · have hrp : 0 < R := by omega
        clear hr0
        go_wp2_with (refine wpList_append_ints rfl (.tmp 16) (.tmp 18) 146 rfl Tryz.underlying146 (w.heap.size + 1) _ _ zs rfl (Hown.out.alloc _) _ _ 1 1 [_] rfl (SL.one wr _ _) (by simp) (by omega) (by simp; omega) ?_)
        intro v' w1 hown1 hgrow
        obtain ⟨va', vc', rfl⟩ := owns_slice hown1
        have e1 := (grown_old (base := w.heap.size + 1) Hown.out hgrow (b := w.heap.size) (by omega) hsz).trans Hc1.out
        have e3 := grown_below hbw Hown.out hgrow (by omega) hsz
        have e4 := hgrow.size
        have He1 := Lib.hid e1; have Hown1 := Lib.hid hown1; clear e1 hown1 hgrow
        go_wp2_with fail
        go_roundw
        case rel =>
          refine ⟨Q, va', vc', zs ++ [(R : Int)], rfl, by simp, hq1, (by rw [Hd.out, Hx.out, List.append_assoc]; try rfl), ?_, He1.out, e3, ?_⟩
          · simpa using Hown1.out
          · simp at e4 ⊢; omega
        case measure =>
          have := Hm.out
          have := HK.out
          simp [intOf]; omega
theorem refOf_int (z : Int) (w : World) (h1 : -9223372036854775808 ≤ z) (h2 : z ≤ 9223372036854775807) :
    Calls Tryz.prog 91 #[.int .i64 z] w (RetL1 w z) := by
  by_cases h : z < 0
  · have := refOf_neg z.natAbs w (by omega) (by omega)
    rw [show (-(z.natAbs : Int)) = z by omega] at this
    exact this
  · have := refOf_any z.natAbs w (by omega)
    rw [show ((z.natAbs : Int)) = z by omega] at this
    exact this

set_option maxHeartbeats 400000 in
theorem refText_any (z : Int) (d : Nat) (w : World) (h1 : -9223372036854775808 ≤ z) (h2 : z ≤ 9223372036854775807) (hd : d ≤ 18) :
    Calls Tryz.prog 76 #[.int .i64 z, .int .i64 (d : Int)] w (RetB w (.tuple #[.string (bs (numT z d)), .int .i64 0])) := by
  have hd1 : ¬ (d : Int) < 0 := by omega
  have hd2 : ¬ 18 < (d : Int) := by omega
  go_enter Tryz.func76, Tryz.ntmps76
  go_wp2_with fail
  refine (refOf_int z _ h1 h2).mono ?_
  rintro e w1 ⟨s1, a1, n1, c1, rfl, hl1, hb1, -⟩
  have Hl1 := Lib.hid hl1; have Hb1 := Lib.hid hb1; clear hl1 hb1
  go_wp2_with fail
  refine (refWritten_any z s1 a1 n1 c1 d _ Hl1.out hd).mono ?_
  rintro e w2 ⟨rfl, hb2⟩
  have Hb2 := Lib.hid (Hb1.out.trans (hb2.mono Hb1.out.size)); clear hb2
  go_wp2_with fail
  go_ret2
  exact ⟨rfl, Hb2.out⟩
end Go.Proofs.YtpicmhbjiaegpaaGreatDoor

namespace Go.Proofs.YtpicmhbjiaegpaaGreatDoor
open Go.RowKit

def fits (z : Int) : Bool := decide (-9223372036854775808 ≤ z ∧ z ≤ 9223372036854775807)
/-- what Int gives: the number, or ErrBig -/
def RetInt (w : World) (z : Int) (en : Ending) (w' : World) : Prop := en = .returned (.tuple #[.int .i64 (if fits z then z else 0), .int .i64 (if fits z then 0 else 6)]) ∧ Below w.heap.size w w'
theorem cmpZ_lt {x y : Int} : decide (cmpZ x y < 0) = decide (x < y) := by
  unfold cmpZ
  by_cases h : x < y
  · simp [h]
  · rw [if_neg h, decide_eq_false h]
    by_cases h2 : y < x <;> simp [h2]
theorem cmpZ_gt {x y : Int} : decide (0 < cmpZ x y) = decide (y < x) := by
  unfold cmpZ
  by_cases h : x < y
  · rw [if_pos h, decide_eq_false (by omega : ¬ y < x)]; rfl
  · rw [if_neg h]
    by_cases h2 : y < x <;> simp [h2]

def hornV (s : Bool) (u k : Nat) : Int := if s then -((u / 1000000000 ^ k : Nat) : Int) else ((u / 1000000000 ^ k : Nat) : Int)
theorem horn_top (s : Bool) (u : Nat) : hornV s u (digs u).length = 0 := by
  unfold hornV; rw [Nat.div_eq_of_lt (digs_lt u)]; cases s <;> rfl
theorem horn_step (u j : Nat) : u / 1000000000 ^ j = u / 1000000000 ^ (j + 1) * 1000000000 + u / 1000000000 ^ j % 1000000000 := by
  rw [Nat.pow_succ, ← Nat.div_div_eq_div_mul]
  have := Nat.div_add_mod (u / 1000000000 ^ j) 1000000000
  omega

set_option maxRecDepth 100000 in
set_option maxHeartbeats 800000 in
theorem refInt_any (s : Bool) (z : Int) (a : Option Addr) (n c : Nat) (w : World) (h : LG w.heap.size w s a n c z) :
    Calls Tryz.prog 96 #[.agg #[.bool s, .slice a n c]] w (RetInt w z) := by
  have hv0 := heap_alloc_new w (.cells #[.bool s, .slice a n c] 148)
  have hb0 : Below w.heap.size w (w.alloc (.cells #[.bool s, .slice a n c] 148)) := (Below.refl _ _).alloc (Nat.le_refl _) _
  have hlg0 := h.go hb0
  have Hv0 := Lib.hid hv0; have Hs := Lib.hid h.1; have Hb0 := Lib.hid hb0; have Hlg0 := Lib.hid hlg0; clear h hv0 hb0 hlg0
  go_enter Tryz.func96, Tryz.ntmps96
  go_wp2_with fail
  refine (right_ok s z a n c _ Hlg0.out).mono ?_
  rintro e w1 ⟨rfl, hb1⟩
  have hlg1 := Hlg0.out.go hb1
  have hv1 := (hb1.block w.heap.size (by simp)).trans Hv0.out
  have Hlg1 := Lib.hid hlg1; have Hv1 := Lib.hid hv1; have Hb1 := Lib.hid (Hb0.out.trans (hb1.mono Hb0.out.size)); clear hlg1 hv1 hb1
  go_wp2_with fail
  refine (refOf_int (-9223372036854775808) _ (by omega) (by omega)).mono ?_
  rintro e w2 ⟨s2, a2, n2, c2, rfl, hl2, hb2, -⟩
  have hlg2 := Hlg1.out.go hb2
  have hv2 := (hb2.block w.heap.size (lt_of_block Hv1.out)).trans Hv1.out
  have Hl2 := Lib.hid hl2; have Hlg2 := Lib.hid hlg2; have Hv2 := Lib.hid hv2; have Hb2 := Lib.hid (Hb1.out.trans (hb2.mono Hb1.out.size)); clear hl2 hlg2 hv2 hb2
  go_wp2_with fail
  refine (refOf_int 9223372036854775807 _ (by omega) (by omega)).mono ?_
  rintro e w3 ⟨s3, a3, n3, c3, rfl, hl3, hb3, -⟩
  have hb3' := hb3.trans ((below_two (w := w3) (.cells #[.bool s2, .slice a2 n2 c2] 148) (.cells #[.bool s3, .slice a3 n3 c3] 148)).mono hb3.size)
  have hlg3 := Hlg2.out.go hb3'
  have hl23 := Hl2.out.go hb3'
  have hl33 := hl3.go (below_two (w := w3) (.cells #[.bool s2, .slice a2 n2 c2] 148) (.cells #[.bool s3, .slice a3 n3 c3] 148))
  obtain ⟨e4, e5⟩ := heap_two w3 (.cells #[.bool s2, .slice a2 n2 c2] 148) (.cells #[.bool s3, .slice a3 n3 c3] 148)
  have hw3 := Hb2.out.trans (hb3'.mono Hb2.out.size)
  have h31 : w.heap.size < w3.heap.size := Nat.lt_of_lt_of_le (lt_of_block Hv2.out) hb3.size
  have hcell : ((w3.alloc (.cells #[.bool s2, .slice a2 n2 c2] 148)).alloc (.cells #[.bool s3, .slice a3 n3 c3] 148)).heap[w.heap.size]? = some (.cells #[.bool s, .slice a n c] 148 (0, 0)) := (hb3'.block w.heap.size (lt_of_block Hv2.out)).trans Hv2.out
  obtain ⟨p1, p2, -, -⟩ := cells_at hcell
  obtain ⟨p3, p4, -, -⟩ := cells_at e4
  obtain ⟨p5, p6, -, -⟩ := cells_at e5
  have Hlg3 := Lib.hid hlg3; have Hl23 := Lib.hid hl23; have Hl33 := Lib.hid hl33; have Hw3 := Lib.hid hw3; have Hcell := Lib.hid hcell; have H31 := Lib.hid h31; have E5 := Lib.hid e5
  clear hlg3 hl23 hl33 hw3 hcell hb3' hl3 hb3 h31 e4 e5 Hlg2 Hv2 Hl2 Hb2 Hlg1 Hv1 Hb1 Hlg0 Hb0 Hv0
  go_wp2_with fail
  refine (order_any s s2 z (-9223372036854775808) a a2 n n2 c c2 _ Hlg3.out Hl23.out).mono ?_
  rintro e w4 ⟨rfl, hb4⟩
  have hc4 := (hb4.block w.heap.size (by have := H31.out; simp; omega)).trans Hcell.out
  have e54 := (hb4.block (w3.heap.size + 1) (by simp)).trans E5.out
  obtain ⟨q1, q2, -, -⟩ := cells_at hc4
  obtain ⟨q5, q6, -, -⟩ := cells_at e54
  have Hlg4 := Lib.hid (Hlg3.out.go hb4); have Hl34 := Lib.hid (Hl33.out.go hb4); have Hw4 := Lib.hid (Hw3.out.trans (hb4.mono Hw3.out.size)); have Hc4 := Lib.hid hc4
  have H41 := Lib.hid (Nat.lt_of_lt_of_le (show w.heap.size < ((w3.alloc (.cells #[.bool s2, .slice a2 n2 c2] 148)).alloc (.cells #[.bool s3, .slice a3 n3 c3] 148)).heap.size by have := H31.out; simp; omega) hb4.size)
  clear hb4 hc4 e54 p1 p2 p3 p4 p5 p6 Hlg3 Hl23 Hl33 Hw3 Hcell
  have ht1 := @cmpZ_lt z (-9223372036854775808)
  by_cases hlow : z < -9223372036854775808
  · rw [decide_eq_true hlow] at ht1
    have Hlow := Lib.hid hlow; clear hlow
    go_wp2_with fail
    go_ret2
    have hf : fits z = false := decide_eq_false (by have := Hlow.out; omega)
    refine ⟨?_, Hw4.out⟩
    rw [hf]; rfl
  · rw [decide_eq_false hlow] at ht1
    have Hlow := Lib.hid hlow; clear hlow
    go_wp2_with fail
    refine (order_any s s3 z 9223372036854775807 a a3 n n3 c c3 _ Hlg4.out Hl34.out).mono ?_
    rintro e w5 ⟨rfl, hb5⟩
    have hc5 := (hb5.block w.heap.size H41.out).trans Hc4.out
    obtain ⟨r1, r2, -, -⟩ := cells_at hc5
    have hw5 := Hw4.out.trans (hb5.mono Hw4.out.size)
    have hsl5 := (Hlg4.out.go hb5).2.1
    have Hw5 := Lib.hid hw5; have Hsl5 := Lib.hid hsl5
    clear hb5 hc5 hw5 hsl5 q1 q2 q5 q6
    have ht2 := @cmpZ_gt z 9223372036854775807
    by_cases hhigh : 9223372036854775807 < z
    · rw [decide_eq_true hhigh] at ht2
      have Hhigh := Lib.hid hhigh; clear hhigh
      go_wp2_with fail
      go_ret2
      have hf : fits z = false := decide_eq_false (by have := Hhigh.out; omega)
      refine ⟨?_, Hw5.out⟩
      rw [hf]; rfl
    · rw [decide_eq_false hhigh] at ht2
      have hf : fits z = true := decide_eq_true (by have := Hlow.out; omega)
      have Hhigh := Lib.hid hhigh; clear hhigh
      have hl5 := Hsl5.out.len
      have Hl5 := Lib.hid hl5; clear hl5
      have hn5 := Hlg4.out.2.2
      have Hf := Lib.hid hf; clear hf
      go_wp2_with fail
      go_loop [6, 7] (fun v i => ∃ k : Nat, k ≤ n ∧ i = .int .i64 ((k : Int) - 1) ∧ v = .int .i64 (hornV s z.natAbs k)) (fun _ i => (intOf i + 1).toNat)
      case atStart => exact ⟨n, Nat.le_refl _, rfl, by rw [Hl5.out, horn_top]⟩
      case round =>
        obtain ⟨k, hk, rfl, rfl⟩ := hrel
        by_cases hk0 : k = 0
        · subst hk0
          rw [show ((0 : Nat) : Int) - 1 = -1 from rfl]
          have hv : hornV s z.natAbs 0 = z := by
            unfold hornV
            rw [Nat.pow_zero, Nat.div_one, Hs.out]
            by_cases h : z < 0 <;> simp [h] <;> omega
          rw [hv]
          clear hv
          go_wp2_with fail
          go_ret2
          refine ⟨?_, Hw5.out⟩
          rw [Hf.out]; rfl
        · obtain ⟨j, rfl⟩ : ∃ j, k = j + 1 := ⟨k - 1, by omega⟩
          rw [show ((j + 1 : Nat) : Int) - 1 = (j : Int) by omega]
          obtain ⟨b, off, rfl, hb, hc⟩ := Hsl5.out.at (by omega : 0 < n)
          have hcj := hc j (by omega)
          rw [digs_getD] at hcj
          have hst := horn_step z.natAbs j
          have hle : z.natAbs / 1000000000 ^ j ≤ z.natAbs := Nat.div_le_self _ _
          have hz1 : z.natAbs ≤ 9223372036854775808 := by have := Hlow.out; have := Hhigh.out; omega
          have hz2 : s = false → z.natAbs ≤ 9223372036854775807 := by
            intro hs; have := Hs.out; have := Hhigh.out; subst hs; have := of_decide_eq_false this.symm; omega
          have hv1 : hornV s z.natAbs (j + 1) = if s then -((z.natAbs / 1000000000 ^ (j + 1) : Nat) : Int) else ((z.natAbs / 1000000000 ^ (j + 1) : Nat) : Int) := rfl
          have hv0 : hornV s z.natAbs j = if s then -((z.natAbs / 1000000000 ^ j : Nat) : Int) else ((z.natAbs / 1000000000 ^ j : Nat) : Int) := rfl
          rw [hv1]
          clear hv1 hc
          generalize z.natAbs / 1000000000 ^ j % 1000000000 = D at *
          generalize z.natAbs / 1000000000 ^ (j + 1) = A at *
          rw [hst] at hv0 hle
          have Hv0 := Lib.hid hv0
          clear hv0 hst hb
          cases s with
          | false =>
            have hz3 := hz2 rfl
            have hA : (A : Int) * 1000000000 + D ≤ 9223372036854775807 := by omega
            clear hz2
            simp only [Bool.false_eq_true, if_false]
            go_wp2_with fail
            go_round
            case rel =>
              refine ⟨j, by omega, rfl, ?_⟩
              rw [Hv0.out]
              simp only [Bool.false_eq_true, if_false]
              rw [Int.natCast_add, Int.natCast_mul]; rfl
            case measure => simp [intOf]
          | true =>
            have hA : (A : Int) * 1000000000 + D ≤ 9223372036854775808 := by omega
            clear hz2
            simp only [if_true]
            go_wp2_with fail
            go_round
            case rel =>
              refine ⟨j, by omega, rfl, ?_⟩
              rw [Hv0.out]
              simp only [if_true]
              congr 1
              omega
            case measure => simp [intOf]
end Go.Proofs.YtpicmhbjiaegpaaGreatDoor

namespace Go.Proofs.YtpicmhbjiaegpaaGreatDoor
open Go.RowKit

def dsOf (l : List UInt8) : List UInt8 := (l.filter isD).dropWhile isZero
def has46 (l : List UInt8) : Bool := l.any (· == 46)
theorem has46_snoc (l : List UInt8) (b : UInt8) : has46 (l ++ [b]) = (has46 l || b == 46) := by unfold has46; rw [List.any_append]; simp
theorem placesR_snoc : ∀ (l : List UInt8) (h : Bool) (b : UInt8), placesR h (l ++ [b]) = placesR h l + (if isD b && (h || has46 l) then 1 else 0)
  | [], h, b => by simp [placesR, has46]
  | c :: l, h, b => by
    rw [List.cons_append, placesR, placesR_snoc l _ b, placesR]
    have e : (h || c == 46 || has46 l) = (h || has46 (c :: l)) := by unfold has46; rw [List.any_cons, Bool.or_assoc]
    rw [e]; omega
theorem ds_no {l : List UInt8} {b : UInt8} (h : isD b = false) : dsOf (l ++ [b]) = dsOf l := by
  unfold dsOf; rw [List.filter_append, List.filter_cons, h]; simp
theorem ds_yes {l : List UInt8} {b : UInt8} (h : isD b = true) (hb : dsOf l ≠ [] ∨ b ≠ 48) : dsOf (l ++ [b]) = dsOf l ++ [b] := by
  unfold dsOf at hb ⊢
  rw [List.filter_append, List.filter_cons, h, if_pos rfl, List.filter_nil, List.dropWhile_append]
  cases hd : (l.filter isD).dropWhile isZero with
  | nil =>
    have : b ≠ 48 := by rcases hb with hb | hb
                        · exact absurd hd hb
                        · exact hb
    have hz : isZero b = false := by unfold isZero; simpa using this
    simp [hz]
  | cons x xs => simp
theorem ds_zero {l : List UInt8} (hb : dsOf l = []) : dsOf (l ++ [48]) = [] := by
  unfold dsOf at hb ⊢
  rw [List.filter_append, List.dropWhile_append, hb]
  rfl
theorem valD_drop : ∀ (l : List UInt8), valD 0 (l.dropWhile isZero) = valD 0 l
  | [] => rfl
  | b :: l => by
    by_cases h : isZero b = true
    · have hb : b = 48 := by unfold isZero at h; simpa using h
      rw [List.dropWhile_cons, if_pos h, valD_drop l, valD_cons, hb]; rfl
    · rw [List.dropWhile_cons, if_neg h]
theorem valD_ds (l : List UInt8) : valD 0 (dsOf l) = valD 0 (l.filter isD) := valD_drop _
theorem isD_ds (l : List UInt8) : ∀ b ∈ dsOf l, isD b = true := fun b hb => by
  unfold dsOf at hb
  have := (List.dropWhile_sublist isZero).mem hb
  exact (List.mem_filter.1 this).2
theorem ds_len (l : List UInt8) : (dsOf l).length ≤ l.length := Nat.le_trans (List.dropWhile_sublist _).length_le (List.length_filter_le _ _)
/-- the digits that are read: at least one -/
def rdOf (l : List UInt8) : List UInt8 := if dsOf l = [] then [48] else dsOf l
theorem valD_rd (l : List UInt8) : valD 0 (rdOf l) = valD 0 (l.filter isD) := by
  unfold rdOf
  split
  · rename_i h
    rw [← valD_ds, h, valD_cons]; rfl
  · exact valD_ds l
theorem isD_rd (l : List UInt8) : ∀ b ∈ rdOf l, isD b = true := by
  unfold rdOf
  split
  · intro b hb; rw [List.mem_singleton.1 hb]; rfl
  · exact isD_ds l
/-- what Parse gives: the number and the error -/
def parN (l : List UInt8) (d : Nat) : Int := match decForm l with
  | none => 0
  | some p => if p ≤ d ∧ fits (numV l * 10 ^ (d - p)) = true then numV l * 10 ^ (d - p) else 0
def parE (l : List UInt8) (d : Nat) : Int := match decForm l with
  | none => 5
  | some p => if p ≤ d then (if fits (numV l * 10 ^ (d - p)) = true then 0 else 6) else 5
theorem par_places {l : List UInt8} {d : Nat} (h : d < placesR false l) : parN l d = 0 ∧ parE l d = 5 := by
  unfold parN parE
  cases hf : decForm l with
  | none => exact ⟨rfl, rfl⟩
  | some p =>
    have := form_places hf
    simp only []
    rw [if_neg (by omega), if_neg (by omega)]; exact ⟨rfl, rfl⟩
theorem par_text {l : List UInt8} {d : Nat} (h : numT (numV l) (placesR false l) ≠ l) : parN l d = 0 ∧ parE l d = 5 := by
  have : decForm l = none := by
    cases hf : decForm l with
    | none => rfl
    | some p => exact absurd ((ref_form l).2 (by rw [hf, form_places hf])) h
  unfold parN parE
  rw [this]; exact ⟨rfl, rfl⟩
theorem par_ok {l : List UInt8} {d : Nat} (h : numT (numV l) (placesR false l) = l) (hp : placesR false l ≤ d) :
    parN l d = (if fits (numV l * 10 ^ (d - placesR false l)) = true then numV l * 10 ^ (d - placesR false l) else 0) ∧ parE l d = (if fits (numV l * 10 ^ (d - placesR false l)) = true then 0 else 6) := by
  have := (ref_form l).1 h
  unfold parN parE
  rw [this]
  simp only [hp, true_and, if_true, and_self]
theorem signed_head (l : List UInt8) : (unsign l).1 = (l.head? == some 45) := by
  unfold unsign
  split
  · rfl
  · rename_i h
    cases l with
    | nil => rfl
    | cons b l =>
      symm
      rw [beq_eq_false_iff_ne]
      intro e
      cases e
      exact h l rfl
theorem neg_at (s : ByteArray) : (unsign s.data.toList).1 = true ↔ ∃ h : 0 < s.size, s[0].toNat = 45 := by
  rw [signed_head]
  by_cases h0 : 0 < s.size
  · have h2 : s.data.toList.head? = some s[0] := by
      rw [List.head?_eq_getElem?, List.getElem?_eq_getElem (by simpa using h0)]; rfl
    rw [h2]
    constructor
    · intro e
      have e : s[0] = 45 := by simpa using e
      exact ⟨h0, by rw [e]; rfl⟩
    · rintro ⟨_, e⟩
      have : s[0] = 45 := UInt8.toNat_inj.1 (by rw [e]; rfl)
      rw [this]; rfl
  · constructor
    · intro e
      have : s.data.toList = [] := List.length_eq_zero_iff.1 (by have : s.data.toList.length = s.size := rfl; omega)
      rw [this] at e; cases e
    · rintro ⟨h, _⟩; exact absurd h h0
def kTop : Nat := 5000
theorem kTop_eq : kTop = 5000 := rfl
attribute [irreducible] kTop
/-- numbers of few digits -/
theorem fit_powN {x k n : Nat} (h : x < 10 ^ k) (hk : k ≤ 9 * n) : (digs x).length ≤ n := by
  refine length_digs_le (Nat.lt_of_lt_of_le h ?_)
  rw [pow9]
  exact Nat.pow_le_pow_right (by omega) (by omega)
theorem fit_pow {x k : Nat} (h : x < 10 ^ k) (hk : k ≤ 5400) : (digs x).length ≤ 600 := fit_powN h (by omega)
theorem valD_small {l : List UInt8} (h : ∀ b ∈ l, isD b = true) : valD 0 l < 10 ^ l.length := by
  have := valD_lt l 0 h; omega
end Go.Proofs.YtpicmhbjiaegpaaGreatDoor
