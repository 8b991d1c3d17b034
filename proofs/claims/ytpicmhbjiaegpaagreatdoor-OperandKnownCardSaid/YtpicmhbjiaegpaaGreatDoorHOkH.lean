/-
  DERIVED. The walk of operand.text.
-/
import Derived.Test.YtpicmhbjiaegpaaGreatDoorGaf
namespace Go.Proofs.YtpicmhbjiaegpaaGreatDoor
open Go.RowKit

def TxRel (nm : List UInt8) (ks : List Nat) (a0 a1 a2 a3 a4 rel tg wt : Int) (w : World) (v : Value) (i : Nat) (wr : World) : Prop :=
  ∃ va n vc, v = .slice va n vc ∧ n = (nm :: wacc ks [a0, a1, a2, a3, a4] i).length ∧ wr.ownsRow (w.heap.size + 1) 9 1 (.slice va n vc) n (strCs (nm :: wacc ks [a0, a1, a2, a3, a4] i)) ∧ OpdB wr w.heap.size nm a0 a1 a2 a3 a4 rel tg wt ∧ Below w.heap.size w wr ∧ w.heap.size + 1 ≤ wr.heap.size

theorem wacc_small {ks : List Nat} {a0 a1 a2 a3 a4 : Int} (h0 : -2000000 ≤ a0 ∧ a0 ≤ 1000000000) (h1 : -2000000 ≤ a1 ∧ a1 ≤ 1000000000) (h2 : -2000000 ≤ a2 ∧ a2 ≤ 1000000000) (h3 : -2000000 ≤ a3 ∧ a3 ≤ 1000000000) (h4 : -2000000 ≤ a4 ∧ a4 ≤ 1000000000) : ∀ i, ∀ y ∈ wacc ks [a0, a1, a2, a3, a4] i, y.length ≤ 1000
  | 0, y, hy => by simp [wacc] at hy
  | i + 1, y, hy => by
    rw [wacc, List.mem_append] at hy
    rcases hy with hy | hy
    · exact wacc_small h0 h1 h2 h3 h4 i y hy
    · have hb : -2000000 ≤ [a0, a1, a2, a3, a4].getD i 0 ∧ [a0, a1, a2, a3, a4].getD i 0 ≤ 1000000000 := by
        match i with
        | 0 => exact h0
        | 1 => exact h1
        | 2 => exact h2
        | 3 => exact h3
        | 4 => exact h4
        | k + 5 => simp
      split at hy
      · cases hy
      · rw [List.mem_singleton] at hy
        subst hy
        exact Nat.le_trans (numT_len (by omega) (by omega) (by unfold digitsOf; split <;> omega)) (by omega)
theorem relT_len (r : Int) : (relT r).length ≤ 1 := by
  unfold relT
  split
  · simp
  · split <;> simp
theorem joined_any {w : World} {base : Nat} {a : Option Addr} {n c : Nat} {l : List (List UInt8)} (h : w.ownsRow base 9 1 (.slice a n c) n (strCs l)) (hl : 0 < l.length) (hl2 : l.length ≤ 1000) (hx : ∀ x ∈ l, x.length ≤ 1000) :
    Calls Tryz.prog 30 #[.slice a n c, .string { data := #[32] }] w (RetB w (.string (bs (joinT l)))) := by
  obtain ⟨g, rfl, -, hg, hn, hc, hcells⟩ := owns_str_at h hl
  have hmm : (l.map bs).map (fun b => b.data.toList) = l := by rw [List.map_map]; exact List.map_id'' (fun x => rfl) l
  have hlen := joinT_len l hx
  have hp : l.length * (1000 + 1) ≤ 1000 * 1001 := Nat.mul_le_mul hl2 (Nat.le_refl _)
  have key := Tryz.strings_Join g 0 c (l.map bs) { data := #[32] } w hcells hg (by rw [List.length_map]; omega) (by rw [List.length_map]; omega) (by rw [hmm, joinT_eq]; omega)
  rw [List.length_map, ← hn, hmm, joinT_eq] at key
  exact key.mono fun e w' h => h
set_option maxRecDepth 100000 in
set_option maxHeartbeats 3200000 in
theorem otext_any (x : Opd) (ks : List Nat) (a0 a1 a2 a3 a4 : Int) (ha : x.ag = [a0, a1, a2, a3, a4]) (hgd : Good x ks a0 a1 a2 a3 a4) (w : World) (hg : GW w) :
    Calls Tryz.prog 40 #[.agg #[.string (bs x.nm), .int .i64 a0, .int .i64 a1, .int .i64 a2, .int .i64 a3, .int .i64 a4, .int .i64 x.rel, .int .i64 x.tg, .int .i64 x.wt]] w (RetB w (.string (bs (lineT x)))) := by
  have hline : lineT x = joinT (x.nm :: (wacc ks [a0, a1, a2, a3, a4] 5 ++ relT x.rel :: numT x.tg 6 :: (if x.rel = 1 then [numT x.wt 0] else []))) := by
    unfold lineT wordsT
    rw [hgd.hk, Option.getD_some, ha, wacc_all hgd.hl (kinds_pos hgd.hk).2]
  obtain ⟨hk, hl, hnm, hb0, hb1, hb2, hb3, hb4, hrel, htg, hwt⟩ := hgd
  have hkb : ∀ i, ks.getD i 0 < 9 := (kinds_small hk).2
  have hkn : kindsOf x.nm = some ks := hk
  generalize x.nm = nm at *
  generalize x.rel = rel at *
  generalize x.tg = tg at *
  generalize x.wt = wt at *
  have hacc : ∀ i, wacc ks [a0, a1, a2, a3, a4] (i + 1) = wacc ks [a0, a1, a2, a3, a4] i ++ (if ks.getD i 0 = 0 then [] else [numT ([a0, a1, a2, a3, a4].getD i 0) (digitsOf (ks.getD i 0))]) := fun i => rfl
  have hk0 := hkb 0; have hk1 := hkb 1; have hk2 := hkb 2; have hk3 := hkb 3; have hk4 := hkb 4
  have hc0 := hacc 0; have hc1 := hacc 1; have hc2 := hacc 2; have hc3 := hacc 3; have hc4 := hacc 4
  simp only [List.getD_cons_zero, List.getD_cons_succ] at hc0 hc1 hc2 hc3 hc4
  have hnm0 : nm.length ≤ 4 := by omega
  have HC0 := Lib.hid hc0; have HC1 := Lib.hid hc1; have HC2 := Lib.hid hc2; have HC3 := Lib.hid hc3; have HC4 := Lib.hid hc4
  have Hline := Lib.hid hline; have Hkn := Lib.hid hkn; have Hg := Lib.hid hg; have Hnm := Lib.hid hnm
  have hob := heap_alloc_new w (.cells #[.string (bs nm), .int .i64 a0, .int .i64 a1, .int .i64 a2, .int .i64 a3, .int .i64 a4, .int .i64 rel, .int .i64 tg, .int .i64 wt] 50)
  have hown0 := owns_strs (w.alloc (.cells #[.string (bs nm), .int .i64 a0, .int .i64 a1, .int .i64 a2, .int .i64 a3, .int .i64 a4, .int .i64 rel, .int .i64 tg, .int .i64 wt] 50)) (w.heap.size + 1) [nm] (by simp) (by simp) (by simp)
  have hbw : Below w.heap.size w ((w.alloc (.cells #[.string (bs nm), .int .i64 a0, .int .i64 a1, .int .i64 a2, .int .i64 a3, .int .i64 a4, .int .i64 rel, .int .i64 tg, .int .i64 wt] 50)).alloc (.cells #[.string (bs nm)] 9)) := ((Below.refl _ _).alloc (Nat.le_refl _) _).alloc (by simp) _
  have hob2 := (Below.heap_alloc (w.alloc (.cells #[.string (bs nm), .int .i64 a0, .int .i64 a1, .int .i64 a2, .int .i64 a3, .int .i64 a4, .int .i64 rel, .int .i64 tg, .int .i64 wt] 50)) (.cells #[.string (bs nm)] 9) w.heap.size (by simp)).trans hob
  have hsz0 : w.heap.size + 2 = ((w.alloc (.cells #[.string (bs nm), .int .i64 a0, .int .i64 a1, .int .i64 a2, .int .i64 a3, .int .i64 a4, .int .i64 rel, .int .i64 tg, .int .i64 wt] 50)).alloc (.cells #[.string (bs nm)] 9)).heap.size := by simp
  have hbl : (w.alloc (.cells #[.string (bs nm), .int .i64 a0, .int .i64 a1, .int .i64 a2, .int .i64 a3, .int .i64 a4, .int .i64 rel, .int .i64 tg, .int .i64 wt] 50)).heap.size = w.heap.size + 1 := by simp
  rw [hbl] at hown0
  have hown : ((w.alloc (.cells #[.string (bs nm), .int .i64 a0, .int .i64 a1, .int .i64 a2, .int .i64 a3, .int .i64 a4, .int .i64 rel, .int .i64 tg, .int .i64 wt] 50)).alloc (.cells #[.string (bs nm)] 9)).ownsRow (w.heap.size + 1) 9 1 (.slice (some ⟨w.heap.size + 1, 0, none⟩) 1 1) 1 (strCs [nm]) := hown0
  clear hown0
  have Hown := Lib.hid hown; have Hbw := Lib.hid hbw; have Hob2 := Lib.hid hob2; have Hsz0 := Lib.hid hsz0
  clear hown hbw hob hob2 hsz0 hbl hc0 hc1 hc2 hc3 hc4 hacc hkb hk hkn hline hg hnm ha
  go_enter Tryz.func40, Tryz.ntmps40
  go_wp2_with fail
  have hc0 : (( w.alloc (.cells #[.string (bs nm), .int .i64 a0, .int .i64 a1, .int .i64 a2, .int .i64 a3, .int .i64 a4, .int .i64 rel, .int .i64 tg, .int .i64 wt] 50)).alloc (.cells #[.string (bs nm)] 9)).cell? ⟨w.heap.size, 0, none⟩ = some (.string (bs nm)) := (obj_cell Hob2.out 0).trans rfl
  generalize ((w.alloc (.cells #[.string (bs nm), .int .i64 a0, .int .i64 a1, .int .i64 a2, .int .i64 a3, .int .i64 a4, .int .i64 rel, .int .i64 tg, .int .i64 wt] 50)).alloc (.cells #[.string (bs nm)] 9)) = w0 at *
  have hsz0 := Hsz0.out
  have hlt0 : w.heap.size < w0.heap.size := by omega
  refine wp_region_floats 5 [] [] [(1, true), (2, true), (4, true), (0, false), (3, true)] (by kernel_rfl) (by kernel_rfl) ⟨by simp, by simp, fun _ h => by cases h⟩ (fun _ _ _ _ _ h => h) (fun _ _ o _ _ h => by cases o <;> exact h) ?_
  iterate 2
    refine wpG_yield (v := ?_) rfl rfl (by rfl) ?_ ?_
    rotate_left
    · intro y hy
      have z1 := (hy.cell (p := ⟨w.heap.size, 0, none⟩) hlt0).trans hc0
      go_simp
      with_reducible rfl
    try simp only [Act.put, List.setIfInBounds_toArray, List.set_cons_zero, List.set_cons_succ]
  iterate 1
    refine wpG_pure (v := ?_) rfl (by rfl) ?_ ?_
    rotate_left
    · intro y
      go_simp
      with_reducible rfl
    try simp only [Act.put, List.setIfInBounds_toArray, List.set_cons_zero, List.set_cons_succ]
  refine wpG_step rfl rfl (fun x1 hx1 K hK => ?_)
  go_simp
  have hx1' : Below w0.heap.size w0 x1 := below_undrew (k := 1) hx1
  refine (kinds_any _).mono ?_
  rintro e w2 ⟨b, rfl, hbg, hmk, hb2⟩
  refine hK _ _ hb2 ?_
  clear hK K
  have Hx2 := Lib.hid (hx1'.trans (hb2.mono hx1'.size)); have Hmk := Lib.hid hmk; have hmkl := hmk.lt
  clear hx1 hx1' hb2 hbg hmk
  try simp only [Act.put, List.setIfInBounds_toArray, List.set_cons_zero, List.set_cons_succ]
  refine wpG_yield (v := ?_) rfl rfl (by rfl) ?_ ?_
  rotate_left
  · intro y hy
    have z1 := run_lookup_K (P := Tryz.prog) (w := y) (t := 114) Tryz.underlying114 Tryz.underlying9 (Tryz.zeroKV y) (Hmk.out.block (hy.block b hmkl)) nm false
    rw [if_neg (by decide), lookK_all, Hkn.out, Option.getD_some] at z1
    go_simp
    with_reducible rfl
  try simp only [Act.put, List.setIfInBounds_toArray, List.set_cons_zero, List.set_cons_succ]
  refine wpG_nil0 rfl (fun w3 hb3 => ?_)
  have hx3 : Below w0.heap.size w0 w3 := Hx2.out.trans (hb3.mono Hx2.out.size)
  have hbd : OpdB w3 w.heap.size nm a0 a1 a2 a3 a4 rel tg wt := (hx3.block w.heap.size hlt0).trans Hob2.out
  have hstart : TxRel nm ks a0 a1 a2 a3 a4 rel tg wt w (.slice (some ⟨w.heap.size + 1, 0, none⟩) 1 1) 0 w3 := ⟨_, 1, _, rfl, rfl, ownsRow_below Hown.out hx3, hbd, Hbw.out.trans (hx3.mono Hbw.out.size), by have := hx3.size; omega⟩
  have Hstart := Lib.hid hstart
  clear hstart hbd hx3 hb3 Hx2 Hmk Hown Hbw Hob2 hc0 hlt0 hmkl Hsz0 hsz0
  have hkv : kV ks = .agg #[.int .i64 (ks.getD 0 0 : Nat), .int .i64 (ks.getD 1 0 : Nat), .int .i64 (ks.getD 2 0 : Nat), .int .i64 (ks.getD 3 0 : Nat), .int .i64 (ks.getD 4 0 : Nat)] := rfl
  rw [hkv]
  clear hkv
  have hrr : ∀ v i wr, TxRel nm ks a0 a1 a2 a3 a4 rel tg wt w v i wr → TxRel nm ks a0 a1 a2 a3 a4 rel tg wt w v i wr := fun _ _ _ h => h
  generalize hK0 : ks.getD 0 0 = k0 at *
  generalize hK1 : ks.getD 1 0 = k1 at *
  generalize hK2 : ks.getD 2 0 = k2 at *
  generalize hK3 : ks.getD 3 0 = k3 at *
  generalize hK4 : ks.getD 4 0 = k4 at *
  clear hK0 hK1 hK2 hK3 hK4 hrr
  go_wp2_with fail
  go_loopw [3, 17] (fun v iv wr => ∃ i : Nat, i ≤ 5 ∧ iv = .int .i64 (i : Int) ∧ TxRel nm ks a0 a1 a2 a3 a4 rel tg wt w v i wr) (fun _ iv _ => 5 - (intOf iv).toNat)
  case atStart => exact ⟨0, by omega, rfl, Hstart.out⟩
  case round =>
    clear Hstart
    obtain ⟨i, hi, rfl, hrel⟩ := hrel
    obtain ⟨va, n, vc, rfl, hn, hown, hb, hbw, hsz⟩ := hrel
    have hnl : n ≤ 6 := by rw [hn, List.length_cons]; have := wacc_len ks [a0, a1, a2, a3, a4] i; omega
    have hlt : w.heap.size < wr.heap.size := by omega
    have Hb := Lib.hid hb; have Hbw := Lib.hid hbw; have Hn := Lib.hid hn; have Hown := Lib.hid hown; clear hb hbw hn hown
    have hways : i = 0 ∨ i = 1 ∨ i = 2 ∨ i = 3 ∨ i = 4 ∨ i = 5 := by omega
    rcases hways with rfl | rfl | rfl | rfl | rfl | rfl
    · have hix := fun w => (index_5 (k0 : Int) k1 k2 k3 k4 w).1
      by_cases hkz : k0 = 0
      · have hz0 : ((k0 : Int) == 0) = true := by simp [hkz]
        have hacn := HC0.out
        rw [if_pos hkz, List.append_nil] at hacn
        have hrel2 : TxRel nm ks a0 a1 a2 a3 a4 rel tg wt w (.slice va n vc) 1 wr := ⟨va, n, vc, rfl, by rw [hacn]; exact Hn.out, by rw [hacn]; exact Hown.out, Hb.out, Hbw.out, hsz⟩
        have Hrel2 := Lib.hid hrel2; clear hrel2 hacn hkz
        go_wp2_with fail
        go_roundw
        case rel => exact ⟨1, by omega, rfl, Hrel2.out⟩
        case measure => simp [intOf]
      · have hz0 : ((k0 : Int) == 0) = false := by simp; omega
        have HKz := Lib.hid hkz; clear hkz
        go_wp2_with fail
        refine (ranges_any _).mono ?_
        rintro e w5 ⟨b5, rfl, hb5, hb5s, hrg, hbb⟩
        obtain ⟨r0, r1, r2⟩ := hrg k0 hk0
        have hbd5 := (hbb.block w.heap.size hlt).trans Hb.out
        have hax : w5.cell? ⟨w.heap.size, 1, none⟩ = some (.int .i64 a0) := (obj_cell hbd5 1).trans rfl
        have Hbd5 := Lib.hid hbd5; have Hown5 := Lib.hid (ownsRow_below Hown.out hbb); have hw5 := Hbw.out.trans (hbb.mono Hbw.out.size); have hs5 := hbb.size
        have Hgw5 := Lib.hid (Hg.out.below hw5); have Hw5 := Lib.hid hw5
        have hdgt : digitsOf k0 = if (rangeOf k0).2.2 then 6 else 0 := rfl
        clear hbd5 hrg hbb r0 r1 hw5
        cases hdec : (rangeOf k0).2.2
        · rw [hdec] at hdgt r2
          have Hdg := Lib.hid hdgt; clear hdgt hdec
          go_wp2_with fail
          refine (itoa_any a0 _ (by omega) (by omega) Hgw5.out).mono ?_
          rintro e w6 ⟨rfl, hb6⟩
          rw [itoa_eq, ← numT_zero]
          have Hbd6 := Lib.hid ((hb6.block w.heap.size (by omega)).trans Hbd5.out); have Hown6 := Lib.hid (ownsRow_below Hown5.out hb6); have Hw6 := Lib.hid (Hw5.out.trans (hb6.mono Hw5.out.size)); have hs6 := hb6.size
          clear hb6 Hbd5 Hown5 Hgw5 hax
          go_wp2_with (refine wpList_append_strs rfl (.tmp 21) (.tmp 27) 52 rfl Tryz.underlying52 (w.heap.size + 1) w6 va n vc _ [numT a0 0] rfl Hown6.out rfl rfl (by simp; omega) (by omega) ?_)
          intro va2 vc2 w7 hown7 hb7 hk7 hs7
          have hbd7 := (hk7 w.heap.size (by omega)).trans Hbd6.out
          have hw7 := hb7 w.heap.size w (by omega) Hw6.out
          have hacn := HC0.out
          rw [if_neg HKz.out, Hdg.out] at hacn
          have hrel7 : TxRel nm ks a0 a1 a2 a3 a4 rel tg wt w (.slice va2 (n + 1) vc2) 1 w7 := ⟨va2, n + 1, vc2, rfl, by rw [hacn, ← List.cons_append, List.length_append, ← Hn.out]; rfl, by rw [hacn, ← List.cons_append]; exact hown7, hbd7, hw7, by omega⟩
          have Hrel7 := Lib.hid hrel7; clear hown7 hb7 hk7 hbd7 hw7 hacn hrel7
          go_wp2_with fail
          go_roundw
          case rel => exact ⟨1, by omega, rfl, Hrel7.out⟩
          case measure => simp [intOf]
        · rw [hdec] at hdgt r2
          have Hdg := Lib.hid hdgt; clear hdgt hdec
          go_wp2_with fail
          refine (decText_any a0 6 _ (by omega) (by omega) (by omega) Hgw5.out).mono ?_
          rintro e w6 ⟨rfl, hb6⟩
          have Hbd6 := Lib.hid ((hb6.block w.heap.size (by omega)).trans Hbd5.out); have Hown6 := Lib.hid (ownsRow_below Hown5.out hb6); have Hw6 := Lib.hid (Hw5.out.trans (hb6.mono Hw5.out.size)); have hs6 := hb6.size
          clear hb6 Hbd5 Hown5 Hgw5 hax
          go_wp2_with (refine wpList_append_strs rfl (.tmp 46) (.tmp 48) 52 rfl Tryz.underlying52 (w.heap.size + 1) w6 va n vc _ [numT a0 6] rfl Hown6.out rfl rfl (by simp; omega) (by omega) ?_)
          intro va2 vc2 w7 hown7 hb7 hk7 hs7
          have hbd7 := (hk7 w.heap.size (by omega)).trans Hbd6.out
          have hw7 := hb7 w.heap.size w (by omega) Hw6.out
          have hacn := HC0.out
          rw [if_neg HKz.out, Hdg.out] at hacn
          have hrel7 : TxRel nm ks a0 a1 a2 a3 a4 rel tg wt w (.slice va2 (n + 1) vc2) 1 w7 := ⟨va2, n + 1, vc2, rfl, by rw [hacn, ← List.cons_append, List.length_append, ← Hn.out]; rfl, by rw [hacn, ← List.cons_append]; exact hown7, hbd7, hw7, by omega⟩
          have Hrel7 := Lib.hid hrel7; clear hown7 hb7 hk7 hbd7 hw7 hacn hrel7
          go_wp2_with fail
          go_roundw
          case rel => exact ⟨1, by omega, rfl, Hrel7.out⟩
          case measure => simp [intOf]
    · have hix := fun w => (index_5 (k0 : Int) k1 k2 k3 k4 w).2.1
      by_cases hkz : k1 = 0
      · have hz0 : ((k1 : Int) == 0) = true := by simp [hkz]
        have hacn := HC1.out
        rw [if_pos hkz, List.append_nil] at hacn
        have hrel2 : TxRel nm ks a0 a1 a2 a3 a4 rel tg wt w (.slice va n vc) 2 wr := ⟨va, n, vc, rfl, by rw [hacn]; exact Hn.out, by rw [hacn]; exact Hown.out, Hb.out, Hbw.out, hsz⟩
        have Hrel2 := Lib.hid hrel2; clear hrel2 hacn hkz
        go_wp2_with fail
        go_roundw
        case rel => exact ⟨2, by omega, rfl, Hrel2.out⟩
        case measure => simp [intOf]
      · have hz0 : ((k1 : Int) == 0) = false := by simp; omega
        have HKz := Lib.hid hkz; clear hkz
        go_wp2_with fail
        refine (ranges_any _).mono ?_
        rintro e w5 ⟨b5, rfl, hb5, hb5s, hrg, hbb⟩
        obtain ⟨r0, r1, r2⟩ := hrg k1 hk1
        have hbd5 := (hbb.block w.heap.size hlt).trans Hb.out
        have hax : w5.cell? ⟨w.heap.size, 2, none⟩ = some (.int .i64 a1) := (obj_cell hbd5 2).trans rfl
        have Hbd5 := Lib.hid hbd5; have Hown5 := Lib.hid (ownsRow_below Hown.out hbb); have hw5 := Hbw.out.trans (hbb.mono Hbw.out.size); have hs5 := hbb.size
        have Hgw5 := Lib.hid (Hg.out.below hw5); have Hw5 := Lib.hid hw5
        have hdgt : digitsOf k1 = if (rangeOf k1).2.2 then 6 else 0 := rfl
        clear hbd5 hrg hbb r0 r1 hw5
        cases hdec : (rangeOf k1).2.2
        · rw [hdec] at hdgt r2
          have Hdg := Lib.hid hdgt; clear hdgt hdec
          go_wp2_with fail
          refine (itoa_any a1 _ (by omega) (by omega) Hgw5.out).mono ?_
          rintro e w6 ⟨rfl, hb6⟩
          rw [itoa_eq, ← numT_zero]
          have Hbd6 := Lib.hid ((hb6.block w.heap.size (by omega)).trans Hbd5.out); have Hown6 := Lib.hid (ownsRow_below Hown5.out hb6); have Hw6 := Lib.hid (Hw5.out.trans (hb6.mono Hw5.out.size)); have hs6 := hb6.size
          clear hb6 Hbd5 Hown5 Hgw5 hax
          go_wp2_with (refine wpList_append_strs rfl (.tmp 21) (.tmp 27) 52 rfl Tryz.underlying52 (w.heap.size + 1) w6 va n vc _ [numT a1 0] rfl Hown6.out rfl rfl (by simp; omega) (by omega) ?_)
          intro va2 vc2 w7 hown7 hb7 hk7 hs7
          have hbd7 := (hk7 w.heap.size (by omega)).trans Hbd6.out
          have hw7 := hb7 w.heap.size w (by omega) Hw6.out
          have hacn := HC1.out
          rw [if_neg HKz.out, Hdg.out] at hacn
          have hrel7 : TxRel nm ks a0 a1 a2 a3 a4 rel tg wt w (.slice va2 (n + 1) vc2) 2 w7 := ⟨va2, n + 1, vc2, rfl, by rw [hacn, ← List.cons_append, List.length_append, ← Hn.out]; rfl, by rw [hacn, ← List.cons_append]; exact hown7, hbd7, hw7, by omega⟩
          have Hrel7 := Lib.hid hrel7; clear hown7 hb7 hk7 hbd7 hw7 hacn hrel7
          go_wp2_with fail
          go_roundw
          case rel => exact ⟨2, by omega, rfl, Hrel7.out⟩
          case measure => simp [intOf]
        · rw [hdec] at hdgt r2
          have Hdg := Lib.hid hdgt; clear hdgt hdec
          go_wp2_with fail
          refine (decText_any a1 6 _ (by omega) (by omega) (by omega) Hgw5.out).mono ?_
          rintro e w6 ⟨rfl, hb6⟩
          have Hbd6 := Lib.hid ((hb6.block w.heap.size (by omega)).trans Hbd5.out); have Hown6 := Lib.hid (ownsRow_below Hown5.out hb6); have Hw6 := Lib.hid (Hw5.out.trans (hb6.mono Hw5.out.size)); have hs6 := hb6.size
          clear hb6 Hbd5 Hown5 Hgw5 hax
          go_wp2_with (refine wpList_append_strs rfl (.tmp 46) (.tmp 48) 52 rfl Tryz.underlying52 (w.heap.size + 1) w6 va n vc _ [numT a1 6] rfl Hown6.out rfl rfl (by simp; omega) (by omega) ?_)
          intro va2 vc2 w7 hown7 hb7 hk7 hs7
          have hbd7 := (hk7 w.heap.size (by omega)).trans Hbd6.out
          have hw7 := hb7 w.heap.size w (by omega) Hw6.out
          have hacn := HC1.out
          rw [if_neg HKz.out, Hdg.out] at hacn
          have hrel7 : TxRel nm ks a0 a1 a2 a3 a4 rel tg wt w (.slice va2 (n + 1) vc2) 2 w7 := ⟨va2, n + 1, vc2, rfl, by rw [hacn, ← List.cons_append, List.length_append, ← Hn.out]; rfl, by rw [hacn, ← List.cons_append]; exact hown7, hbd7, hw7, by omega⟩
          have Hrel7 := Lib.hid hrel7; clear hown7 hb7 hk7 hbd7 hw7 hacn hrel7
          go_wp2_with fail
          go_roundw
          case rel => exact ⟨2, by omega, rfl, Hrel7.out⟩
          case measure => simp [intOf]
    · have hix := fun w => (index_5 (k0 : Int) k1 k2 k3 k4 w).2.2.1
      by_cases hkz : k2 = 0
      · have hz0 : ((k2 : Int) == 0) = true := by simp [hkz]
        have hacn := HC2.out
        rw [if_pos hkz, List.append_nil] at hacn
        have hrel2 : TxRel nm ks a0 a1 a2 a3 a4 rel tg wt w (.slice va n vc) 3 wr := ⟨va, n, vc, rfl, by rw [hacn]; exact Hn.out, by rw [hacn]; exact Hown.out, Hb.out, Hbw.out, hsz⟩
        have Hrel2 := Lib.hid hrel2; clear hrel2 hacn hkz
        go_wp2_with fail
        go_roundw
        case rel => exact ⟨3, by omega, rfl, Hrel2.out⟩
        case measure => simp [intOf]
      · have hz0 : ((k2 : Int) == 0) = false := by simp; omega
        have HKz := Lib.hid hkz; clear hkz
        go_wp2_with fail
        refine (ranges_any _).mono ?_
        rintro e w5 ⟨b5, rfl, hb5, hb5s, hrg, hbb⟩
        obtain ⟨r0, r1, r2⟩ := hrg k2 hk2
        have hbd5 := (hbb.block w.heap.size hlt).trans Hb.out
        have hax : w5.cell? ⟨w.heap.size, 3, none⟩ = some (.int .i64 a2) := (obj_cell hbd5 3).trans rfl
        have Hbd5 := Lib.hid hbd5; have Hown5 := Lib.hid (ownsRow_below Hown.out hbb); have hw5 := Hbw.out.trans (hbb.mono Hbw.out.size); have hs5 := hbb.size
        have Hgw5 := Lib.hid (Hg.out.below hw5); have Hw5 := Lib.hid hw5
        have hdgt : digitsOf k2 = if (rangeOf k2).2.2 then 6 else 0 := rfl
        clear hbd5 hrg hbb r0 r1 hw5
        cases hdec : (rangeOf k2).2.2
        · rw [hdec] at hdgt r2
          have Hdg := Lib.hid hdgt; clear hdgt hdec
          go_wp2_with fail
          refine (itoa_any a2 _ (by omega) (by omega) Hgw5.out).mono ?_
          rintro e w6 ⟨rfl, hb6⟩
          rw [itoa_eq, ← numT_zero]
          have Hbd6 := Lib.hid ((hb6.block w.heap.size (by omega)).trans Hbd5.out); have Hown6 := Lib.hid (ownsRow_below Hown5.out hb6); have Hw6 := Lib.hid (Hw5.out.trans (hb6.mono Hw5.out.size)); have hs6 := hb6.size
          clear hb6 Hbd5 Hown5 Hgw5 hax
          go_wp2_with (refine wpList_append_strs rfl (.tmp 21) (.tmp 27) 52 rfl Tryz.underlying52 (w.heap.size + 1) w6 va n vc _ [numT a2 0] rfl Hown6.out rfl rfl (by simp; omega) (by omega) ?_)
          intro va2 vc2 w7 hown7 hb7 hk7 hs7
          have hbd7 := (hk7 w.heap.size (by omega)).trans Hbd6.out
          have hw7 := hb7 w.heap.size w (by omega) Hw6.out
          have hacn := HC2.out
          rw [if_neg HKz.out, Hdg.out] at hacn
          have hrel7 : TxRel nm ks a0 a1 a2 a3 a4 rel tg wt w (.slice va2 (n + 1) vc2) 3 w7 := ⟨va2, n + 1, vc2, rfl, by rw [hacn, ← List.cons_append, List.length_append, ← Hn.out]; rfl, by rw [hacn, ← List.cons_append]; exact hown7, hbd7, hw7, by omega⟩
          have Hrel7 := Lib.hid hrel7; clear hown7 hb7 hk7 hbd7 hw7 hacn hrel7
          go_wp2_with fail
          go_roundw
          case rel => exact ⟨3, by omega, rfl, Hrel7.out⟩
          case measure => simp [intOf]
        · rw [hdec] at hdgt r2
          have Hdg := Lib.hid hdgt; clear hdgt hdec
          go_wp2_with fail
          refine (decText_any a2 6 _ (by omega) (by omega) (by omega) Hgw5.out).mono ?_
          rintro e w6 ⟨rfl, hb6⟩
          have Hbd6 := Lib.hid ((hb6.block w.heap.size (by omega)).trans Hbd5.out); have Hown6 := Lib.hid (ownsRow_below Hown5.out hb6); have Hw6 := Lib.hid (Hw5.out.trans (hb6.mono Hw5.out.size)); have hs6 := hb6.size
          clear hb6 Hbd5 Hown5 Hgw5 hax
          go_wp2_with (refine wpList_append_strs rfl (.tmp 46) (.tmp 48) 52 rfl Tryz.underlying52 (w.heap.size + 1) w6 va n vc _ [numT a2 6] rfl Hown6.out rfl rfl (by simp; omega) (by omega) ?_)
          intro va2 vc2 w7 hown7 hb7 hk7 hs7
          have hbd7 := (hk7 w.heap.size (by omega)).trans Hbd6.out
          have hw7 := hb7 w.heap.size w (by omega) Hw6.out
          have hacn := HC2.out
          rw [if_neg HKz.out, Hdg.out] at hacn
          have hrel7 : TxRel nm ks a0 a1 a2 a3 a4 rel tg wt w (.slice va2 (n + 1) vc2) 3 w7 := ⟨va2, n + 1, vc2, rfl, by rw [hacn, ← List.cons_append, List.length_append, ← Hn.out]; rfl, by rw [hacn, ← List.cons_append]; exact hown7, hbd7, hw7, by omega⟩
          have Hrel7 := Lib.hid hrel7; clear hown7 hb7 hk7 hbd7 hw7 hacn hrel7
          go_wp2_with fail
          go_roundw
          case rel => exact ⟨3, by omega, rfl, Hrel7.out⟩
          case measure => simp [intOf]
    · have hix := fun w => (index_5 (k0 : Int) k1 k2 k3 k4 w).2.2.2.1
      by_cases hkz : k3 = 0
      · have hz0 : ((k3 : Int) == 0) = true := by simp [hkz]
        have hacn := HC3.out
        rw [if_pos hkz, List.append_nil] at hacn
        have hrel2 : TxRel nm ks a0 a1 a2 a3 a4 rel tg wt w (.slice va n vc) 4 wr := ⟨va, n, vc, rfl, by rw [hacn]; exact Hn.out, by rw [hacn]; exact Hown.out, Hb.out, Hbw.out, hsz⟩
        have Hrel2 := Lib.hid hrel2; clear hrel2 hacn hkz
        go_wp2_with fail
        go_roundw
        case rel => exact ⟨4, by omega, rfl, Hrel2.out⟩
        case measure => simp [intOf]
      · have hz0 : ((k3 : Int) == 0) = false := by simp; omega
        have HKz := Lib.hid hkz; clear hkz
        go_wp2_with fail
        refine (ranges_any _).mono ?_
        rintro e w5 ⟨b5, rfl, hb5, hb5s, hrg, hbb⟩
        obtain ⟨r0, r1, r2⟩ := hrg k3 hk3
        have hbd5 := (hbb.block w.heap.size hlt).trans Hb.out
        have hax : w5.cell? ⟨w.heap.size, 4, none⟩ = some (.int .i64 a3) := (obj_cell hbd5 4).trans rfl
        have Hbd5 := Lib.hid hbd5; have Hown5 := Lib.hid (ownsRow_below Hown.out hbb); have hw5 := Hbw.out.trans (hbb.mono Hbw.out.size); have hs5 := hbb.size
        have Hgw5 := Lib.hid (Hg.out.below hw5); have Hw5 := Lib.hid hw5
        have hdgt : digitsOf k3 = if (rangeOf k3).2.2 then 6 else 0 := rfl
        clear hbd5 hrg hbb r0 r1 hw5
        cases hdec : (rangeOf k3).2.2
        · rw [hdec] at hdgt r2
          have Hdg := Lib.hid hdgt; clear hdgt hdec
          go_wp2_with fail
          refine (itoa_any a3 _ (by omega) (by omega) Hgw5.out).mono ?_
          rintro e w6 ⟨rfl, hb6⟩
          rw [itoa_eq, ← numT_zero]
          have Hbd6 := Lib.hid ((hb6.block w.heap.size (by omega)).trans Hbd5.out); have Hown6 := Lib.hid (ownsRow_below Hown5.out hb6); have Hw6 := Lib.hid (Hw5.out.trans (hb6.mono Hw5.out.size)); have hs6 := hb6.size
          clear hb6 Hbd5 Hown5 Hgw5 hax
          go_wp2_with (refine wpList_append_strs rfl (.tmp 21) (.tmp 27) 52 rfl Tryz.underlying52 (w.heap.size + 1) w6 va n vc _ [numT a3 0] rfl Hown6.out rfl rfl (by simp; omega) (by omega) ?_)
          intro va2 vc2 w7 hown7 hb7 hk7 hs7
          have hbd7 := (hk7 w.heap.size (by omega)).trans Hbd6.out
          have hw7 := hb7 w.heap.size w (by omega) Hw6.out
          have hacn := HC3.out
          rw [if_neg HKz.out, Hdg.out] at hacn
          have hrel7 : TxRel nm ks a0 a1 a2 a3 a4 rel tg wt w (.slice va2 (n + 1) vc2) 4 w7 := ⟨va2, n + 1, vc2, rfl, by rw [hacn, ← List.cons_append, List.length_append, ← Hn.out]; rfl, by rw [hacn, ← List.cons_append]; exact hown7, hbd7, hw7, by omega⟩
          have Hrel7 := Lib.hid hrel7; clear hown7 hb7 hk7 hbd7 hw7 hacn hrel7
          go_wp2_with fail
          go_roundw
          case rel => exact ⟨4, by omega, rfl, Hrel7.out⟩
          case measure => simp [intOf]
        · rw [hdec] at hdgt r2
          have Hdg := Lib.hid hdgt; clear hdgt hdec
          go_wp2_with fail
          refine (decText_any a3 6 _ (by omega) (by omega) (by omega) Hgw5.out).mono ?_
          rintro e w6 ⟨rfl, hb6⟩
          have Hbd6 := Lib.hid ((hb6.block w.heap.size (by omega)).trans Hbd5.out); have Hown6 := Lib.hid (ownsRow_below Hown5.out hb6); have Hw6 := Lib.hid (Hw5.out.trans (hb6.mono Hw5.out.size)); have hs6 := hb6.size
          clear hb6 Hbd5 Hown5 Hgw5 hax
          go_wp2_with (refine wpList_append_strs rfl (.tmp 46) (.tmp 48) 52 rfl Tryz.underlying52 (w.heap.size + 1) w6 va n vc _ [numT a3 6] rfl Hown6.out rfl rfl (by simp; omega) (by omega) ?_)
          intro va2 vc2 w7 hown7 hb7 hk7 hs7
          have hbd7 := (hk7 w.heap.size (by omega)).trans Hbd6.out
          have hw7 := hb7 w.heap.size w (by omega) Hw6.out
          have hacn := HC3.out
          rw [if_neg HKz.out, Hdg.out] at hacn
          have hrel7 : TxRel nm ks a0 a1 a2 a3 a4 rel tg wt w (.slice va2 (n + 1) vc2) 4 w7 := ⟨va2, n + 1, vc2, rfl, by rw [hacn, ← List.cons_append, List.length_append, ← Hn.out]; rfl, by rw [hacn, ← List.cons_append]; exact hown7, hbd7, hw7, by omega⟩
          have Hrel7 := Lib.hid hrel7; clear hown7 hb7 hk7 hbd7 hw7 hacn hrel7
          go_wp2_with fail
          go_roundw
          case rel => exact ⟨4, by omega, rfl, Hrel7.out⟩
          case measure => simp [intOf]
    · have hix := fun w => (index_5 (k0 : Int) k1 k2 k3 k4 w).2.2.2.2
      by_cases hkz : k4 = 0
      · have hz0 : ((k4 : Int) == 0) = true := by simp [hkz]
        have hacn := HC4.out
        rw [if_pos hkz, List.append_nil] at hacn
        have hrel2 : TxRel nm ks a0 a1 a2 a3 a4 rel tg wt w (.slice va n vc) 5 wr := ⟨va, n, vc, rfl, by rw [hacn]; exact Hn.out, by rw [hacn]; exact Hown.out, Hb.out, Hbw.out, hsz⟩
        have Hrel2 := Lib.hid hrel2; clear hrel2 hacn hkz
        go_wp2_with fail
        go_roundw
        case rel => exact ⟨5, by omega, rfl, Hrel2.out⟩
        case measure => simp [intOf]
      · have hz0 : ((k4 : Int) == 0) = false := by simp; omega
        have HKz := Lib.hid hkz; clear hkz
        go_wp2_with fail
        refine (ranges_any _).mono ?_
        rintro e w5 ⟨b5, rfl, hb5, hb5s, hrg, hbb⟩
        obtain ⟨r0, r1, r2⟩ := hrg k4 hk4
        have hbd5 := (hbb.block w.heap.size hlt).trans Hb.out
        have hax : w5.cell? ⟨w.heap.size, 5, none⟩ = some (.int .i64 a4) := (obj_cell hbd5 5).trans rfl
        have Hbd5 := Lib.hid hbd5; have Hown5 := Lib.hid (ownsRow_below Hown.out hbb); have hw5 := Hbw.out.trans (hbb.mono Hbw.out.size); have hs5 := hbb.size
        have Hgw5 := Lib.hid (Hg.out.below hw5); have Hw5 := Lib.hid hw5
        have hdgt : digitsOf k4 = if (rangeOf k4).2.2 then 6 else 0 := rfl
        clear hbd5 hrg hbb r0 r1 hw5
        cases hdec : (rangeOf k4).2.2
        · rw [hdec] at hdgt r2
          have Hdg := Lib.hid hdgt; clear hdgt hdec
          go_wp2_with fail
          refine (itoa_any a4 _ (by omega) (by omega) Hgw5.out).mono ?_
          rintro e w6 ⟨rfl, hb6⟩
          rw [itoa_eq, ← numT_zero]
          have Hbd6 := Lib.hid ((hb6.block w.heap.size (by omega)).trans Hbd5.out); have Hown6 := Lib.hid (ownsRow_below Hown5.out hb6); have Hw6 := Lib.hid (Hw5.out.trans (hb6.mono Hw5.out.size)); have hs6 := hb6.size
          clear hb6 Hbd5 Hown5 Hgw5 hax
          go_wp2_with (refine wpList_append_strs rfl (.tmp 21) (.tmp 27) 52 rfl Tryz.underlying52 (w.heap.size + 1) w6 va n vc _ [numT a4 0] rfl Hown6.out rfl rfl (by simp; omega) (by omega) ?_)
          intro va2 vc2 w7 hown7 hb7 hk7 hs7
          have hbd7 := (hk7 w.heap.size (by omega)).trans Hbd6.out
          have hw7 := hb7 w.heap.size w (by omega) Hw6.out
          have hacn := HC4.out
          rw [if_neg HKz.out, Hdg.out] at hacn
          have hrel7 : TxRel nm ks a0 a1 a2 a3 a4 rel tg wt w (.slice va2 (n + 1) vc2) 5 w7 := ⟨va2, n + 1, vc2, rfl, by rw [hacn, ← List.cons_append, List.length_append, ← Hn.out]; rfl, by rw [hacn, ← List.cons_append]; exact hown7, hbd7, hw7, by omega⟩
          have Hrel7 := Lib.hid hrel7; clear hown7 hb7 hk7 hbd7 hw7 hacn hrel7
          go_wp2_with fail
          go_roundw
          case rel => exact ⟨5, by omega, rfl, Hrel7.out⟩
          case measure => simp [intOf]
        · rw [hdec] at hdgt r2
          have Hdg := Lib.hid hdgt; clear hdgt hdec
          go_wp2_with fail
          refine (decText_any a4 6 _ (by omega) (by omega) (by omega) Hgw5.out).mono ?_
          rintro e w6 ⟨rfl, hb6⟩
          have Hbd6 := Lib.hid ((hb6.block w.heap.size (by omega)).trans Hbd5.out); have Hown6 := Lib.hid (ownsRow_below Hown5.out hb6); have Hw6 := Lib.hid (Hw5.out.trans (hb6.mono Hw5.out.size)); have hs6 := hb6.size
          clear hb6 Hbd5 Hown5 Hgw5 hax
          go_wp2_with (refine wpList_append_strs rfl (.tmp 46) (.tmp 48) 52 rfl Tryz.underlying52 (w.heap.size + 1) w6 va n vc _ [numT a4 6] rfl Hown6.out rfl rfl (by simp; omega) (by omega) ?_)
          intro va2 vc2 w7 hown7 hb7 hk7 hs7
          have hbd7 := (hk7 w.heap.size (by omega)).trans Hbd6.out
          have hw7 := hb7 w.heap.size w (by omega) Hw6.out
          have hacn := HC4.out
          rw [if_neg HKz.out, Hdg.out] at hacn
          have hrel7 : TxRel nm ks a0 a1 a2 a3 a4 rel tg wt w (.slice va2 (n + 1) vc2) 5 w7 := ⟨va2, n + 1, vc2, rfl, by rw [hacn, ← List.cons_append, List.length_append, ← Hn.out]; rfl, by rw [hacn, ← List.cons_append]; exact hown7, hbd7, hw7, by omega⟩
          have Hrel7 := Lib.hid hrel7; clear hown7 hb7 hk7 hbd7 hw7 hacn hrel7
          go_wp2_with fail
          go_roundw
          case rel => exact ⟨5, by omega, rfl, Hrel7.out⟩
          case measure => simp [intOf]
    · rw [show ((5 : Nat) : Int) = 5 from rfl]
      have htl : wr.cell? ⟨w.heap.size, 7, none⟩ = some (.int .i64 tg) := (obj_cell Hb.out 7).trans rfl
      have Hgr := Lib.hid (Hg.out.below Hbw.out)
      go_wp2_with fail
      refine (decText_any tg 6 _ (by omega) (by omega) (by omega) Hgr.out).mono ?_
      rintro e w5 ⟨rfl, hb5⟩
      have hbd5 := (hb5.block w.heap.size hlt).trans Hb.out
      have hrl : w5.cell? ⟨w.heap.size, 6, none⟩ = some (.int .i64 rel) := (obj_cell hbd5 6).trans rfl
      have Hbd5 := Lib.hid hbd5; have Hown5 := Lib.hid (ownsRow_below Hown.out hb5); have Hw5 := Lib.hid (Hbw.out.trans (hb5.mono Hbw.out.size)); have hs5 := hb5.size
      clear hbd5 hb5 htl Hb Hown Hbw Hgr HC0 HC1 HC2 HC3 HC4
      have hl5 : ∀ y ∈ wacc ks [a0, a1, a2, a3, a4] 5, y.length ≤ 1000 := wacc_small hb0 hb1 hb2 hb3 hb4 5
      have Hl5 := Lib.hid hl5; clear hl5
      rcases hrel with rfl | rfl | rfl
      · have hlt5 : w.heap.size < w5.heap.size := by omega
        go_wp2_with (refine wpList_append_strs rfl (.tmp 57) (.tmp 65) 52 rfl Tryz.underlying52 (w.heap.size + 1) w5 va n vc _ [relT 1, numT tg 6] rfl Hown5.out rfl rfl (by simp; omega) (by omega) ?_)
        intro va2 vc2 w7 hown7 hb7 hk7 hs7
        have hbd7 := (hk7 w.heap.size (by omega)).trans Hbd5.out
        have hw7 := hb7 w.heap.size w (by omega) Hw5.out
        have hrl7 : w7.cell? ⟨w.heap.size, 6, none⟩ = some (.int .i64 1) := (obj_cell hbd7 6).trans rfl
        have hwt7 : w7.cell? ⟨w.heap.size, 8, none⟩ = some (.int .i64 wt) := (obj_cell hbd7 8).trans rfl
        have Hown7 := Lib.hid hown7; have Hw7 := Lib.hid hw7; have Hgw7 := Lib.hid (Hg.out.below hw7)
        clear hb7 hk7 hbd7 hown7 hw7 hrl Hbd5 Hown5 Hw5
        go_wp2_with fail
        refine (itoa_any wt _ (by omega) (by omega) Hgw7.out).mono ?_
        rintro e w8 ⟨rfl, hb8⟩
        rw [itoa_eq, ← numT_zero]
        have Hown8 := Lib.hid (ownsRow_below Hown7.out hb8); have Hw8 := Lib.hid (Hw7.out.trans (hb8.mono Hw7.out.size)); have hs8 := hb8.size
        clear hb8 Hown7 Hgw7 Hw7 hrl7 hwt7
        go_wp2_with (refine wpList_append_strs rfl (.tmp 70) (.tmp 74) 52 rfl Tryz.underlying52 (w.heap.size + 1) w8 va2 (n + 2) vc2 _ [numT wt 0] rfl Hown8.out rfl rfl (by simp; omega) (by omega) ?_)
        intro va3 vc3 w9 hown9 hb9 hk9 hs9
        have hw9 := hb9 w.heap.size w (by omega) Hw8.out
        have Hown9 := Lib.hid hown9; have Hw9 := Lib.hid hw9
        clear hb9 hk9 hown9 hw9 Hown8 Hw8
        go_wp2_with fail
        refine (joined_any Hown9.out (by simp) (by simp; have := wacc_len ks [a0, a1, a2, a3, a4] 5; omega) ?_).mono ?_
        · intro y hy
          simp only [List.mem_append, List.mem_cons, List.not_mem_nil, or_false] at hy
          rcases hy with rfl | hy | rfl | rfl | rfl
          · omega
          · exact Hl5.out y hy
          · exact Nat.le_trans (relT_len _) (by omega)
          · exact Nat.le_trans (numT_len (by omega) (by omega) (by omega)) (by omega)
          · exact Nat.le_trans (numT_len (by omega) (by omega) (by omega)) (by omega)
        rintro e w10 ⟨rfl, hb10⟩
        go_wp2_with fail
        go_ret
        refine ⟨?_, Hw9.out.trans (hb10.mono Hw9.out.size)⟩
        rw [Hline.out]
        simp [relT]
      · have hlt5 : w.heap.size < w5.heap.size := by omega
        go_wp2_with (refine wpList_append_strs rfl (.tmp 57) (.tmp 65) 52 rfl Tryz.underlying52 (w.heap.size + 1) w5 va n vc _ [relT 2, numT tg 6] rfl Hown5.out rfl rfl (by simp; omega) (by omega) ?_)
        intro va2 vc2 w7 hown7 hb7 hk7 hs7
        have hbd7 := (hk7 w.heap.size (by omega)).trans Hbd5.out
        have hw7 := hb7 w.heap.size w (by omega) Hw5.out
        have hrl7 : w7.cell? ⟨w.heap.size, 6, none⟩ = some (.int .i64 2) := (obj_cell hbd7 6).trans rfl
        have hwt7 : w7.cell? ⟨w.heap.size, 8, none⟩ = some (.int .i64 wt) := (obj_cell hbd7 8).trans rfl
        have Hown7 := Lib.hid hown7; have Hw7 := Lib.hid hw7; have Hgw7 := Lib.hid (Hg.out.below hw7)
        clear hb7 hk7 hbd7 hown7 hw7 hrl Hbd5 Hown5 Hw5
        go_wp2_with fail
        refine (joined_any Hown7.out (by simp) (by simp; have := wacc_len ks [a0, a1, a2, a3, a4] 5; omega) ?_).mono ?_
        · intro y hy
          simp only [List.mem_append, List.mem_cons, List.not_mem_nil, or_false] at hy
          rcases hy with rfl | hy | rfl | rfl
          · omega
          · exact Hl5.out y hy
          · exact Nat.le_trans (relT_len _) (by omega)
          · exact Nat.le_trans (numT_len (by omega) (by omega) (by omega)) (by omega)
        rintro e w10 ⟨rfl, hb10⟩
        go_wp2_with fail
        go_ret
        refine ⟨?_, Hw7.out.trans (hb10.mono Hw7.out.size)⟩
        rw [Hline.out]
        simp [relT]
      · have hlt5 : w.heap.size < w5.heap.size := by omega
        go_wp2_with (refine wpList_append_strs rfl (.tmp 57) (.tmp 65) 52 rfl Tryz.underlying52 (w.heap.size + 1) w5 va n vc _ [relT 3, numT tg 6] rfl Hown5.out rfl rfl (by simp; omega) (by omega) ?_)
        intro va2 vc2 w7 hown7 hb7 hk7 hs7
        have hbd7 := (hk7 w.heap.size (by omega)).trans Hbd5.out
        have hw7 := hb7 w.heap.size w (by omega) Hw5.out
        have hrl7 : w7.cell? ⟨w.heap.size, 6, none⟩ = some (.int .i64 3) := (obj_cell hbd7 6).trans rfl
        have hwt7 : w7.cell? ⟨w.heap.size, 8, none⟩ = some (.int .i64 wt) := (obj_cell hbd7 8).trans rfl
        have Hown7 := Lib.hid hown7; have Hw7 := Lib.hid hw7; have Hgw7 := Lib.hid (Hg.out.below hw7)
        clear hb7 hk7 hbd7 hown7 hw7 hrl Hbd5 Hown5 Hw5
        go_wp2_with fail
        refine (joined_any Hown7.out (by simp) (by simp; have := wacc_len ks [a0, a1, a2, a3, a4] 5; omega) ?_).mono ?_
        · intro y hy
          simp only [List.mem_append, List.mem_cons, List.not_mem_nil, or_false] at hy
          rcases hy with rfl | hy | rfl | rfl
          · omega
          · exact Hl5.out y hy
          · exact Nat.le_trans (relT_len _) (by omega)
          · exact Nat.le_trans (numT_len (by omega) (by omega) (by omega)) (by omega)
        rintro e w10 ⟨rfl, hb10⟩
        go_wp2_with fail
        go_ret
        refine ⟨?_, Hw7.out.trans (hb10.mono Hw7.out.size)⟩
        rw [Hline.out]
        simp [relT]
end Go.Proofs.YtpicmhbjiaegpaaGreatDoor
