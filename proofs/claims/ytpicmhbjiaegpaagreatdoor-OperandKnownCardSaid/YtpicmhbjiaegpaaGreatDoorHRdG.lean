/-
  DERIVED. The walk of the reference's Parse of chapter 5.
-/
import Derived.Test.YtpicmhbjiaegpaaGreatDoorGad
import Derived.Lib.SlBytesConst
namespace Go.Proofs.YtpicmhbjiaegpaaGreatDoor
open Go.RowKit

def PsRel (l : List UInt8) (w : World) (tv pv bv : Value) (wr : World) : Prop :=
  ∃ (va : Option Addr) (n vc : Nat), tv = .slice va n vc ∧ n = (dsOf l).length ∧ wr.ownsRow w.heap.size 5 1 (.slice va n vc) n (Lib.byteCells (dsOf l)) ∧ pv = .int .i64 ((placesR false l : Nat) : Int) ∧ bv = .bool (has46 l) ∧ Below w.heap.size w wr

theorem take_snoc (s : ByteArray) (k : Nat) (h : k < s.size) : s.data.toList.take (k + 1) = s.data.toList.take k ++ [s[k]] := by
  rw [List.take_succ_eq_append_getElem (by simpa using h)]; rfl
theorem placesR_le (l : List UInt8) (h : Bool) : placesR h l ≤ l.length := by
  induction l generalizing h with
  | nil => exact Nat.le_refl _
  | cons b l ih =>
    rw [placesR, List.length_cons]
    have := ih (h || b == 46)
    split <;> omega

/-- the digits that are read, at least one -/
def DsCut (l : List UInt8) (w : World) (tv : Value) (wx : World) : Prop :=
  ∃ b n c, tv = .slice (some ⟨b, 0, none⟩) n c ∧ n = (rdOf l).length ∧ n ≤ 5000 ∧ b < wx.heap.size ∧ (∀ j, j < n → wx.cell? ⟨b, j, none⟩ = some (.int .u8 ((rdOf l).getD j 0).toNat)) ∧ Below w.heap.size w wx
theorem LV.of_new {w1 w : World} {g : Nat} {z : Int} (h : LV w g z) (hb : Below w.heap.size w w1) : LV w1 g z := h.below hb
theorem valD_take {l : List UInt8} {i : Nat} (h : i < l.length) : valD 0 (l.take (i + 1)) = 10 * valD 0 (l.take i) + ((l.getD i 0).toNat - 48) := by
  rw [List.take_succ_eq_append_getElem h, valD_append, valD_cons, valD_nil, List.getD_eq_getElem?_getD, List.getElem?_eq_getElem h]; rfl
def RetPar (w : World) (l : List UInt8) (d : Nat) (en : Ending) (w' : World) : Prop := en = .returned (.tuple #[.int .i64 (parN l d), .int .i64 (parE l d)]) ∧ Below w.heap.size w w'

set_option maxRecDepth 100000 in
set_option maxHeartbeats 3200000 in
theorem refParse_any (s : ByteArray) (d : Nat) (w : World) (hs : s.size ≤ 5000) (hd : d ≤ 18) :
    Calls Tryz.prog 80 #[.string s, .int .i64 (d : Int)] w (RetPar w s.data.toList d) := by
  have hd1 : ¬ (d : Int) < 0 := by omega
  have hd2 : ¬ 18 < (d : Int) := by omega
  go_enter Tryz.func80, Tryz.ntmps80
  go_wp2_with fail
  go_loopw [6, 7, 8, 9] (fun tv pv bv iv wr => ∃ k : Nat, k ≤ s.size ∧ iv = .int .i64 k ∧ PsRel (s.data.toList.take k) w tv pv bv wr) (fun _ _ _ iv _ => s.size - (intOf iv).toNat)
  case atStart => exact ⟨0, Nat.zero_le _, rfl, none, 0, 0, rfl, rfl, World.ownsRow_nil _ _ _ _, rfl, rfl, Below.refl _ _⟩
  case round =>
    obtain ⟨k, hk, rfl, va, n, vc, rfl, hn, hown, rfl, rfl, hbw⟩ := hrel
    by_cases hlt : k < s.size
    · have hts := take_snoc s k hlt
      have hpl := placesR_snoc (s.data.toList.take k) false s[k]
      have h46 := has46_snoc (s.data.toList.take k) s[k]
      have hnk : n ≤ k := by rw [hn]; exact Nat.le_trans (ds_len _) (by rw [List.length_take]; omega)
      have hplk : placesR false (s.data.toList.take k) ≤ k := Nat.le_trans (placesR_le _ _) (by rw [List.length_take]; omega)
      rw [Bool.false_or] at hpl
      rw [← hts] at hpl h46
      have Hown := Lib.hid hown; have Hts := Lib.hid hts; have Hpl := Lib.hid hpl; have H46 := Lib.hid h46; have Hn := Lib.hid hn
      clear hown hts hpl h46 hn
      generalize hL : s.data.toList.take k = L at *
      generalize hP : placesR false L = p at *
      have HL := Lib.hid hL; have HP := Lib.hid hP; clear hL hP
      have hby : s[k].toNat < 256 := s[k].toNat_lt
      by_cases hdg : isD s[k] = true
      · have hdg2 := of_decide_eq_true hdg
        have h48 : 48 ≤ (s[k].toNat : Int) := by omega
        have h57 : (s[k].toNat : Int) ≤ 57 := by omega
        have h46' : ((s[k].toNat : Int) == 46) = false := by simp; omega
        have Hdg := Lib.hid hdg; clear hdg hdg2
        have hstep : ∀ tv' va' n' vc' (wr' : World), tv' = .slice va' n' vc' → n' = (dsOf (s.data.toList.take (k + 1))).length → wr'.ownsRow w.heap.size 5 1 (.slice va' n' vc') n' (Lib.byteCells (dsOf (s.data.toList.take (k + 1)))) → Below w.heap.size w wr' →
            PsRel (s.data.toList.take (k + 1)) w tv' (.int .i64 ((p : Int) + (if has46 L then 1 else 0))) (.bool (has46 L)) wr' := by
          intro tv' va' n' vc' wr' e1 e2 e3 e4
          refine ⟨va', n', vc', e1, e2, e3, ?_, ?_, e4⟩
          · rw [Hpl.out, Hdg.out, Bool.true_and]
            cases has46 L <;> simp
          · rw [H46.out]
            have : (s[k] == 46) = false := not46 Hdg.out
            rw [this, Bool.or_false]
        have Hstep := Lib.hid hstep; clear hstep
        have hways : (0 < n ∨ (n = 0 ∧ ((s[k].toNat : Int) != 48) = true)) ∨ (n = 0 ∧ ((s[k].toNat : Int) != 48) = false) := by
          by_cases h0 : n = 0
          · by_cases hz : (s[k].toNat : Int) = 48
            · exact Or.inr ⟨h0, by simp [hz]⟩
            · exact Or.inl (Or.inr ⟨h0, by simpa using hz⟩)
          · exact Or.inl (Or.inl (by omega))
        rcases hways with hw | ⟨hn0, hz⟩
        · have hds : dsOf (s.data.toList.take (k + 1)) = dsOf L ++ [s[k]] := by
            rw [Hts.out]
            refine ds_yes Hdg.out ?_
            rcases hw with hw | ⟨_, hz⟩
            · exact Or.inl fun e => by have := Hn.out; rw [e] at this; simp at this; omega
            · exact Or.inr fun e => by rw [e] at hz; cases hz
          have Hds := Lib.hid hds; clear hds
          have hb1 : 0 < n ∨ (n = 0 ∧ ((s[k].toNat : Int) != 48) = true) := hw
          clear hw
          cases h46 : has46 L
          all_goals
            rw [h46] at Hstep
            have Hh := Lib.hid h46; clear h46
            rcases hb1 with hn0 | ⟨rfl, hz⟩
          all_goals
            go_wp2_with (refine wpList_append_byte rfl (.tmp 44) (.tmp 48) 60 rfl Tryz.underlying60 w.heap.size wr va _ vc _ _ s[k] rfl Hown.out rfl rfl rfl (by omega) hbw.size ?_)
            intro va2 vc2 w2 hown2 hb2 hk2 hs2
            have Hb2 := Lib.hid (hb2 w.heap.size w (Nat.le_refl _) hbw)
            have Hown2 := Lib.hid hown2; clear hown2 hb2 hk2
            go_wp2_with fail
            go_roundw
            case rel => exact ⟨k + 1, by omega, by go_num, by simpa using Hstep.out _ va2 _ vc2 _ rfl (by rw [Hds.out, List.length_append, ← Hn.out]; rfl) (by rw [Hds.out]; exact Hown2.out) Hb2.out⟩
            case measure => simp [intOf]; omega
        · subst hn0
          have hds0 : dsOf L = [] := List.length_eq_zero_iff.1 Hn.out.symm
          have hb48 : s[k] = 48 := by
            have h1 : (s[k].toNat : Int) = 48 := by simpa using hz
            exact UInt8.toNat_inj.1 (by show s[k].toNat = 48; omega)
          have hds : dsOf (s.data.toList.take (k + 1)) = [] := by rw [Hts.out, hb48]; exact ds_zero hds0
          have Hds := Lib.hid hds; have Hds0 := Lib.hid hds0
          clear hds hb48 hds0
          cases h46 : has46 L
          all_goals
            rw [h46] at Hstep
            have Hh := Lib.hid h46; clear h46
            go_wp2_with fail
            go_roundw
            case rel => exact ⟨k + 1, by omega, by go_num, by simpa using Hstep.out _ va 0 vc _ rfl (by rw [Hds.out]; rfl) (by rw [Hds.out, ← Hds0.out]; exact Hown.out) hbw⟩
            case measure => simp [intOf]; omega
      · have hdf : isD s[k] = false := by simpa using hdg
        have hds := ds_no (l := L) hdf
        rw [← Hts.out] at hds
        have hstep : PsRel (s.data.toList.take (k + 1)) w (.slice va n vc) (.int .i64 (p : Int)) (.bool (has46 L || s[k] == 46)) wr := by
          refine ⟨va, n, vc, rfl, by rw [hds]; exact Hn.out, by rw [hds]; exact Hown.out, ?_, by rw [H46.out], hbw⟩
          rw [Hpl.out, hdf]; rfl
        have Hstep := Lib.hid hstep; clear hstep hds hdg
        have hq : ¬ (48 ≤ s[k].toNat ∧ s[k].toNat ≤ 57) := of_decide_eq_false hdf
        clear hdf
        by_cases hdot : s[k].toNat = 46
        · have hb46 : s[k] = 46 := UInt8.toNat_inj.1 (by show s[k].toNat = 46; omega)
          have hi : ((s[k].toNat : Int) == 46) = true := by simp; omega
          have h48 : (s[k].toNat : Int) < 48 := by omega
          have e46 : (s[k] == 46) = true := by rw [hb46]; rfl
          rw [e46] at Hstep
          clear hb46 e46 hdot hq
          go_wp2_with fail
          go_roundw
          case rel => exact ⟨k + 1, by omega, by go_num, by simpa using Hstep.out⟩
          case measure => simp [intOf]; omega
        · have e46 : (s[k] == 46) = false := by
            rw [beq_eq_false_iff_ne]; intro e; exact hdot (by rw [e]; rfl)
          have hi : ((s[k].toNat : Int) == 46) = false := by simp; omega
          rw [e46] at Hstep
          clear e46 hdot
          by_cases h48 : 48 ≤ s[k].toNat
          · have h48' : 48 ≤ (s[k].toNat : Int) := by omega
            have h57 : ¬ (s[k].toNat : Int) ≤ 57 := by omega
            clear hq h48
            go_wp2_with fail
            go_roundw
            case rel => exact ⟨k + 1, by omega, by go_num, by simpa using Hstep.out⟩
            case measure => simp [intOf]; omega
          · have h48' : (s[k].toNat : Int) < 48 := by omega
            clear hq h48
            go_wp2_with fail
            go_roundw
            case rel => exact ⟨k + 1, by omega, by go_num, by simpa using Hstep.out⟩
            case measure => simp [intOf]; omega
    · obtain rfl : k = s.size := by omega
      have hL : s.data.toList.take s.size = s.data.toList := List.take_of_length_le (by simp)
      rw [hL] at hn hown
      rw [hL]
      clear hL
      generalize hl : s.data.toList = l at *
      have hls : l.length = s.size := by rw [← hl]; rfl
      have hplk : placesR false l ≤ s.size := by rw [← hls]; exact placesR_le _ _
      have Hown := Lib.hid hown; have Hn := Lib.hid hn; have Hl := Lib.hid hl; have Hls := Lib.hid hls
      clear hown hn hl hls
      by_cases hpd : d < placesR false l
      · have hpr := par_places hpd
        have Hpr := Lib.hid hpr; clear hpr
        go_wp2_with fail
        go_ret2
        refine ⟨?_, hbw⟩
        rw [Hpr.out.1, Hpr.out.2]; rfl
      · go_upto_if 62 with fail
        go_cut [6] (fun tv wx => DsCut l w tv wx)
        case first =>
          by_cases hn0 : n = 0
          · subst hn0
            have hds0 : dsOf l = [] := List.length_eq_zero_iff.1 Hn.out.symm
            have hrd : rdOf l = [48] := by unfold rdOf; rw [if_pos hds0]
            have Hrd := Lib.hid hrd; clear hrd hds0
            have hnew : ∀ j, j < 1 → (wr.alloc (.cells #[.int .u8 48] 5 (1, 2))).cell? ⟨wr.heap.size, j, none⟩ = some (.int .u8 ((rdOf l).getD j 0).toNat) := by
              intro j hj
              obtain rfl : j = 0 := by omega
              have hh := heap_alloc_new wr (.cells #[.int .u8 48] 5 (1, 2))
              rw [Hrd.out]; simp only [World.cell?, hh]; rfl
            have Hnew := Lib.hid hnew; clear hnew
            have kc := fun (w : World) (C : Array Value) (n c : Nat) => Lib.run_convert_bytes_const (P := Tryz.prog) w 60 5 C n c Tryz.underlying60 Tryz.underlying5
            go_wp2_with fail
            go_meet
            exact ⟨wr.heap.size, 1, 1, rfl, by rw [Hrd.out]; rfl, by omega, by simp, Hnew.out, hbw.alloc hbw.size _⟩
          · have hni : ((n : Int) == 0) = false := by simp; omega
            have hrd : rdOf l = dsOf l := by unfold rdOf; rw [if_neg (fun e => hn0 (by rw [Hn.out, e]; rfl))]
            have Hrd := Lib.hid hrd; clear hrd
            obtain ⟨g, rfl, hg, -, -⟩ := owns_byte Hown.out (j := 0) (by rw [← Hn.out]; omega)
            have hgl : g < wr.heap.size := by
              rcases (owns_cells Hown.out).2 with ⟨e, _⟩ | ⟨g', cap, e, _, _, hc⟩
              · cases e
              · cases e; exact hc.lt
            have hall : ∀ j, j < n → wr.cell? ⟨g, j, none⟩ = some (.int .u8 ((rdOf l).getD j 0).toNat) := by
              intro j hj
              obtain ⟨g', e, _, hc, _⟩ := owns_byte Hown.out (j := j) (by rw [← Hn.out]; exact hj)
              cases e
              rw [hc, Hrd.out]
            have Hall := Lib.hid hall; clear hall
            have hnl : n ≤ 5000 := by have h1 := Hn.out; have h2 := ds_len l; have h3 := Hls.out; omega
            go_wp2_with fail
            go_meet
            exact ⟨g, n, vc, rfl, by rw [Hrd.out]; exact Hn.out, hnl, hgl, Hall.out, hbw⟩
        case rest =>
          obtain ⟨b, m, c, rfl, hm, hm5, hbl, hcells, hbx⟩ := hcut
          have Hm := Lib.hid hm; have Hcells := Lib.hid hcells; clear hm hcells Hown Hn hbw hlt hk
          go_wp2_with fail
          refine (refOf_any 0 _ (by omega)).mono ?_
          rintro e w1 ⟨s1, a1, n1, c1, rfl, hl1, hb1, -⟩
          have hw1 := hbx.trans (hb1.mono hbx.size)
          have hw2 := hw1.alloc hw1.size (.cells #[.bool s1, .slice a1 n1 c1] 148)
          have hcell1 : ∀ j, j < m → (w1.alloc (.cells #[.bool s1, .slice a1 n1 c1] 148)).cell? ⟨b, j, none⟩ = some (.int .u8 ((rdOf l).getD j 0).toNat) := fun j hj => by
            rw [World.cell?_alloc_lt _ _ _ (by show b < w1.heap.size; have := hb1.size; omega)]
            exact (hb1.cell (p := ⟨b, j, none⟩) hbl).trans (Hcells.out j hj)
          have Hv1 := Lib.hid (LV.new hl1); have Hw2 := Lib.hid hw2; have Hcell1 := Lib.hid hcell1; have Hbs := Lib.hid (show b < w1.heap.size by have := hb1.size; omega); have Hws := Lib.hid hw1.size
          clear hl1 hb1 hw1 hw2 hcell1 Hcells hbl hbx
          go_wp2_with fail
          go_loopw [11] (fun iv wr => ∃ i : Nat, i ≤ m ∧ iv = .int .i64 i ∧ LV wr w1.heap.size ((valD 0 ((rdOf l).take i) : Nat) : Int) ∧ (∀ j, j < m → wr.cell? ⟨b, j, none⟩ = some (.int .u8 ((rdOf l).getD j 0).toNat)) ∧ Below w.heap.size w wr) (fun iv _ => m - (intOf iv).toNat)
          case atStart => exact ⟨0, Nat.zero_le _, rfl, by rw [List.take_zero, valD_nil]; exact Hv1.out, Hcell1.out, Hw2.out⟩
          case round =>
            obtain ⟨i, hi, rfl, hv, hc, hwr⟩ := hrel
            have hgl := hv.lt
            obtain ⟨s6, a6, n6, c6, h61, h62⟩ := id hv
            obtain ⟨q1, q2, -, -⟩ := cells_at h61
            have H62 := Lib.hid h62; have Hv := Lib.hid hv; have Hc := Lib.hid hc; have Hwr := Lib.hid hwr
            clear h61 h62 hv hc hwr
            have hbs := Hbs.out
            by_cases him : i < m
            · have hci := Hc.out i him
              have hmem : (rdOf l).getD i 0 ∈ rdOf l := by
                rw [List.getD_eq_getElem?_getD, List.getElem?_eq_getElem (by rw [← Hm.out]; exact him)]
                exact List.getElem_mem _
              have hdg := of_decide_eq_true (isD_rd l _ hmem)
              have htk := valD_take (l := rdOf l) (i := i) (by rw [← Hm.out]; exact him)
              generalize hX : ((rdOf l).getD i 0).toNat = X at *
              have HX := Lib.hid hX; have Htk := Lib.hid htk; clear hX htk hmem
              go_wp2_with fail
              refine wp_region_eager 11 [(0, true), (3, true), (4, true), (5, true), (6, true), (7, true), (8, true), (1, false), (2, false), (9, false), (10, false)] (by kernel_rfl) (by kernel_rfl) ?_
              iterate 7
                refine wpOrd_yield (v := ?_) rfl (fun _ _ _ h => h) (by rfl) ?_ ?_
                rotate_left
                · intro x hx
                  have z1 := (hx.cell (p := ⟨w1.heap.size, 0, none⟩) hgl).trans q1
                  have z2 := (hx.cell (p := ⟨w1.heap.size, 1, none⟩) hgl).trans q2
                  have z3 := (hx.cell (p := ⟨b, i, none⟩) (by show b < wr.heap.size; omega)).trans hci
                  go_simp
                  with_reducible rfl
                try simp only [Act.put, List.setIfInBounds_toArray, List.set_cons_zero, List.set_cons_succ]
              have hVlt : valD 0 ((rdOf l).take i) < 10 ^ i := by
                have h1 := valD_small (l := (rdOf l).take i) (fun b hb => isD_rd l b (List.mem_of_mem_take hb))
                rw [List.length_take, ← Hm.out, Nat.min_eq_left (by omega)] at h1
                exact h1
              have hVlt2 : valD 0 ((rdOf l).take (i + 1)) < 10 ^ (i + 1) := by
                have h1 := valD_small (l := (rdOf l).take (i + 1)) (fun b hb => isD_rd l b (List.mem_of_mem_take hb))
                rw [List.length_take, ← Hm.out, Nat.min_eq_left (by omega)] at h1
                exact h1
              have hV10 : valD 0 ((rdOf l).take i) * 10 < 10 ^ (i + 1) := by rw [Nat.pow_succ]; omega
              have hfit1 := fit_pow hV10 (by omega)
              have hfit2 := fit_pow hVlt2 (by omega)
              have Hfit1 := Lib.hid hfit1; have Hfit2 := Lib.hid hfit2
              clear hVlt hVlt2 hV10 hfit1 hfit2
              generalize hV : valD 0 ((rdOf l).take i) = V at *
              have HV := Lib.hid hV; clear hV
              refine wpOrd_step rfl rfl (fun KK hKK => ?_)
              go_simp
              refine (refOf_any 10 _ (by omega)).mono ?_
              rintro e w4 ⟨s4, a4, n4, c4, rfl, hlg4, hb4, -⟩
              refine hKK _ _ hb4 ?_
              clear hKK KK
              try simp only [Act.put, List.setIfInBounds_toArray, List.set_cons_zero, List.set_cons_succ]
              have Hb4 := Lib.hid (below_undrew (k := 1) hb4); have Hlg4 := Lib.hid hlg4
              have Hl4 := Lib.hid (H62.out.go (below_undrew (k := 1) hb4))
              clear hb4 hlg4
              refine wpOrd_step rfl rfl (fun KK hKK => ?_)
              go_simp
              refine (prod_any s6 s4 (V : Int) (10 : Nat) a6 a4 n6 n4 c6 c4 _ Hl4.out Hlg4.out ?_).mono ?_
              · rw [← Int.natCast_mul, Int.natAbs_natCast]; exact Hfit1.out
              rintro e w5 ⟨s5, a5, n5, c5, rfl, hlg5, hb5, -⟩
              refine hKK _ _ hb5 ?_
              clear hKK KK
              try simp only [Act.put, List.setIfInBounds_toArray, List.set_cons_zero, List.set_cons_succ]
              have Hlg5 := Lib.hid hlg5; have Hb5 := Lib.hid (Hb4.out.trans (hb5.mono Hb4.out.size))
              clear hlg5 hb5
              refine wpOrd_step rfl rfl (fun KK hKK => ?_)
              go_simp
              have eX : IntKind.i64.wrap (IntKind.u8.wrap ((X : Int) - 48)) = ((X - 48 : Nat) : Int) := by
                rw [IntWalk.u8_in _ (by omega), IntWalk.i64_in _ (by omega)]; omega
              rw [eX]
              refine (refOf_any (X - 48) _ (by omega)).mono ?_
              rintro e w6 ⟨s7, a7, n7, c7, rfl, hlg7, hb7, -⟩
              refine hKK _ _ hb7 ?_
              clear hKK KK
              try simp only [Act.put, List.setIfInBounds_toArray, List.set_cons_zero, List.set_cons_succ]
              have Hlg6 := Lib.hid (Hlg5.out.go hb7); have Hb7 := Lib.hid (Hb5.out.trans (hb7.mono Hb5.out.size)); have Hlg7 := Lib.hid hlg7
              clear hb7 hlg7
              have hs5 : s5 = false := by rw [Hlg6.out.1, ← Int.natCast_mul]; exact natSign _
              have hs7 : s7 = false := by rw [Hlg7.out.1]; exact natSign _
              subst hs5 hs7
              refine wpOrd_step rfl rfl (fun KK hKK => ?_)
              go_simp
              refine (sum_any w6.heap.size false ((V : Int) * (10 : Nat)) ((X - 48 : Nat) : Int) a5 a7 n5 n7 c5 c7 _ Hlg6.out Hlg7.out (Nat.le_refl _) ?_).mono ?_
              · rw [← Int.natCast_mul, ← Int.natCast_add, Int.natAbs_natCast, Nat.mul_comm V 10, ← Htk.out]; exact Hfit2.out
              rintro e w7 ⟨s8, a8, n8, c8, rfl, hlg8, hb8, -⟩
              refine hKK _ _ hb8 ?_
              clear hKK KK
              try simp only [Act.put, List.setIfInBounds_toArray, List.set_cons_zero, List.set_cons_succ]
              have hbw7 : Below wr.heap.size wr w7 := Hb7.out.trans (hb8.mono Hb7.out.size)
              have hv7 := Hv.out.below hbw7
              have hw7 := Hwr.out.trans (hbw7.mono Hwr.out.size)
              have hc7 : ∀ j, j < m → w7.cell? ⟨b, j, none⟩ = some (.int .u8 ((rdOf l).getD j 0).toNat) := fun j hj => (hbw7.cell (p := ⟨b, j, none⟩) (by show b < wr.heap.size; omega)).trans (Hc.out j hj)
              obtain ⟨_, _, _, _, h7, _⟩ := id hv7
              obtain ⟨k1, k2, g1, g2⟩ := cells_at h7
              have hvs := hv7.store hlg8
              rw [← Int.natCast_mul, ← Int.natCast_add, Nat.mul_comm V 10, ← Htk.out] at hvs
              have hws := Hws.out
              have Hvs := Lib.hid hvs; have Hw7 := Lib.hid (LV.below_store hw7 (by omega : w.heap.size ≤ w1.heap.size) (.bool s8) (.slice a8 n8 c8)); have Hc7 := Lib.hid hc7
              clear q1 q2 hb8 hlg8 h7 hv7 hw7 hbw7 hc7 hvs eX hci
              refine wpOrd_nil rfl ?_
              go_wp2_with fail
              go_roundw
              case rel =>
                refine ⟨i + 1, by omega, by go_num, Hvs.out, fun j hj => ?_, Hw7.out⟩
                rw [World.cell?_setCell_other _ _ _ _ (by intro e; injection e with e; omega), World.cell?_setCell_other _ _ _ _ (by intro e; injection e with e; omega)]
                exact Hc7.out j hj
              case measure => simp [intOf]; omega
            · obtain rfl : i = m := by omega
              have hV : valD 0 ((rdOf l).take i) = valD 0 (l.filter isD) := by rw [List.take_of_length_le (by rw [← Hm.out]; exact Nat.le_refl _), valD_rd]
              have hVsm : valD 0 (l.filter isD) < 10 ^ kTop := by
                refine Nat.lt_of_lt_of_le (valD_small (fun b hb => (List.mem_filter.1 hb).2)) (Nat.pow_le_pow_right (by omega) ?_)
                have := kTop_eq
                have := List.length_filter_le isD l
                have := Hls.out
                omega
              have hnum : (numV l).natAbs < 10 ^ kTop := by unfold numV; split <;> simpa using hVsm
              have Hnum := Lib.hid hnum; clear hnum hVsm
              rw [hV] at Hv H62
              clear hV
              have hfl := Hwr.out
              have hsg2 := neg_at s
              rw [Hl.out] at hsg2
              have Hsg := Lib.hid hsg2; clear hsg2
              clear hfl
              go_upto_region 24 with fail
              go_cut [90] (fun v wx => v = .bool (unsign l).1 ∧ wx = wr)
              case first =>
                by_cases h0 : 0 < s.size
                · by_cases h45 : s[0].toNat = 45
                  · have hu : (unsign l).1 = true := Hsg.out.2 ⟨h0, h45⟩
                    have hi : ((s[0].toNat : Int) == 45) = true := by simp; omega
                    clear h45
                    go_wp2_with fail
                    go_meet
                    exact ⟨by rw [hu], rfl⟩
                  · have hu : (unsign l).1 = false := by
                      cases hq : (unsign l).1 with
                      | false => rfl
                      | true => exact absurd (Hsg.out.1 hq).2 h45
                    have hi : ((s[0].toNat : Int) == 45) = false := by simp; omega
                    clear h45
                    go_wp2_with fail
                    go_meet
                    exact ⟨by rw [hu], rfl⟩
                · have hu : (unsign l).1 = false := by
                    cases hq : (unsign l).1 with
                    | false => rfl
                    | true => exact absurd (Hsg.out.1 hq).1 h0
                  go_wp2_with fail
                  go_meet
                  exact ⟨by rw [hu], rfl⟩
              case rest =>
                obtain ⟨rfl, rfl⟩ := hcut
                have hnv : numV l = if (unsign l).1 then -((valD 0 (l.filter isD) : Nat) : Int) else ((valD 0 (l.filter isD) : Nat) : Int) := rfl
                have Hnv := Lib.hid hnv; clear hnv Hsg
                generalize hSG : (unsign l).1 = sg at *
                clear hSG
                go_upto_if 90 with fail
                go_cut [] (fun wx => LV wx w1.heap.size (numV l) ∧ Below w.heap.size w wx)
                case first =>
                  cases sg with
                  | false =>
                    go_wp2_with fail
                    go_meet
                    exact ⟨by rw [Hnv.out]; exact Hv.out, Hwr.out⟩
                  | true =>
                    go_wp2_with fail
                    refine (refMinus_any s6 _ a6 n6 c6 _ H62.out).mono ?_
                    rintro e w4 ⟨s4, a4, n4, c4, rfl, hlg4, hb4, -⟩
                    have hv4 := Hv.out.below hb4
                    obtain ⟨_, _, _, _, h4, _⟩ := id hv4
                    obtain ⟨k1, k2, g1, g2⟩ := cells_at h4
                    have hws := Hws.out
                    have Hv4 := Lib.hid (hv4.store hlg4); have Hw4 := Lib.hid (LV.below_store (Hwr.out.trans (hb4.mono Hwr.out.size)) (by omega : w.heap.size ≤ w1.heap.size) (.bool s4) (.slice a4 n4 c4))
                    clear hb4 hv4 h4 hlg4
                    go_wp2_with fail
                    go_meet
                    exact ⟨by rw [Hnv.out]; exact Hv4.out, Hw4.out⟩
                case rest =>
                  obtain ⟨hv, hwc⟩ := hcut
                  have hvl := hv.lt
                  obtain ⟨sz, az, nz, cz, hz1, hz2⟩ := id hv
                  obtain ⟨p1, p2, -, -⟩ := cells_at hz1
                  have Hv2 := Lib.hid hv; have Hwc := Lib.hid hwc; have Hz2 := Lib.hid hz2
                  clear hv hwc hz1 hz2 q1 q2 Hv H62 Hc Hcell1 Hwr Hw2 Hv1 him hi hgl
                  go_wp2_with fail
                  refine (refWritten_any (numV l) sz az nz cz (placesR false l) _ Hz2.out (by omega)).mono ?_
                  rintro e w5 ⟨rfl, hb5⟩
                  have Hv5 := Lib.hid (Hv2.out.below hb5); have Hw5 := Lib.hid (Hwc.out.trans (hb5.mono Hwc.out.size))
                  clear hb5 Hz2 Hv2 Hwc p1 p2
                  have hstl : s.toList = l := by rw [ByteArray.toList_eq]; exact Hl.out
                  have hpd2 : placesR false l ≤ d := by omega
                  by_cases htx : numT (numV l) (placesR false l) = l
                  · have hcmp : (numT (numV l) (placesR false l) == s.toList) = true := by rw [hstl, htx]; simp
                    have Hpok := Lib.hid (par_ok htx hpd2)
                    clear htx hstl
                    generalize hP : placesR false l = P at *
                    generalize hTT : numT (numV l) P = TT at *
                    have HP := Lib.hid hP; have HTT := Lib.hid hTT; clear hP hTT hpd
                    generalize hZ : numV l = Z at *
                    have HZ := Lib.hid hZ; clear hZ
                    go_wp2_with fail
                    go_loopw [12] (fun iv wr => ∃ i : Nat, P ≤ i ∧ i ≤ d ∧ iv = .int .i64 i ∧ LV wr w1.heap.size (Z * ((10 ^ (i - P) : Nat) : Int)) ∧ Below w.heap.size w wr) (fun iv _ => d - (intOf iv).toNat)
                    case atStart => exact ⟨P, Nat.le_refl _, hpd2, rfl, by rw [Nat.sub_self, Nat.pow_zero]; simpa using Hv5.out, Hw5.out⟩
                    case round =>
                      obtain ⟨i, hi1, hi2, rfl, hv, hwr⟩ := hrel
                      have hgl := hv.lt
                      obtain ⟨s6, a6, n6, c6, h61, h62⟩ := id hv
                      obtain ⟨q1, q2, -, -⟩ := cells_at h61
                      have H62 := Lib.hid h62; have Hv := Lib.hid hv; have Hwr := Lib.hid hwr
                      clear h61 h62 hv hwr
                      have hws := Hws.out
                      by_cases hid : i < d
                      · have hfit : (digs (Z * ((10 ^ (i - P) : Nat) : Int) * ((10 : Nat) : Int)).natAbs).length ≤ 600 := by
                          have h1 : (Z * ((10 ^ (i - P) : Nat) : Int) * ((10 : Nat) : Int)).natAbs = Z.natAbs * 10 ^ (i - P + 1) := by
                            rw [Int.natAbs_mul, Int.natAbs_mul, Int.natAbs_natCast, Int.natAbs_natCast, Nat.pow_succ, Nat.mul_assoc]
                          rw [h1]
                          have h2 : Z.natAbs * 10 ^ (i - P + 1) < 10 ^ (kTop + (i - P + 1)) := by
                            rw [Nat.pow_add 10 kTop]
                            exact Nat.mul_lt_mul_of_pos_right Hnum.out (Nat.pow_pos (n := i - P + 1) (by omega : 0 < 10))
                          have h3 := kTop_eq
                          exact fit_pow h2 (by omega)
                        have Hfit := Lib.hid hfit; clear hfit
                        have hstep : Z * ((10 ^ (i - P) : Nat) : Int) * ((10 : Nat) : Int) = Z * ((10 ^ (i + 1 - P) : Nat) : Int) := by
                          rw [Int.mul_assoc, ← Int.natCast_mul, ← Nat.pow_succ, show (i - P).succ = i + 1 - P by omega]
                        have Hstep := Lib.hid hstep; clear hstep
                        go_wp2_with fail
                        refine wp_region_eager 3 [(0, true), (1, false), (2, false)] (by kernel_rfl) (by kernel_rfl) ?_
                        refine wpOrd_yield (v := ?_) rfl (fun _ _ _ h => h) (by rfl) ?_ ?_
                        rotate_left
                        · intro x hx
                          have z1 := (hx.cell (p := ⟨w1.heap.size, 0, none⟩) hgl).trans q1
                          have z2 := (hx.cell (p := ⟨w1.heap.size, 1, none⟩) hgl).trans q2
                          go_simp
                          with_reducible rfl
                        try simp only [Act.put, List.setIfInBounds_toArray, List.set_cons_zero, List.set_cons_succ]
                        refine wpOrd_step rfl rfl (fun KK hKK => ?_)
                        go_simp
                        refine (refOf_any 10 _ (by omega)).mono ?_
                        rintro e w4 ⟨s4, a4, n4, c4, rfl, hlg4, hb4, -⟩
                        refine hKK _ _ hb4 ?_
                        clear hKK KK
                        try simp only [Act.put, List.setIfInBounds_toArray, List.set_cons_zero, List.set_cons_succ]
                        have Hb4 := Lib.hid (below_undrew (k := 1) hb4); have Hlg4 := Lib.hid hlg4
                        have Hl4 := Lib.hid (H62.out.go (below_undrew (k := 1) hb4))
                        clear hb4 hlg4
                        refine wpOrd_step rfl rfl (fun KK hKK => ?_)
                        go_simp
                        refine (prod_any s6 s4 (Z * ((10 ^ (i - P) : Nat) : Int)) ((10 : Nat) : Int) a6 a4 n6 n4 c6 c4 _ Hl4.out Hlg4.out Hfit.out).mono ?_
                        rintro e w5 ⟨s5, a5, n5, c5, rfl, hlg5, hb5, -⟩
                        refine hKK _ _ hb5 ?_
                        clear hKK KK
                        try simp only [Act.put, List.setIfInBounds_toArray, List.set_cons_zero, List.set_cons_succ]
                        have hb45 : Below wr.heap.size wr w5 := Hb4.out.trans (hb5.mono Hb4.out.size)
                        have hv5 := Hv.out.below hb45
                        have hw5 := Hwr.out.trans (hb45.mono Hwr.out.size)
                        obtain ⟨_, _, _, _, h5, _⟩ := id hv5
                        obtain ⟨k1, k2, g1, g2⟩ := cells_at h5
                        rw [Hstep.out] at hlg5
                        have Hvs := Lib.hid (hv5.store hlg5); have Hws5 := Lib.hid (LV.below_store hw5 (by omega : w.heap.size ≤ w1.heap.size) (.bool s5) (.slice a5 n5 c5))
                        clear q1 q2 hb5 hlg5 h5 hv5 hw5 hb45
                        refine wpOrd_nil rfl ?_
                        go_wp2_with fail
                        go_roundw
                        case rel => exact ⟨i + 1, by omega, by omega, by go_num, Hvs.out, Hws5.out⟩
                        case measure => simp [intOf]; omega
                      · obtain rfl : i = d := by omega
                        have hpw : ((10 ^ (i - P) : Nat) : Int) = 10 ^ (i - P) := by rw [Int.natCast_pow]; rfl
                        rw [hpw] at H62
                        clear hpw
                        have hl6 := H62.out.2.1.len
                        have Hl6 := Lib.hid hl6; clear hl6
                        by_cases hn6 : 4 < n6
                        · have hnf : fits (Z * 10 ^ (i - P)) = false := by
                            refine decide_eq_false ?_
                            have h1 := digs_ge (n := (Z * 10 ^ (i - P)).natAbs) (by rw [← Hl6.out]; omega)
                            rw [← Hl6.out] at h1
                            have h2 : (1000000000 : Nat) ^ 4 ≤ 1000000000 ^ (n6 - 1) := Nat.pow_le_pow_right (by omega) (by omega)
                            have h3 : (1000000000 : Nat) ^ 4 = 1000000000000000000000000000000000000 := rfl
                            omega
                          have Hnf := Lib.hid hnf; clear hnf
                          go_wp2_with fail
                          go_ret2
                          refine ⟨?_, Hwr.out⟩
                          rw [Hpok.out.1, Hpok.out.2, Hnf.out]; rfl
                        · clear hi1 hi2 hid
                          go_wp2_with fail
                          refine (refInt_any s6 _ a6 n6 c6 _ H62.out).mono ?_
                          rintro e w7 ⟨rfl, hb7⟩
                          have Hw7 := Lib.hid (Hwr.out.trans (hb7.mono Hwr.out.size)); clear hb7
                          have hp1 := Hpok.out.1; have hp2 := Hpok.out.2
                          rw [← hp1, ← hp2]
                          clear hp1 hp2
                          go_wp2_with fail
                          go_ret2
                          exact ⟨rfl, Hw7.out⟩
                  · have hcmp : (numT (numV l) (placesR false l) == s.toList) = false := by rw [hstl, beq_eq_false_iff_ne]; exact htx
                    have Hpar := Lib.hid (par_text (d := d) htx)
                    clear htx hstl
                    go_wp2_with fail
                    go_ret2
                    refine ⟨?_, Hw5.out⟩
                    rw [Hpar.out.1, Hpar.out.2]; rfl
end Go.Proofs.YtpicmhbjiaegpaaGreatDoor
