/-
  DERIVED. Several texts in one: RfH, PaA.
-/
import Derived.Test.YtpicmhbjiaegpaaGreatDoorQRfG
import Derived.Test.YtpicmhbjiaegpaaGreatDoorNaa
import Derived.Test.YtpicmhbjiaegpaaGreatDoorJaa
namespace Go.Proofs.YtpicmhbjiaegpaaGreatDoor
open Go.RowKit

theorem own_slice {w : World} {base : Nat} {v : Value} {l : List Opd} (h : OwnR OpdR 9 50 base w v l) : ∃ a c, v = .slice a l.length c := by
  rcases h.form with ⟨e1, e2⟩ | ⟨g, cap, e1, _⟩
  · rw [e2]; exact ⟨none, 0, e1⟩
  · exact ⟨_, cap, e1⟩
theorem lines_end (s : List UInt8) : linesOf s [] = [s] := by rw [linesOf]
theorem lines_no {s l : List UInt8} {b : UInt8} (h : b ≠ 10) : linesOf s (b :: l) = linesOf (s ++ [b]) l := by
  rw [linesOf, if_neg (by simpa using h)]
theorem lines_nl (s l : List UInt8) : linesOf s (10 :: l) = s :: linesOf [] l := by
  rfl
theorem take_more1 {l : List UInt8} {f i : Nat} {b : UInt8} (hf : f ≤ i) (hb : l[i]? = some b) : (l.drop f).take (i + 1 - f) = (l.drop f).take (i - f) ++ [b] := by
  rw [show i + 1 - f = (i - f) + 1 by omega, List.take_add_one, List.getElem?_drop, show f + (i - f) = i by omega, hb]; rfl
set_option maxRecDepth 100000 in
set_option maxHeartbeats 6400000 in
theorem parse33_any (l : List UInt8) (w : World) (hl : l.length ≤ 1000000) : Calls Tryz.prog 14 #[.string (bs l)] w (RetPs w (readT l)) := by
  by_cases hlong : 4000 < l.length
  · have hr : readT l = .no 0 3 := by unfold readT; rw [if_pos hlong]
    have hz : 4000 < (l.length : Int) := by omega
    rw [hr]
    clear hr hlong
    go_enter Tryz.func14, Tryz.ntmps14
    go_wp2_with fail
    go_ret3
    exact ⟨none, 0, 0, rfl, RR.nil _ _ _ _ _ _, Below.refl _ _⟩
  have hr : readT l = readLines 0 [] (linesOf [] l) := by unfold readT; rw [if_neg hlong]
  rw [hr]
  have hz : ¬ 4000 < (l.length : Int) := by omega
  have hl4 : l.length ≤ 4000 := by omega
  clear hr
  go_enter Tryz.func14, Tryz.ntmps14
  go_wp2_with fail
  go_loopw [5, 6, 7, 8] (fun v fv kv iv wr => ∃ (i f k : Nat) (acc : List Opd), i ≤ l.length + 1 ∧ f ≤ i ∧ k ≤ i ∧ iv = .int .i64 (i : Int) ∧ fv = .int .i64 (f : Int) ∧ kv = .int .i64 (k : Int) ∧ acc.length ≤ 12 ∧ (i ≤ l.length → readLines 0 [] (linesOf [] l) = readLines k acc (linesOf ((l.drop f).take (i - f)) (l.drop i))) ∧ (i = l.length + 1 → readLines 0 [] (linesOf [] l) = .ok acc) ∧ OwnR OpdR 9 50 w.heap.size wr v acc ∧ Below w.heap.size w wr) (fun _ _ _ iv _ => l.length + 1 - (intOf iv).toNat)
  case atStart => exact ⟨0, 0, 0, [], by omega, Nat.le_refl _, Nat.le_refl _, rfl, rfl, rfl, by simp, fun _ => rfl, fun h => by omega, OwnR.nil _ _ _ _ _, Below.refl _ _⟩
  case round =>
    obtain ⟨i, f, k, acc, hi, hf, hki, rfl, rfl, rfl, hacc, h1, h2, hown, hb⟩ := hrel
    have H1 := Lib.hid h1; have H2 := Lib.hid h2; have Hown := Lib.hid hown; have Hb := Lib.hid hb
    clear h1 h2 hown hb
    by_cases hil : i < l.length
    · obtain ⟨b, hbi⟩ : ∃ b, l[i]? = some b := ⟨_, List.getElem?_eq_getElem hil⟩
      have hdr : l.drop i = b :: l.drop (i + 1) := by
        rw [List.drop_eq_getElem_cons hil]
        congr 1
        exact (List.getElem?_eq_some_iff.1 hbi).2
      have hbsz : i < (bs l).size := by show i < l.length; exact hil
      have hget : (bs l)[i]'hbsz = b := by
        show l.toArray[i] = b
        simpa using (List.getElem?_eq_some_iff.1 hbi).2
      have hall := H1.out (by omega)
      rw [hdr] at hall
      have htk := take_more1 hf hbi
      clear H1 H2 hdr hbi
      by_cases hb10 : b = 10
      · subst hb10
        have hgn : ((((bs l)[i]'hbsz).toNat : Int) != 10) = false := by rw [hget]; rfl
        rw [lines_nl] at hall
        obtain ⟨s, hs⟩ : ∃ s, (l.drop f).take (i - f) = s := ⟨_, rfl⟩
        rw [hs] at hall
        clear hget htk
        have hsl : s.length ≤ 4000 := by rw [← hs, List.length_take, List.length_drop]; omega
        have hex : (bs l).extract f i = bs s := by rw [bs_extract, hs]
        have Hall := Lib.hid hall; clear hall hs
        go_wp2_with fail
        try rw [hex]
        refine (split33_any s wr (by omega)).mono ?_
        rintro e w2 ⟨va, vc, rfl, hws, hb2⟩
        have Hown2 := Lib.hid (Hown.out.go opdOkR hb2); have Hb2 := Lib.hid (Hb.out.trans (hb2.mono Hb.out.size)); have Hws := Lib.hid hws
        have hwl := words_len s []
        have hwn := words_ne s []
        have hwm := words_many s []
        have Hwl := Lib.hid hwl; have Hwn := Lib.hid hwn
        clear hb2 hws hwl hwn hex Hown Hb
        cases hw : wordsOf [] s with
        | nil =>
          rw [hw] at Hws
          have hsk : skipL (wordsOf [] s) = true := by rw [hw]; rfl
          have Hsk := Lib.hid hsk; clear hsk hw hwm
          go_wp2_with fail
          go_roundw
          case rel => exact ⟨i + 1, i + 1, k + 1, acc, by omega, Nat.le_refl _, by omega, by go_num, by go_num, by go_num, hacc, fun _ => by rw [Hall.out, readLines, if_pos Hsk.out, Nat.sub_self, List.take_zero], fun h => by omega, Hown2.out, Hb2.out⟩
          case measure => simp [intOf]; omega
        | cons nm rest =>
          rw [hw] at Hws Hwl Hwn hwm
          obtain ⟨g, rfl, -, hg, -, hc, hcells⟩ := owns_str_at Hws.out (by simp)
          obtain ⟨b0, nm', rfl⟩ : ∃ b0 nm', nm = b0 :: nm' := by
            cases nm with
            | nil => exact absurd rfl (Hwn.out [] List.mem_cons_self)
            | cons b0 nm' => exact ⟨b0, nm', rfl⟩
          have hcw : ∀ (j : Nat) y, ((b0 :: nm') :: rest)[j]? = some y → w2.cell? ⟨g, j, none⟩ = some (.string (bs y)) := by
            intro j y hy
            have := hcells j (bs y) (by rw [List.getElem?_map, hy]; rfl)
            rw [Nat.zero_add] at this; exact this
          have c0 : w2.cell? ⟨g, 0, none⟩ = some (.string (bs (b0 :: nm'))) := hcw 0 _ rfl
          have Hcw := Lib.hid hcw; clear hcw hcells Hws
          have hbz : 0 < (bs (b0 :: nm')).size := by show 0 < (b0 :: nm').length; simp
          have hget : (bs (b0 :: nm'))[0]'hbz = b0 := rfl
          by_cases h35 : b0 = 35
          · have hsk : skipL (wordsOf [] s) = true := by rw [hw]; unfold skipL; rw [h35]; rfl
            have hb35 : ((((bs (b0 :: nm'))[0]'hbz).toNat : Int) != 35) = false := by rw [hget, h35]; rfl
            have Hsk := Lib.hid hsk; clear hsk hw hget h35
            go_wp2_with fail
            go_roundw
            case rel => exact ⟨i + 1, i + 1, k + 1, acc, by omega, Nat.le_refl _, by omega, by go_num, by go_num, by go_num, hacc, fun _ => by rw [Hall.out, readLines, if_pos Hsk.out, Nat.sub_self, List.take_zero], fun h => by omega, Hown2.out, Hb2.out⟩
            case measure => simp [intOf]; omega
          · have hsk : skipL (wordsOf [] s) = false := by rw [hw]; unfold skipL; simp; exact h35
            have hb35 : ((((bs (b0 :: nm'))[0]'hbz).toNat : Int) != 35) = true := by rw [hget, bne_iff_ne]; exact toNat_ne h35
            have hskn : ¬ (skipL (wordsOf [] s) = true) := by rw [hsk]; simp
            have Hskn := Lib.hid hskn; have Hw := Lib.hid hw; clear hsk hskn hw hget h35
            generalize b0 :: nm' = nm at *
            go_wp2_with fail
            refine (read33_any nm rest g vc w2 Hcw.out hg (fun y hy => by have := Hwl.out y hy; simp at this; omega) (by simp at hwm; omega)).mono ?_
            rintro e w3 ⟨rfl, hb3⟩
            obtain ⟨a0, a1, a2, a3, a4, ha⟩ : ∃ a0 a1 a2 a3 a4, (rdX (readOf (nm :: rest))).ag = [a0, a1, a2, a3, a4] := by
              cases hr : readOf (nm :: rest) with
              | none => exact ⟨0, 0, 0, 0, 0, rfl⟩
              | some x => exact five (readOf_ok hr).2
            rw [opV_of ha]
            have Hown3 := Lib.hid (Hown2.out.go opdOkR hb3); have Hb3 := Lib.hid (Hb2.out.trans (hb3.mono Hb2.out.size))
            clear hb3 Hown2 Hb2 c0 hb35 hbz Hcw Hwl Hwn
            have Ha := Lib.hid ha; clear ha
            obtain ⟨X, hXe⟩ : ∃ X, rdX (readOf (nm :: rest)) = X := ⟨_, rfl⟩
            rw [hXe] at Ha ⊢
            obtain ⟨rb, hrb⟩ : ∃ rb, (readOf (nm :: rest)).isSome = rb := ⟨_, rfl⟩
            rw [hrb]
            have Hrb := Lib.hid hrb; clear hrb
            have HXe := Lib.hid hXe; clear hXe
            go_upto_region 13 with fail
            refine step_world (fun wx => OpdB wx w3.heap.size X.nm a0 a1 a2 a3 a4 X.rel X.tg X.wt ∧ Below w3.heap.size w3 wx) ⟨heap_alloc_new w3 _, (Below.refl w3.heap.size w3).alloc (Nat.le_refl _) _⟩ ?_
            rintro w4 ⟨x4, b4⟩
            have Hown4 := Lib.hid (Hown3.out.go opdOkR b4); have Hb4 := Lib.hid (Hb3.out.trans (b4.mono Hb3.out.size)); have HX4 := Lib.hid x4
            clear x4 b4 Hown3 Hb3
            cases hr : readOf (nm :: rest) with
            | none =>
              have hno : readLines 0 [] (linesOf [] l) = .no k 5 := by rw [Hall.out, readLines, if_neg Hskn.out, Hw.out, hr]
              obtain rfl : rb = false := by rw [← Hrb.out, hr]; rfl
              have Hno := Lib.hid hno; clear hno hr
              go_wp2_with fail
              go_ret3
              exact ⟨none, 0, 0, by rw [Hno.out]; rfl, by rw [Hno.out]; exact RR.nil _ _ _ _ _ _, Hb4.out⟩
            | some x =>
              obtain rfl : rb = true := by rw [← Hrb.out, hr]; rfl
              have hXx : X = x := by rw [← HXe.out, hr]; rfl
              subst hXx
              by_cases h12 : acc.length = 12
              · have hno : readLines 0 [] (linesOf [] l) = .no k 3 := by rw [Hall.out, readLines, if_neg Hskn.out, Hw.out, hr]; simp only; rw [if_pos h12]
                have Hno := Lib.hid hno; clear hno hr
                obtain ⟨ac, cc, rfl⟩ := own_slice Hown4.out
                rw [h12] at Hown4 ⊢
                go_wp2_with fail
                go_ret3
                exact ⟨none, 0, 0, by rw [Hno.out]; rfl, by rw [Hno.out]; exact RR.nil _ _ _ _ _ _, Hb4.out⟩
              · have hrl : readLines 0 [] (linesOf [] l) = readLines (k + 1) (acc ++ [X]) (linesOf [] (l.drop (i + 1))) := by rw [Hall.out, readLines, if_neg Hskn.out, Hw.out, hr]; simp only; rw [if_neg h12]
                have Hrl := Lib.hid hrl; clear hrl hr
                obtain ⟨ac, cc, rfl⟩ := own_slice Hown4.out
                have h12' : ((acc.length : Int) == 12) = false := by rw [beq_eq_false_iff_ne]; omega
                have hr6 : w4.rangeAt w3.heap.size 0 (opCells X a0 a1 a2 a3 a4) := by
                  intro j v hv
                  rw [Nat.zero_add, obj_cell HX4.out j]
                  simpa [opCells] using hv
                have Hr6 := Lib.hid hr6; have hbz := Hb4.out.size; clear hr6
                go_wp2_with (first
                  | (refine wpL_load_op Hr6.out rfl (.tmp 10) rfl rfl ?_)
                  | (refine wpList_append_rec opdOkR Tryz.underlying30 Tryz.infoOpd3 rfl (by omega) (by omega) rfl (.tmp 60) (.tmp 62) rfl w.heap.size w4 _ acc X (opCells X a0 a1 a2 a3 a4) rfl Hown4.out rfl rfl ⟨a0, a1, a2, a3, a4, Ha.out, rfl⟩ (by omega) (by omega) ?_; intro g2 cap w7 hown7 hb7))
                have Hown7 := Lib.hid hown7; have Hb7 := Lib.hid (hb7 w.heap.size w (Nat.le_refl _) Hb4.out)
                clear hown7 hb7
                go_roundw
                case rel => exact ⟨i + 1, i + 1, k + 1, acc ++ [X], by omega, Nat.le_refl _, by omega, by go_num, by go_num, by go_num, by rw [List.length_append]; simp; omega, fun _ => by rw [Hrl.out, Nat.sub_self, List.take_zero], fun h => by omega, by simpa using Hown7.out, Hb7.out⟩
                case measure => simp [intOf]; omega
      · have hgn : ((((bs l)[i]'hbsz).toNat : Int) != 10) = true := by rw [hget, bne_iff_ne]; exact toNat_ne hb10
        rw [lines_no hb10, ← htk] at hall
        have Hall := Lib.hid hall; clear hall hget htk hb10
        go_wp2_with fail
        go_roundw
        case rel => exact ⟨i + 1, f, k, acc, by omega, by omega, by omega, by go_num, rfl, rfl, hacc, fun _ => Hall.out, fun h => by omega, Hown.out, Hb.out⟩
        case measure => simp [intOf]; omega
    · by_cases hie : i = l.length
      · subst hie
        have hall := H1.out (Nat.le_refl _)
        rw [List.drop_length, lines_end] at hall
        obtain ⟨s, hs⟩ : ∃ s, (l.drop f).take (l.length - f) = s := ⟨_, rfl⟩
        rw [hs] at hall
        clear H1 H2
        have hsl : s.length ≤ 4000 := by rw [← hs, List.length_take, List.length_drop]; omega
        have hex : (bs l).extract f l.length = bs s := by rw [bs_extract, hs]
        have Hall := Lib.hid hall; clear hall hs
        go_wp2_with fail
        try rw [hex]
        refine (split33_any s wr (by omega)).mono ?_
        rintro e w2 ⟨va, vc, rfl, hws, hb2⟩
        have Hown2 := Lib.hid (Hown.out.go opdOkR hb2); have Hb2 := Lib.hid (Hb.out.trans (hb2.mono Hb.out.size)); have Hws := Lib.hid hws
        have hwl := words_len s []
        have hwn := words_ne s []
        have hwm := words_many s []
        have Hwl := Lib.hid hwl; have Hwn := Lib.hid hwn
        clear hb2 hws hwl hwn hex Hown Hb
        cases hw : wordsOf [] s with
        | nil =>
          rw [hw] at Hws
          have hsk : skipL (wordsOf [] s) = true := by rw [hw]; rfl
          have Hsk := Lib.hid hsk; clear hsk hw hwm
          go_wp2_with fail
          go_roundw
          case rel => exact ⟨l.length + 1, l.length + 1, k + 1, acc, Nat.le_refl _, Nat.le_refl _, by omega, by go_num, by go_num, by go_num, hacc, fun h => by omega, fun _ => by rw [Hall.out, readLines, if_pos Hsk.out]; rfl, Hown2.out, Hb2.out⟩
          case measure => simp [intOf]
        | cons nm rest =>
          rw [hw] at Hws Hwl Hwn hwm
          obtain ⟨g, rfl, -, hg, -, hc, hcells⟩ := owns_str_at Hws.out (by simp)
          obtain ⟨b0, nm', rfl⟩ : ∃ b0 nm', nm = b0 :: nm' := by
            cases nm with
            | nil => exact absurd rfl (Hwn.out [] List.mem_cons_self)
            | cons b0 nm' => exact ⟨b0, nm', rfl⟩
          have hcw : ∀ (j : Nat) y, ((b0 :: nm') :: rest)[j]? = some y → w2.cell? ⟨g, j, none⟩ = some (.string (bs y)) := by
            intro j y hy
            have := hcells j (bs y) (by rw [List.getElem?_map, hy]; rfl)
            rw [Nat.zero_add] at this; exact this
          have c0 : w2.cell? ⟨g, 0, none⟩ = some (.string (bs (b0 :: nm'))) := hcw 0 _ rfl
          have Hcw := Lib.hid hcw; clear hcw hcells Hws
          have hbz : 0 < (bs (b0 :: nm')).size := by show 0 < (b0 :: nm').length; simp
          have hget : (bs (b0 :: nm'))[0]'hbz = b0 := rfl
          by_cases h35 : b0 = 35
          · have hsk : skipL (wordsOf [] s) = true := by rw [hw]; unfold skipL; rw [h35]; rfl
            have hb35 : ((((bs (b0 :: nm'))[0]'hbz).toNat : Int) != 35) = false := by rw [hget, h35]; rfl
            have Hsk := Lib.hid hsk; clear hsk hw hget h35
            go_wp2_with fail
            go_roundw
            case rel => exact ⟨l.length + 1, l.length + 1, k + 1, acc, Nat.le_refl _, Nat.le_refl _, by omega, by go_num, by go_num, by go_num, hacc, fun h => by omega, fun _ => by rw [Hall.out, readLines, if_pos Hsk.out]; rfl, Hown2.out, Hb2.out⟩
            case measure => simp [intOf]
          · have hsk : skipL (wordsOf [] s) = false := by rw [hw]; unfold skipL; simp; exact h35
            have hb35 : ((((bs (b0 :: nm'))[0]'hbz).toNat : Int) != 35) = true := by rw [hget, bne_iff_ne]; exact toNat_ne h35
            have hskn : ¬ (skipL (wordsOf [] s) = true) := by rw [hsk]; simp
            have Hskn := Lib.hid hskn; have Hw := Lib.hid hw; clear hsk hskn hw hget h35
            generalize b0 :: nm' = nm at *
            go_wp2_with fail
            refine (read33_any nm rest g vc w2 Hcw.out hg (fun y hy => by have := Hwl.out y hy; simp at this; omega) (by simp at hwm; omega)).mono ?_
            rintro e w3 ⟨rfl, hb3⟩
            obtain ⟨a0, a1, a2, a3, a4, ha⟩ : ∃ a0 a1 a2 a3 a4, (rdX (readOf (nm :: rest))).ag = [a0, a1, a2, a3, a4] := by
              cases hr : readOf (nm :: rest) with
              | none => exact ⟨0, 0, 0, 0, 0, rfl⟩
              | some x => exact five (readOf_ok hr).2
            rw [opV_of ha]
            have Hown3 := Lib.hid (Hown2.out.go opdOkR hb3); have Hb3 := Lib.hid (Hb2.out.trans (hb3.mono Hb2.out.size))
            clear hb3 Hown2 Hb2 c0 hb35 hbz Hcw Hwl Hwn
            have Ha := Lib.hid ha; clear ha
            obtain ⟨X, hXe⟩ : ∃ X, rdX (readOf (nm :: rest)) = X := ⟨_, rfl⟩
            rw [hXe] at Ha ⊢
            obtain ⟨rb, hrb⟩ : ∃ rb, (readOf (nm :: rest)).isSome = rb := ⟨_, rfl⟩
            rw [hrb]
            have Hrb := Lib.hid hrb; clear hrb
            have HXe := Lib.hid hXe; clear hXe
            go_upto_region 13 with fail
            refine step_world (fun wx => OpdB wx w3.heap.size X.nm a0 a1 a2 a3 a4 X.rel X.tg X.wt ∧ Below w3.heap.size w3 wx) ⟨heap_alloc_new w3 _, (Below.refl w3.heap.size w3).alloc (Nat.le_refl _) _⟩ ?_
            rintro w4 ⟨x4, b4⟩
            have Hown4 := Lib.hid (Hown3.out.go opdOkR b4); have Hb4 := Lib.hid (Hb3.out.trans (b4.mono Hb3.out.size)); have HX4 := Lib.hid x4
            clear x4 b4 Hown3 Hb3
            cases hr : readOf (nm :: rest) with
            | none =>
              have hno : readLines 0 [] (linesOf [] l) = .no k 5 := by rw [Hall.out, readLines, if_neg Hskn.out, Hw.out, hr]
              obtain rfl : rb = false := by rw [← Hrb.out, hr]; rfl
              have Hno := Lib.hid hno; clear hno hr
              go_wp2_with fail
              go_ret3
              exact ⟨none, 0, 0, by rw [Hno.out]; rfl, by rw [Hno.out]; exact RR.nil _ _ _ _ _ _, Hb4.out⟩
            | some x =>
              obtain rfl : rb = true := by rw [← Hrb.out, hr]; rfl
              have hXx : X = x := by rw [← HXe.out, hr]; rfl
              subst hXx
              by_cases h12 : acc.length = 12
              · have hno : readLines 0 [] (linesOf [] l) = .no k 3 := by rw [Hall.out, readLines, if_neg Hskn.out, Hw.out, hr]; simp only; rw [if_pos h12]
                have Hno := Lib.hid hno; clear hno hr
                obtain ⟨ac, cc, rfl⟩ := own_slice Hown4.out
                rw [h12] at Hown4 ⊢
                go_wp2_with fail
                go_ret3
                exact ⟨none, 0, 0, by rw [Hno.out]; rfl, by rw [Hno.out]; exact RR.nil _ _ _ _ _ _, Hb4.out⟩
              · have hrl : readLines 0 [] (linesOf [] l) = .ok (acc ++ [X]) := by rw [Hall.out, readLines, if_neg Hskn.out, Hw.out, hr]; simp only; rw [if_neg h12]; rfl
                have Hrl := Lib.hid hrl; clear hrl hr
                obtain ⟨ac, cc, rfl⟩ := own_slice Hown4.out
                have h12' : ((acc.length : Int) == 12) = false := by rw [beq_eq_false_iff_ne]; omega
                have hr6 : w4.rangeAt w3.heap.size 0 (opCells X a0 a1 a2 a3 a4) := by
                  intro j v hv
                  rw [Nat.zero_add, obj_cell HX4.out j]
                  simpa [opCells] using hv
                have Hr6 := Lib.hid hr6; have hbz := Hb4.out.size; clear hr6
                go_wp2_with (first
                  | (refine wpL_load_op Hr6.out rfl (.tmp 10) rfl rfl ?_)
                  | (refine wpList_append_rec opdOkR Tryz.underlying30 Tryz.infoOpd3 rfl (by omega) (by omega) rfl (.tmp 60) (.tmp 62) rfl w.heap.size w4 _ acc X (opCells X a0 a1 a2 a3 a4) rfl Hown4.out rfl rfl ⟨a0, a1, a2, a3, a4, Ha.out, rfl⟩ (by omega) (by omega) ?_; intro g2 cap w7 hown7 hb7))
                have Hown7 := Lib.hid hown7; have Hb7 := Lib.hid (hb7 w.heap.size w (Nat.le_refl _) Hb4.out)
                clear hown7 hb7
                go_roundw
                case rel => exact ⟨l.length + 1, l.length + 1, k + 1, acc ++ [X], Nat.le_refl _, Nat.le_refl _, by omega, by go_num, by go_num, by go_num, by rw [List.length_append]; simp; omega, fun h => by omega, fun _ => Hrl.out, by simpa using Hown7.out, Hb7.out⟩
                case measure => simp [intOf]
      · obtain rfl : i = l.length + 1 := by omega
        have hle : ¬ (((l.length + 1 : Nat) : Int) ≤ (l.length : Int)) := by omega
        have hw := H2.out rfl
        have Hw := Lib.hid hw; clear hw H1 H2
        obtain ⟨ac, cc, rfl⟩ := own_slice Hown.out
        go_wp2_with fail
        go_ret3
        exact ⟨ac, _, cc, by rw [Hw.out]; rfl, by rw [Hw.out]; exact Hown.out.rr opdOkR, Hb.out⟩
end Go.Proofs.YtpicmhbjiaegpaaGreatDoor

namespace Go.Proofs.YtpicmhbjiaegpaaGreatDoor
open Go.RowKit

theorem ps_small (s : List UInt8) : (psL (readT s)).length ≤ 12 := by
  cases hr : readT s with
  | ok ys => exact (opdsOk_all (readT_ok hr).1).1
  | no k e => simp [psL]
set_option maxRecDepth 100000 in
set_option maxHeartbeats 3200000 in
theorem parses_walk (raw : List UInt8) (l : List Drf) (p q : Pch) (a : Option Addr) (n c : Nat) (w : World) (h : RR DrfR 9 (fun b => b < w.heap.size) w a n c l) (hn : n ≤ 9223372036854775807) (hraw : raw.length ≤ 9223372036854775807) (hp : PchOk p) (hm : p.more.length ≤ 9223372036854775807) (hq : PchOk q) (hmq : q.more.length ≤ 9223372036854775807) (hld : ∀ d ∈ l, DrfOk d) (hg : GW w) :
    Calls Tryz.prog 3 #[.string (bs raw), .slice a n c, .agg #[.int .u16 (p.pos : Int), .int .u8 (p.less : Int), .string (bs p.more)], .agg #[.int .u16 (q.pos : Int), .int .u8 (q.less : Int), .string (bs q.more)]] w (RetB w (.bool true)) := by
  obtain ⟨ht1, ht2, _⟩ := told_reads hld
  have hok := opsOf_ok hld
  have hn3' := opsOf_len l
  have htx : textB (opsOf l) = toldT l := by unfold textB; rw [hok.1]; rfl
  have hal := ((Below.refl w.heap.size w).alloc (Nat.le_refl _) (.cells #[.int .u16 (p.pos : Int), .int .u8 (p.less : Int), .string (bs p.more)] 25)).alloc (by simp) (.cells #[.int .u16 (q.pos : Int), .int .u8 (q.less : Int), .string (bs q.more)] 25)
  have hP := (Below.heap_alloc (w.alloc (.cells #[.int .u16 (p.pos : Int), .int .u8 (p.less : Int), .string (bs p.more)] 25)) (.cells #[.int .u16 (q.pos : Int), .int .u8 (q.less : Int), .string (bs q.more)] 25) w.heap.size (by simp)).trans (heap_alloc_new w (.cells #[.int .u16 (p.pos : Int), .int .u8 (p.less : Int), .string (bs p.more)] 25))
  have hQ := heap_alloc_new (w.alloc (.cells #[.int .u16 (p.pos : Int), .int .u8 (p.less : Int), .string (bs p.more)] 25)) (.cells #[.int .u16 (q.pos : Int), .int .u8 (q.less : Int), .string (bs q.more)] 25)
  have hsz : (w.alloc (.cells #[.int .u16 (p.pos : Int), .int .u8 (p.less : Int), .string (bs p.more)] 25)).heap.size = w.heap.size + 1 := by simp
  rw [hsz] at hQ
  have h0 := h.go drfOk hal
  have HP := Lib.hid hP; have HQ := Lib.hid hQ; have Hal := Lib.hid hal; have H := Lib.hid h0; have Hg := Lib.hid (hg.below hal); have Htx := Lib.hid htx
  clear h h0 hg hal hP hQ hld hok htx ht1 hsz
  go_enter Tryz.func3, Tryz.ntmps3
  go_wp2_with fail
  generalize ((w.alloc (.cells #[.int .u16 (p.pos : Int), .int .u8 (p.less : Int), .string (bs p.more)] 25)).alloc (.cells #[.int .u16 (q.pos : Int), .int .u8 (q.less : Int), .string (bs q.more)] 25)) = w1 at *
  have hPl1 := lt_of_block HP.out
  have hQl1 := lt_of_block HQ.out
  refine (works_any w1 Hg.out).mono ?_
  rintro e w2 ⟨rfl, hb2⟩
  have H2 := Lib.hid (H.out.go drfOk hb2); have Hb2 := Lib.hid (Hal.out.trans (hb2.mono Hal.out.size)); have HP2 := Lib.hid ((hb2.block w.heap.size hPl1).trans HP.out); have HQ2 := Lib.hid ((hb2.block (w.heap.size + 1) hQl1).trans HQ.out)
  have Hg2 := Lib.hid (Hg.out.below hb2); have hs2 := hb2.size
  clear hb2 H HP HQ Hg Hal
  go_wp2_with fail
  refine (operands_any l a n c w2 H2.out hn).mono ?_
  rintro e w3 ⟨a3, n3, c3, rfl, hr3, hb3⟩
  have hn3 := rr_len hr3
  have Hb3 := Lib.hid (Hb2.out.trans (hb3.mono Hb2.out.size)); have HP3 := Lib.hid ((hb3.block w.heap.size (by omega)).trans HP2.out); have HQ3 := Lib.hid ((hb3.block (w.heap.size + 1) (by omega)).trans HQ2.out)
  have Hg3 := Lib.hid (Hg2.out.below hb3); have hs3 := hb3.size; have Hr3 := Lib.hid hr3
  clear hr3 hb3 H2 HP2 HQ2 Hg2 Hb2
  go_wp2_with fail
  refine (text33_any (opsOf l) a3 n3 c3 w3 Hr3.out (by omega)).mono ?_
  rintro e w4 ⟨rfl, hb4⟩
  rw [Htx.out]
  have Hb4 := Lib.hid (Hb3.out.trans (hb4.mono Hb3.out.size)); have HP4 := Lib.hid ((hb4.block w.heap.size (by omega)).trans HP3.out); have HQ4 := Lib.hid ((hb4.block (w.heap.size + 1) (by omega)).trans HQ3.out)
  have Hg4 := Lib.hid (Hg3.out.below hb4); have hs4 := hb4.size
  clear hb4 HP3 HQ3 Hg3 Hb3 Hr3 hn3 hn3'
  generalize toldT l = TT at *
  have emo : min (raw.length : Int) 500 = ((min raw.length 500 : Nat) : Int) := by omega
  have hmo : min raw.length 500 ≤ raw.length := Nat.min_le_left _ _
  have eraw : (bs raw).extract 0 (min raw.length 500) = bs (raw.take 500) := by
    rw [bs_extract, Nat.sub_zero, List.drop_zero]
    congr 1
    rw [Nat.min_comm, List.take_eq_take_iff]; simp
  go_upto_region 5 with fail
  try rw [eraw]
  have hS1 : (raw.take 500).length ≤ 500 := by rw [List.length_take]; omega
  clear eraw emo hmo
  generalize raw.take 500 = S1 at *
  have hPl := lt_of_block HP4.out
  have hQl := lt_of_block HQ4.out
  have p0 : w4.cell? ⟨w.heap.size, 0, none⟩ = some (.int .u16 (p.pos : Int)) := obj_cell HP4.out 0
  have p1 : w4.cell? ⟨w.heap.size, 1, none⟩ = some (.int .u8 (p.less : Int)) := obj_cell HP4.out 1
  have p2 : w4.cell? ⟨w.heap.size, 2, none⟩ = some (.string (bs p.more)) := obj_cell HP4.out 2
  have q0 : w4.cell? ⟨w.heap.size + 1, 0, none⟩ = some (.int .u16 (q.pos : Int)) := obj_cell HQ4.out 0
  have q1 : w4.cell? ⟨w.heap.size + 1, 1, none⟩ = some (.int .u8 (q.less : Int)) := obj_cell HQ4.out 1
  have q2 : w4.cell? ⟨w.heap.size + 1, 2, none⟩ = some (.string (bs q.more)) := obj_cell HQ4.out 2
  have r0 : bs TT ++ bs S1 = bs (TT ++ S1) := bs_append _ _
  refine wp_region_floats 15 [] [] [(0, true), (1, true), (2, true), (3, true), (5, true), (6, true), (7, true), (10, true), (11, true), (12, true), (14, true), (4, false), (8, false), (9, false), (13, true)] (by kernel_rfl) (by kernel_rfl) ⟨by simp, by simp, fun _ h => by cases h⟩ (fun _ _ _ _ _ h => h) (fun _ _ o _ _ h => by cases o <;> exact h) ?_
  iterate 11
    refine wpG_yield (v := ?_) rfl rfl (by rfl) ?_ ?_
    rotate_left
    · intro y hy
      have z0 := (hy.cell (p := ⟨w.heap.size, 0, none⟩) hPl).trans p0
      have z1 := (hy.cell (p := ⟨w.heap.size, 1, none⟩) hPl).trans p1
      have z2 := (hy.cell (p := ⟨w.heap.size, 2, none⟩) hPl).trans p2
      have y0 := (hy.cell (p := ⟨w.heap.size + 1, 0, none⟩) hQl).trans q0
      have y1 := (hy.cell (p := ⟨w.heap.size + 1, 1, none⟩) hQl).trans q1
      have y2 := (hy.cell (p := ⟨w.heap.size + 1, 2, none⟩) hQl).trans q2
      go_simp
      try rw [if_neg (by omega)]
      try rw [r0]
      all_goals with_reducible rfl
    try simp only [Act.put, List.setIfInBounds_toArray, List.set_cons_zero, List.set_cons_succ]
  clear p0 p1 p2 q0 q1 q2 r0
  refine wpG_step rfl rfl (fun x1 hx1 K hK => ?_)
  go_simp
  have hx1' : Below w4.heap.size w4 x1 := below_undrew (k := 1) hx1
  refine (patch_any p hp TT _ (by omega) (by omega)).mono ?_
  rintro e w5 ⟨rfl, hb5⟩
  refine hK _ _ hb5 ?_
  clear hK K
  have hb5' := hx1'.trans (hb5.mono hx1'.size)
  have Hb5 := Lib.hid (Hb4.out.trans (hb5'.mono Hb4.out.size)); have Hg5 := Lib.hid (Hg4.out.below hb5')
  clear hx1 hx1' hb5 hb5' Hb4 Hg4 HP4 HQ4
  have hS3 := patchT_len p TT
  try simp only [Act.put, List.setIfInBounds_toArray, List.set_cons_zero, List.set_cons_succ]
  refine wpG_step rfl rfl (fun x2 hx2 K hK => ?_)
  go_simp
  refine (patch_any p hp TT _ (by omega) (by omega)).mono ?_
  rintro e w6 ⟨rfl, hb6⟩
  refine hK _ _ hb6 ?_
  clear hK K
  have hb6' := hx2.trans (hb6.mono hx2.size)
  have Hb6 := Lib.hid (Hb5.out.trans (hb6'.mono Hb5.out.size)); have Hg6 := Lib.hid (Hg5.out.below hb6')
  clear hx2 hb6 hb6' Hb5 Hg5
  generalize patchT p TT = S3 at *
  try simp only [Act.put, List.setIfInBounds_toArray, List.set_cons_zero, List.set_cons_succ]
  refine wpG_step rfl rfl (fun x3 hx3 K hK => ?_)
  go_simp
  refine (patch_any q hq S3 _ (by omega) (by omega)).mono ?_
  rintro e w7 ⟨rfl, hb7⟩
  refine hK _ _ hb7 ?_
  clear hK K
  have hb7' := hx3.trans (hb7.mono hx3.size)
  have Hb7 := Lib.hid (Hb6.out.trans (hb7'.mono Hb6.out.size)); have Hg7 := Lib.hid (Hg6.out.below hb7')
  clear hx3 hb7 hb7' Hb6 Hg6
  have hS4 := patchT_len q S3
  generalize patchT q S3 = S4 at *
  have hS5 : (TT ++ S1).length ≤ 5000 := by rw [List.length_append]; omega
  generalize TT ++ S1 = S5 at *
  try simp only [Act.put, List.setIfInBounds_toArray, List.set_cons_zero, List.set_cons_succ]
  refine wpG_yield (v := ?_) rfl rfl (by rfl) ?_ ?_
  rotate_left
  · intro y hy
    go_simp
    with_reducible rfl
  try simp only [Act.put, List.setIfInBounds_toArray, List.set_cons_zero, List.set_cons_succ]
  refine wpG_nil0 (l := []) rfl (fun w8 hb8 => ?_)
  have Hb8 := Lib.hid (Hb7.out.trans (hb8.mono Hb7.out.size)); have Hg8 := Lib.hid (Hg7.out.below hb8)
  clear hb8 Hb7 Hg7
  have hix : ∀ k : Nat, k < 5 → ∃ s : List UInt8, s.length ≤ 5000 ∧ ∀ w, (Instr.index 33 (.agg #[.string (bs S1), .string (bs TT), .string (bs S3), .string (bs S4), .string (bs S5)]) (.int .i64 (k : Int))).run Tryz.prog w = .ok (.string (bs s)) w := by
    intro k hk
    have hw : k = 0 ∨ k = 1 ∨ k = 2 ∨ k = 3 ∨ k = 4 := by omega
    rcases hw with rfl | rfl | rfl | rfl | rfl
    · exact ⟨S1, by omega, fun w => (index5s _ _ _ _ _ w).1⟩
    · exact ⟨TT, by omega, fun w => (index5s _ _ _ _ _ w).2.1⟩
    · exact ⟨S3, by omega, fun w => (index5s _ _ _ _ _ w).2.2.1⟩
    · exact ⟨S4, by omega, fun w => (index5s _ _ _ _ _ w).2.2.2.1⟩
    · exact ⟨S5, by omega, fun w => (index5s _ _ _ _ _ w).2.2.2.2⟩
  have Hix := Lib.hid hix
  clear hix hS1 hS3 hS4 hS5
  generalize Value.agg #[.string (bs S1), .string (bs TT), .string (bs S3), .string (bs S4), .string (bs S5)] = V at *
  go_wp2_with fail
  go_loopw [46] (fun iv wr => ∃ k : Nat, k ≤ 5 ∧ iv = .int .i64 (k : Int) ∧ Below w.heap.size w wr ∧ GW wr) (fun iv _ => 5 - (intOf iv).toNat)
  case atStart => exact ⟨0, by omega, rfl, Hb8.out, Hg8.out⟩
  case round =>
    obtain ⟨k, hk, rfl, hb, hgr⟩ := hrel
    have Hb := Lib.hid hb; have Hgr := Lib.hid hgr
    clear hb hgr Hb8 Hg8
    by_cases hk5 : k < 5
    · obtain ⟨s, hs, hi⟩ := Hix.out k hk5
      go_wp2_with fail
      refine (oParse_any s _ (by omega) Hgr.out).mono ?_
      rintro e w9 ⟨a9, n9, c9, rfl, hr9, hb9⟩
      have hn9 := rr_len hr9
      have Hr9 := Lib.hid hr9; have Hb9 := Lib.hid (Hb.out.trans (hb9.mono Hb.out.size)); have Hg9 := Lib.hid (Hgr.out.below hb9)
      clear hr9 hb9 Hb Hgr hi
      go_wp2_with fail
      refine (parse33_any s w9 (by omega)).mono ?_
      rintro e wA ⟨aA, nA, cA, rfl, hrA, hbA⟩
      have hnA := rr_len hrA
      have HrA := Lib.hid hrA; have Hr9A := Lib.hid (Hr9.out.go opdOkR hbA); have HbA := Lib.hid (Hb9.out.trans (hbA.mono Hb9.out.size)); have HgA := Lib.hid (Hg9.out.below hbA)
      have hps := ps_small s
      have h9 : n9 ≤ 12 := by omega
      have hA : nA ≤ 12 := by omega
      clear hrA hbA Hr9 Hb9 Hg9 hn9 hnA hps
      generalize readT s = R at *
      generalize psK R = PK at *
      generalize psE R = PE at *
      go_wp2_with fail
      refine (same33_any (psL R) (psL R) a9 aA n9 nA c9 cA wA Hr9A.out HrA.out (by omega) (by omega)).mono ?_
      rintro e wB ⟨rfl, hbB⟩
      rw [decide_eq_true rfl]
      have HbB := Lib.hid (HbA.out.trans (hbB.mono HbA.out.size)); have HgB := Lib.hid (HgA.out.below hbB)
      clear hbB Hr9A HrA HbA HgA
      go_wp2_with fail
      go_roundw
      case rel => exact ⟨k + 1, by omega, by go_num, HbB.out, HgB.out⟩
      case measure => simp [intOf]; omega
    · obtain rfl : k = 5 := by omega
      rw [show ((5 : Nat) : Int) = 5 from rfl]
      go_wp2_with fail
      go_ret
      exact ⟨rfl, Hb.out⟩
end Go.Proofs.YtpicmhbjiaegpaaGreatDoor
