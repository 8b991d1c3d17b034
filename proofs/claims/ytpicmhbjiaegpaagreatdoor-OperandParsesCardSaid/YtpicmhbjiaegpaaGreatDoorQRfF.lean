/-
  DERIVED. The walk of monocleref33's split.
-/
import Derived.Test.YtpicmhbjiaegpaaGreatDoorNaa
import Derived.Test.YtpicmhbjiaegpaaGreatDoorGag
namespace Go.Proofs.YtpicmhbjiaegpaaGreatDoor
open Go.RowKit

def RetWl (w : World) (ws : List (List UInt8)) (e : Ending) (w' : World) : Prop := ∃ va vc, e = .returned (.slice va ws.length vc) ∧ w'.ownsRow w.heap.size 9 1 (.slice va ws.length vc) ws.length (strCs ws) ∧ Below w.heap.size w w'
theorem wordsOf_no {w l : List UInt8} {b : UInt8} (h : isSp b = false) : wordsOf w (b :: l) = wordsOf (w ++ [b]) l := by
  rw [wordsOf, h, if_neg (by simp)]
theorem wordsOf_end (w : List UInt8) : wordsOf w [] = if w = [] then [] else [w] := by rw [wordsOf]
theorem isSp_cases (b : UInt8) : (b = 32 ∧ isSp b = true) ∨ (b ≠ 32 ∧ b = 9 ∧ isSp b = true) ∨ (b ≠ 32 ∧ b ≠ 9 ∧ isSp b = false) := by
  by_cases h1 : b = 32
  · subst h1; exact Or.inl ⟨rfl, rfl⟩
  · by_cases h2 : b = 9
    · subst h2; exact Or.inr (Or.inl ⟨h1, rfl, rfl⟩)
    · refine Or.inr (Or.inr ⟨h1, h2, ?_⟩)
      unfold isSp; simp [h1, h2]
theorem toNat_ne {b c : UInt8} (h : b ≠ c) : ¬ ((b.toNat : Int) = (c.toNat : Int)) := fun e => h (UInt8.toNat_inj.1 (by omega))
set_option maxRecDepth 100000 in
set_option maxHeartbeats 3200000 in
theorem split33_any (l : List UInt8) (w : World) (hl : l.length ≤ 1000000) : Calls Tryz.prog 37 #[.string (bs l)] w (RetWl w (wordsOf [] l)) := by
  have hmany := words_many l []
  go_enter Tryz.func37, Tryz.ntmps37
  go_wp2_with fail
  go_loopw [3, 4, 5] (fun v sv iv wr => ∃ (i : Nat) (done : List (List UInt8)) (u : List UInt8) (va : Option Addr) (vc : Nat), i ≤ l.length + 1 ∧ iv = .int .i64 (i : Int) ∧ sv = .string (bs u) ∧ v = .slice va done.length vc ∧ u.length ≤ i ∧ (i ≤ l.length → wordsOf [] l = done ++ wordsOf u (l.drop i)) ∧ (i = l.length + 1 → wordsOf [] l = done) ∧ wr.ownsRow w.heap.size 9 1 (.slice va done.length vc) done.length (strCs done) ∧ Below w.heap.size w wr) (fun _ _ iv _ => l.length + 1 - (intOf iv).toNat)
  case atStart => exact ⟨0, [], [], none, 0, by omega, rfl, rfl, rfl, Nat.le_refl _, fun _ => rfl, fun h => by omega, World.ownsRow_nil _ _ _ _, Below.refl _ _⟩
  case round =>
    obtain ⟨i, done, u, va, vc, hi, rfl, rfl, rfl, hu, h1, h2, hown, hb⟩ := hrel
    have H1 := Lib.hid h1; have H2 := Lib.hid h2; have Hown := Lib.hid hown; have Hb := Lib.hid hb
    clear h1 h2 hown hb
    by_cases hil : i < l.length
    · obtain ⟨b, hbi⟩ : ∃ b, l[i]? = some b := ⟨_, List.getElem?_eq_getElem hil⟩
      have hdr : l.drop i = b :: l.drop (i + 1) := by
        rw [List.drop_eq_getElem_cons hil]
        congr 1
        exact (List.getElem?_eq_some_iff.1 hbi).2
      have hget : ∀ h, (bs l)[i]'h = b := by
        intro h
        show l.toArray[i] = b
        simpa using (List.getElem?_eq_some_iff.1 hbi).2
      have hbsz : i < (bs l).size := by show i < l.length; exact hil
      have hall := H1.out (by omega)
      have hdl : done.length ≤ l.length + 1 := by
        have := congrArg List.length hall
        rw [List.length_append] at this; omega
      have hex : (bs l).extract i (i + 1) = bs [b] := by
        rw [bs_extract, hdr, Nat.add_sub_cancel_left]; rfl
      have hbz := Hb.out.size
      rw [hdr] at hall
      clear hbi hdr
      rcases isSp_cases b with ⟨hbe, hsp⟩ | ⟨hb1, hbe, hsp⟩ | ⟨hb1, hb2, hsp⟩
      · subst hbe
        rw [wordsOf_sp hsp] at hall
        have hgn : ((bs l)[i]'hbsz).toNat = 32 := by rw [hget hbsz]; rfl
        have Hall := Lib.hid hall
        clear hall hsp hget
        by_cases hu0 : u = []
        · subst hu0
          go_wp2_with fail
          go_roundw
          case rel => exact ⟨i + 1, done, [], va, vc, by omega, by go_num, rfl, rfl, by simp, fun _ => by rw [Hall.out]; simp, fun h => by omega, Hown.out, Hb.out⟩
          case measure => simp [intOf]; omega
        · have hue : (u == []) = false := by simpa using hu0
          go_wp2_with (refine wpList_append_strs rfl (.tmp 37) (.tmp 39) 52 rfl Tryz.underlying52 w.heap.size wr va done.length vc _ [u] rfl Hown.out rfl rfl (by simp; omega) (by omega) ?_; intro va2 vc2 w7 hown7 hb7 hk7 hs7)
          have Hb7 := Lib.hid (hb7 w.heap.size w (Nat.le_refl _) Hb.out); have Hown7 := Lib.hid hown7
          clear hown7 hb7 hk7
          go_roundw
          case rel => exact ⟨i + 1, done ++ [u], [], va2, vc2, by omega, by go_num, rfl, by simp, by simp, fun _ => by rw [Hall.out, if_neg hu0]; simp, fun h => by omega, by simpa using Hown7.out, Hb7.out⟩
          case measure => simp [intOf]; omega
      · subst hbe
        rw [wordsOf_sp hsp] at hall
        have hgn : ((bs l)[i]'hbsz).toNat = 9 := by rw [hget hbsz]; rfl
        have Hall := Lib.hid hall
        clear hall hsp hget
        by_cases hu0 : u = []
        · subst hu0
          go_wp2_with fail
          go_roundw
          case rel => exact ⟨i + 1, done, [], va, vc, by omega, by go_num, rfl, rfl, by simp, fun _ => by rw [Hall.out]; simp, fun h => by omega, Hown.out, Hb.out⟩
          case measure => simp [intOf]; omega
        · have hue : (u == []) = false := by simpa using hu0
          go_wp2_with (refine wpList_append_strs rfl (.tmp 37) (.tmp 39) 52 rfl Tryz.underlying52 w.heap.size wr va done.length vc _ [u] rfl Hown.out rfl rfl (by simp; omega) (by omega) ?_; intro va2 vc2 w7 hown7 hb7 hk7 hs7)
          have Hb7 := Lib.hid (hb7 w.heap.size w (Nat.le_refl _) Hb.out); have Hown7 := Lib.hid hown7
          clear hown7 hb7 hk7
          go_roundw
          case rel => exact ⟨i + 1, done ++ [u], [], va2, vc2, by omega, by go_num, rfl, by simp, by simp, fun _ => by rw [Hall.out, if_neg hu0]; simp, fun h => by omega, by simpa using Hown7.out, Hb7.out⟩
          case measure => simp [intOf]; omega
      · rw [wordsOf_no hsp] at hall
        have hg32 : ((((bs l)[i]'hbsz).toNat : Int) != 32) = true := by rw [hget hbsz, bne_iff_ne]; exact toNat_ne hb1
        have hg9 : ((((bs l)[i]'hbsz).toNat : Int) != 9) = true := by rw [hget hbsz, bne_iff_ne]; exact toNat_ne hb2
        have Hall := Lib.hid hall
        clear hall hsp hget hb1 hb2
        have r0 : bs u ++ bs [b] = bs (u ++ [b]) := bs_append _ _
        go_wp2_with fail
        go_roundw
        case rel => exact ⟨i + 1, done, u ++ [b], va, vc, by omega, by go_num, rfl, rfl, by simp; omega, fun _ => Hall.out, fun h => by omega, Hown.out, Hb.out⟩
        case measure => simp [intOf]; omega
    · by_cases hie : i = l.length
      · subst hie
        have hall := H1.out (Nat.le_refl _)
        rw [List.drop_length, wordsOf_end] at hall
        have hdl : done.length ≤ l.length + 1 := by
          have := congrArg List.length hall
          rw [List.length_append] at this; omega
        have hbz := Hb.out.size
        have Hall := Lib.hid hall
        clear hall
        by_cases hu0 : u = []
        · subst hu0
          go_wp2_with fail
          go_roundw
          case rel => exact ⟨l.length + 1, done, [], va, vc, by omega, by go_num, rfl, rfl, by simp, fun h => by omega, fun _ => by rw [Hall.out]; simp, Hown.out, Hb.out⟩
          case measure => simp [intOf]
        · have hue : (u == []) = false := by simpa using hu0
          go_wp2_with (refine wpList_append_strs rfl (.tmp 37) (.tmp 39) 52 rfl Tryz.underlying52 w.heap.size wr va done.length vc _ [u] rfl Hown.out rfl rfl (by simp; omega) (by omega) ?_; intro va2 vc2 w7 hown7 hb7 hk7 hs7)
          have Hb7 := Lib.hid (hb7 w.heap.size w (Nat.le_refl _) Hb.out); have Hown7 := Lib.hid hown7
          clear hown7 hb7 hk7
          go_roundw
          case rel => exact ⟨l.length + 1, done ++ [u], [], va2, vc2, by omega, by go_num, rfl, by simp, by simp, fun h => by omega, fun _ => by rw [Hall.out, if_neg hu0], by simpa using Hown7.out, Hb7.out⟩
          case measure => simp [intOf]
      · obtain rfl : i = l.length + 1 := by omega
        have hw := H2.out rfl
        have hle : ¬ (((l.length + 1 : Nat) : Int) ≤ (l.length : Int)) := by omega
        have Hw := Lib.hid hw; clear hw
        go_wp2_with fail
        go_ret
        exact ⟨va, vc, by rw [Hw.out]; rfl, by rw [Hw.out]; exact Hown.out, Hb.out⟩
end Go.Proofs.YtpicmhbjiaegpaaGreatDoor
