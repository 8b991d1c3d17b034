/-
  DERIVED. The walks of operand.kinds, ranges, within (printed by mkOkB.py).
-/
import Derived.Test.YtpicmhbjiaegpaaGreatDoorGae
namespace Go.Proofs.YtpicmhbjiaegpaaGreatDoor
open Go.RowKit

def RetKinds (w : World) (e : Ending) (w' : World) : Prop := ∃ b, e = .returned (.map (some b)) ∧ w.heap.size ≤ b ∧ MapK w' b tabAll ∧ Below w.heap.size w w'
def KRel (l : KTab) (w : World) (wr : World) : Prop := MapK wr w.heap.size l ∧ Below w.heap.size w wr
theorem KRel.step {l l' : KTab} {w wr w' : World} (h : KRel l w wr) (hm : MapK w' w.heap.size l') (hg : wr.grownBy w' (some w.heap.size)) : KRel l' w w' :=
  ⟨hm, h.2.grown hg h.2.size (fun k hk => by cases hk; exact Nat.le_refl _)⟩
theorem KRel.eq {l l' : KTab} {w wr : World} (h : KRel l w wr) (e : l = l') : KRel l' w wr := e ▸ h

set_option maxRecDepth 100000 in
set_option maxHeartbeats 6400000 in
theorem kinds_any (w : World) : Calls Tryz.prog 63 #[] w (RetKinds w) := by
  have hmm := @run_makeMap Tryz.prog
  have H0 : Hid (KRel [] w (w.alloc (.map #[] 0))) := Lib.hid ⟨⟨#[], 0, heap_alloc_new w _, rfl⟩, (Below.refl _ _).alloc (Nat.le_refl _) _⟩
  go_enter Tryz.func63, Tryz.ntmps63
  go_wp2_with (refine wpList_update_K (kt := 9) (e := 48) Tryz.underlying114 Tryz.underlying9 rfl _ _ _ (Or.inr rfl) H0.out.1 [76, 65, 71, 82] [2] rfl rfl rfl rfl ?_)
  intro w1 hm hg
  have H1 := Lib.hid (H0.out.step hm hg); clear hm hg
  go_wp2_with (refine wpList_update_K (kt := 9) (e := 48) Tryz.underlying114 Tryz.underlying9 rfl _ _ _ (Or.inr rfl) H1.out.1 [84, 82, 65, 67] [] rfl rfl rfl rfl ?_)
  intro w2 hm hg
  have H2 := Lib.hid (H1.out.step hm hg); clear hm hg
  go_wp2_with (refine wpList_update_K (kt := 9) (e := 48) Tryz.underlying114 Tryz.underlying9 rfl _ _ _ (Or.inr rfl) H2.out.1 [80, 65, 82, 77] [3, 4] rfl rfl rfl rfl ?_)
  intro w3 hm hg
  have H3 := Lib.hid (H2.out.step hm hg); clear hm hg
  go_wp2_with (refine wpList_update_K (kt := 9) (e := 48) Tryz.underlying114 Tryz.underlying9 rfl _ _ _ (Or.inr rfl) H3.out.1 [69, 68, 71, 69] [3, 7] rfl rfl rfl rfl ?_)
  intro w4 hm hg
  have H4 := Lib.hid (H3.out.step hm hg); clear hm hg
  go_wp2_with (refine wpList_update_K (kt := 9) (e := 48) Tryz.underlying114 Tryz.underlying9 rfl _ _ _ (Or.inr rfl) H4.out.1 [79, 80, 68, 70] [2, 1, 8, 8] rfl rfl rfl rfl ?_)
  intro w5 hm hg
  have H5 := Lib.hid (H4.out.step hm hg); clear hm hg
  have HA : Hid (KRel tabA w w5) := Lib.hid H5.out
  clear H0 H1 H2 H3 H4 H5
  go_wp2_with fail
  go_loopw [16] (fun iv wr => ∃ k : Nat, k ≤ 4 ∧ iv = .int .i64 (k : Int) ∧ KRel (tabA ++ tabB.take k) w wr) (fun iv _ => 4 - (intOf iv).toNat)
  case atStart => exact ⟨0, Nat.zero_le _, rfl, HA.out.eq rfl⟩
  case round =>
    obtain ⟨k, hk, rfl, hkr⟩ := hrel
    have HK := Lib.hid hkr; clear hkr HA
    have hways : k = 0 ∨ k = 1 ∨ k = 2 ∨ k = 3 ∨ k = 4 := by omega
    rcases hways with rfl | rfl | rfl | rfl | rfl
    · have ix : ∀ w, (Instr.index 140 (.agg #[.string { data := #[69, 70, 70, 76] }, .string { data := #[66, 65, 67, 75] }, .string { data := #[70, 78, 85, 77] }, .string { data := #[68, 69, 70, 79] }]) (.int .i64 0)).run Tryz.prog w = .ok (.string { data := #[69, 70, 70, 76] }) w := fun _ => by kernel_rfl
      go_wp2_with (refine wpList_update_K (kt := 9) (e := 48) Tryz.underlying114 Tryz.underlying9 rfl _ _ _ (Or.inl rfl) HK.out.1 [69, 70, 70, 76] [1] rfl rfl rfl rfl ?_)
      intro w9 hm hg
      have H9 := Lib.hid (HK.out.step hm hg); clear hm hg
      go_wp2_with fail
      go_roundw
      case rel => exact ⟨1, by omega, rfl, H9.out.eq rfl⟩
      case measure => simp [intOf]
    · have ix : ∀ w, (Instr.index 140 (.agg #[.string { data := #[69, 70, 70, 76] }, .string { data := #[66, 65, 67, 75] }, .string { data := #[70, 78, 85, 77] }, .string { data := #[68, 69, 70, 79] }]) (.int .i64 1)).run Tryz.prog w = .ok (.string { data := #[66, 65, 67, 75] }) w := fun _ => by kernel_rfl
      go_wp2_with (refine wpList_update_K (kt := 9) (e := 48) Tryz.underlying114 Tryz.underlying9 rfl _ _ _ (Or.inl rfl) HK.out.1 [66, 65, 67, 75] [1] rfl rfl rfl rfl ?_)
      intro w9 hm hg
      have H9 := Lib.hid (HK.out.step hm hg); clear hm hg
      go_wp2_with fail
      go_roundw
      case rel => exact ⟨2, by omega, rfl, H9.out.eq rfl⟩
      case measure => simp [intOf]
    · have ix : ∀ w, (Instr.index 140 (.agg #[.string { data := #[69, 70, 70, 76] }, .string { data := #[66, 65, 67, 75] }, .string { data := #[70, 78, 85, 77] }, .string { data := #[68, 69, 70, 79] }]) (.int .i64 2)).run Tryz.prog w = .ok (.string { data := #[70, 78, 85, 77] }) w := fun _ => by kernel_rfl
      go_wp2_with (refine wpList_update_K (kt := 9) (e := 48) Tryz.underlying114 Tryz.underlying9 rfl _ _ _ (Or.inl rfl) HK.out.1 [70, 78, 85, 77] [1] rfl rfl rfl rfl ?_)
      intro w9 hm hg
      have H9 := Lib.hid (HK.out.step hm hg); clear hm hg
      go_wp2_with fail
      go_roundw
      case rel => exact ⟨3, by omega, rfl, H9.out.eq rfl⟩
      case measure => simp [intOf]
    · have ix : ∀ w, (Instr.index 140 (.agg #[.string { data := #[69, 70, 70, 76] }, .string { data := #[66, 65, 67, 75] }, .string { data := #[70, 78, 85, 77] }, .string { data := #[68, 69, 70, 79] }]) (.int .i64 3)).run Tryz.prog w = .ok (.string { data := #[68, 69, 70, 79] }) w := fun _ => by kernel_rfl
      go_wp2_with (refine wpList_update_K (kt := 9) (e := 48) Tryz.underlying114 Tryz.underlying9 rfl _ _ _ (Or.inl rfl) HK.out.1 [68, 69, 70, 79] [1] rfl rfl rfl rfl ?_)
      intro w9 hm hg
      have H9 := Lib.hid (HK.out.step hm hg); clear hm hg
      go_wp2_with fail
      go_roundw
      case rel => exact ⟨4, by omega, rfl, H9.out.eq rfl⟩
      case measure => simp [intOf]
    · have HB : Hid (KRel (tabA ++ tabB) w wr) := HK
      clear HK hk
      rw [show ((4 : Nat) : Int) = 4 from rfl]
      go_wp2_with fail
      go_loopw [24] (fun iv wr => ∃ k : Nat, k ≤ 7 ∧ iv = .int .i64 (k : Int) ∧ KRel ((tabA ++ tabB) ++ tabC.take k) w wr) (fun iv _ => 7 - (intOf iv).toNat)
      case atStart => exact ⟨0, Nat.zero_le _, rfl, HB.out.eq rfl⟩
      case round =>
        obtain ⟨k, hk, rfl, hkr⟩ := hrel
        have HK := Lib.hid hkr; clear hkr HB
        have hways : k = 0 ∨ k = 1 ∨ k = 2 ∨ k = 3 ∨ k = 4 ∨ k = 5 ∨ k = 6 ∨ k = 7 := by omega
        rcases hways with rfl | rfl | rfl | rfl | rfl | rfl | rfl | rfl
        · have ix : ∀ w, (Instr.index 141 (.agg #[.string { data := #[72, 73, 77, 71] }, .string { data := #[83, 80, 72, 65] }, .string { data := #[67, 79, 77, 65] }, .string { data := #[65, 83, 84, 73] }, .string { data := #[80, 69, 84, 90] }, .string { data := #[68, 73, 83, 84] }, .string { data := #[68, 83, 84, 82] }]) (.int .i64 0)).run Tryz.prog w = .ok (.string { data := #[72, 73, 77, 71] }) w := fun _ => by kernel_rfl
          go_wp2_with (refine wpList_update_K (kt := 9) (e := 48) Tryz.underlying114 Tryz.underlying9 rfl _ _ _ (Or.inl rfl) HK.out.1 [72, 73, 77, 71] [1, 2] rfl rfl rfl rfl ?_)
          intro w9 hm hg
          have H9 := Lib.hid (HK.out.step hm hg); clear hm hg
          go_wp2_with fail
          go_roundw
          case rel => exact ⟨1, by omega, rfl, H9.out.eq rfl⟩
          case measure => simp [intOf]
        · have ix : ∀ w, (Instr.index 141 (.agg #[.string { data := #[72, 73, 77, 71] }, .string { data := #[83, 80, 72, 65] }, .string { data := #[67, 79, 77, 65] }, .string { data := #[65, 83, 84, 73] }, .string { data := #[80, 69, 84, 90] }, .string { data := #[68, 73, 83, 84] }, .string { data := #[68, 83, 84, 82] }]) (.int .i64 1)).run Tryz.prog w = .ok (.string { data := #[83, 80, 72, 65] }) w := fun _ => by kernel_rfl
          go_wp2_with (refine wpList_update_K (kt := 9) (e := 48) Tryz.underlying114 Tryz.underlying9 rfl _ _ _ (Or.inl rfl) HK.out.1 [83, 80, 72, 65] [1, 2] rfl rfl rfl rfl ?_)
          intro w9 hm hg
          have H9 := Lib.hid (HK.out.step hm hg); clear hm hg
          go_wp2_with fail
          go_roundw
          case rel => exact ⟨2, by omega, rfl, H9.out.eq rfl⟩
          case measure => simp [intOf]
        · have ix : ∀ w, (Instr.index 141 (.agg #[.string { data := #[72, 73, 77, 71] }, .string { data := #[83, 80, 72, 65] }, .string { data := #[67, 79, 77, 65] }, .string { data := #[65, 83, 84, 73] }, .string { data := #[80, 69, 84, 90] }, .string { data := #[68, 73, 83, 84] }, .string { data := #[68, 83, 84, 82] }]) (.int .i64 2)).run Tryz.prog w = .ok (.string { data := #[67, 79, 77, 65] }) w := fun _ => by kernel_rfl
          go_wp2_with (refine wpList_update_K (kt := 9) (e := 48) Tryz.underlying114 Tryz.underlying9 rfl _ _ _ (Or.inl rfl) HK.out.1 [67, 79, 77, 65] [1, 2] rfl rfl rfl rfl ?_)
          intro w9 hm hg
          have H9 := Lib.hid (HK.out.step hm hg); clear hm hg
          go_wp2_with fail
          go_roundw
          case rel => exact ⟨3, by omega, rfl, H9.out.eq rfl⟩
          case measure => simp [intOf]
        · have ix : ∀ w, (Instr.index 141 (.agg #[.string { data := #[72, 73, 77, 71] }, .string { data := #[83, 80, 72, 65] }, .string { data := #[67, 79, 77, 65] }, .string { data := #[65, 83, 84, 73] }, .string { data := #[80, 69, 84, 90] }, .string { data := #[68, 73, 83, 84] }, .string { data := #[68, 83, 84, 82] }]) (.int .i64 3)).run Tryz.prog w = .ok (.string { data := #[65, 83, 84, 73] }) w := fun _ => by kernel_rfl
          go_wp2_with (refine wpList_update_K (kt := 9) (e := 48) Tryz.underlying114 Tryz.underlying9 rfl _ _ _ (Or.inl rfl) HK.out.1 [65, 83, 84, 73] [1, 2] rfl rfl rfl rfl ?_)
          intro w9 hm hg
          have H9 := Lib.hid (HK.out.step hm hg); clear hm hg
          go_wp2_with fail
          go_roundw
          case rel => exact ⟨4, by omega, rfl, H9.out.eq rfl⟩
          case measure => simp [intOf]
        · have ix : ∀ w, (Instr.index 141 (.agg #[.string { data := #[72, 73, 77, 71] }, .string { data := #[83, 80, 72, 65] }, .string { data := #[67, 79, 77, 65] }, .string { data := #[65, 83, 84, 73] }, .string { data := #[80, 69, 84, 90] }, .string { data := #[68, 73, 83, 84] }, .string { data := #[68, 83, 84, 82] }]) (.int .i64 4)).run Tryz.prog w = .ok (.string { data := #[80, 69, 84, 90] }) w := fun _ => by kernel_rfl
          go_wp2_with (refine wpList_update_K (kt := 9) (e := 48) Tryz.underlying114 Tryz.underlying9 rfl _ _ _ (Or.inl rfl) HK.out.1 [80, 69, 84, 90] [1, 2] rfl rfl rfl rfl ?_)
          intro w9 hm hg
          have H9 := Lib.hid (HK.out.step hm hg); clear hm hg
          go_wp2_with fail
          go_roundw
          case rel => exact ⟨5, by omega, rfl, H9.out.eq rfl⟩
          case measure => simp [intOf]
        · have ix : ∀ w, (Instr.index 141 (.agg #[.string { data := #[72, 73, 77, 71] }, .string { data := #[83, 80, 72, 65] }, .string { data := #[67, 79, 77, 65] }, .string { data := #[65, 83, 84, 73] }, .string { data := #[80, 69, 84, 90] }, .string { data := #[68, 73, 83, 84] }, .string { data := #[68, 83, 84, 82] }]) (.int .i64 5)).run Tryz.prog w = .ok (.string { data := #[68, 73, 83, 84] }) w := fun _ => by kernel_rfl
          go_wp2_with (refine wpList_update_K (kt := 9) (e := 48) Tryz.underlying114 Tryz.underlying9 rfl _ _ _ (Or.inl rfl) HK.out.1 [68, 73, 83, 84] [1, 2] rfl rfl rfl rfl ?_)
          intro w9 hm hg
          have H9 := Lib.hid (HK.out.step hm hg); clear hm hg
          go_wp2_with fail
          go_roundw
          case rel => exact ⟨6, by omega, rfl, H9.out.eq rfl⟩
          case measure => simp [intOf]
        · have ix : ∀ w, (Instr.index 141 (.agg #[.string { data := #[72, 73, 77, 71] }, .string { data := #[83, 80, 72, 65] }, .string { data := #[67, 79, 77, 65] }, .string { data := #[65, 83, 84, 73] }, .string { data := #[80, 69, 84, 90] }, .string { data := #[68, 73, 83, 84] }, .string { data := #[68, 83, 84, 82] }]) (.int .i64 6)).run Tryz.prog w = .ok (.string { data := #[68, 83, 84, 82] }) w := fun _ => by kernel_rfl
          go_wp2_with (refine wpList_update_K (kt := 9) (e := 48) Tryz.underlying114 Tryz.underlying9 rfl _ _ _ (Or.inl rfl) HK.out.1 [68, 83, 84, 82] [1, 2] rfl rfl rfl rfl ?_)
          intro w9 hm hg
          have H9 := Lib.hid (HK.out.step hm hg); clear hm hg
          go_wp2_with fail
          go_roundw
          case rel => exact ⟨7, by omega, rfl, H9.out.eq rfl⟩
          case measure => simp [intOf]
        · have HC : Hid (KRel (tabA ++ tabB ++ tabC) w wr) := HK
          clear HK hk
          rw [show ((7 : Nat) : Int) = 7 from rfl]
          go_wp2_with fail
          go_loopw [32] (fun iv wr => ∃ k : Nat, k ≤ 8 ∧ iv = .int .i64 (k : Int) ∧ KRel ((tabA ++ tabB ++ tabC) ++ tabD.take k) w wr) (fun iv _ => 8 - (intOf iv).toNat)
          case atStart => exact ⟨0, Nat.zero_le _, rfl, HC.out.eq rfl⟩
          case round =>
            obtain ⟨k, hk, rfl, hkr⟩ := hrel
            have HK := Lib.hid hkr; clear hkr HC
            have hways : k = 0 ∨ k = 1 ∨ k = 2 ∨ k = 3 ∨ k = 4 ∨ k = 5 ∨ k = 6 ∨ k = 7 ∨ k = 8 := by omega
            rcases hways with rfl | rfl | rfl | rfl | rfl | rfl | rfl | rfl | rfl
            · have ix : ∀ w, (Instr.index 65 (.agg #[.string { data := #[65, 88, 67, 76] }, .string { data := #[76, 65, 67, 76] }, .string { data := #[82, 69, 65, 88] }, .string { data := #[82, 69, 65, 89] }, .string { data := #[83, 80, 79, 84] }, .string { data := #[69, 88, 84, 69] }, .string { data := #[77, 84, 70, 88] }, .string { data := #[77, 84, 70, 89] }]) (.int .i64 0)).run Tryz.prog w = .ok (.string { data := #[65, 88, 67, 76] }) w := fun _ => by kernel_rfl
              have iy : ∀ w, (Instr.index 142 (.agg #[.int .i64 1, .int .i64 1, .int .i64 2, .int .i64 0, .int .i64 0, .int .i64 3, .int .i64 2, .int .i64 1, .int .i64 8, .int .i64 8, .int .i64 2, .int .i64 1, .int .i64 5, .int .i64 0, .int .i64 0, .int .i64 2, .int .i64 1, .int .i64 5, .int .i64 6, .int .i64 0]) (.int .i64 0)).run Tryz.prog w = .ok (.agg #[.int .i64 1, .int .i64 1, .int .i64 2, .int .i64 0, .int .i64 0]) w := fun _ => by kernel_rfl
              go_wp2_with (refine wpList_update_K (kt := 9) (e := 48) Tryz.underlying114 Tryz.underlying9 rfl _ _ _ (Or.inl rfl) HK.out.1 [65, 88, 67, 76] [1, 1, 2] rfl rfl rfl rfl ?_)
              intro w9 hm hg
              have H9 := Lib.hid (HK.out.step hm hg); clear hm hg
              go_wp2_with fail
              go_roundw
              case rel => exact ⟨1, by omega, rfl, H9.out.eq rfl⟩
              case measure => simp [intOf]
            · have ix : ∀ w, (Instr.index 65 (.agg #[.string { data := #[65, 88, 67, 76] }, .string { data := #[76, 65, 67, 76] }, .string { data := #[82, 69, 65, 88] }, .string { data := #[82, 69, 65, 89] }, .string { data := #[83, 80, 79, 84] }, .string { data := #[69, 88, 84, 69] }, .string { data := #[77, 84, 70, 88] }, .string { data := #[77, 84, 70, 89] }]) (.int .i64 1)).run Tryz.prog w = .ok (.string { data := #[76, 65, 67, 76] }) w := fun _ => by kernel_rfl
              have iy : ∀ w, (Instr.index 142 (.agg #[.int .i64 1, .int .i64 1, .int .i64 2, .int .i64 0, .int .i64 0, .int .i64 3, .int .i64 2, .int .i64 1, .int .i64 8, .int .i64 8, .int .i64 2, .int .i64 1, .int .i64 5, .int .i64 0, .int .i64 0, .int .i64 2, .int .i64 1, .int .i64 5, .int .i64 6, .int .i64 0]) (.int .i64 0)).run Tryz.prog w = .ok (.agg #[.int .i64 1, .int .i64 1, .int .i64 2, .int .i64 0, .int .i64 0]) w := fun _ => by kernel_rfl
              go_wp2_with (refine wpList_update_K (kt := 9) (e := 48) Tryz.underlying114 Tryz.underlying9 rfl _ _ _ (Or.inl rfl) HK.out.1 [76, 65, 67, 76] [1, 1, 2] rfl rfl rfl rfl ?_)
              intro w9 hm hg
              have H9 := Lib.hid (HK.out.step hm hg); clear hm hg
              go_wp2_with fail
              go_roundw
              case rel => exact ⟨2, by omega, rfl, H9.out.eq rfl⟩
              case measure => simp [intOf]
            · have ix : ∀ w, (Instr.index 65 (.agg #[.string { data := #[65, 88, 67, 76] }, .string { data := #[76, 65, 67, 76] }, .string { data := #[82, 69, 65, 88] }, .string { data := #[82, 69, 65, 89] }, .string { data := #[83, 80, 79, 84] }, .string { data := #[69, 88, 84, 69] }, .string { data := #[77, 84, 70, 88] }, .string { data := #[77, 84, 70, 89] }]) (.int .i64 2)).run Tryz.prog w = .ok (.string { data := #[82, 69, 65, 88] }) w := fun _ => by kernel_rfl
              have iy : ∀ w, (Instr.index 142 (.agg #[.int .i64 1, .int .i64 1, .int .i64 2, .int .i64 0, .int .i64 0, .int .i64 3, .int .i64 2, .int .i64 1, .int .i64 8, .int .i64 8, .int .i64 2, .int .i64 1, .int .i64 5, .int .i64 0, .int .i64 0, .int .i64 2, .int .i64 1, .int .i64 5, .int .i64 6, .int .i64 0]) (.int .i64 1)).run Tryz.prog w = .ok (.agg #[.int .i64 3, .int .i64 2, .int .i64 1, .int .i64 8, .int .i64 8]) w := fun _ => by kernel_rfl
              go_wp2_with (refine wpList_update_K (kt := 9) (e := 48) Tryz.underlying114 Tryz.underlying9 rfl _ _ _ (Or.inl rfl) HK.out.1 [82, 69, 65, 88] [3, 2, 1, 8, 8] rfl rfl rfl rfl ?_)
              intro w9 hm hg
              have H9 := Lib.hid (HK.out.step hm hg); clear hm hg
              go_wp2_with fail
              go_roundw
              case rel => exact ⟨3, by omega, rfl, H9.out.eq rfl⟩
              case measure => simp [intOf]
            · have ix : ∀ w, (Instr.index 65 (.agg #[.string { data := #[65, 88, 67, 76] }, .string { data := #[76, 65, 67, 76] }, .string { data := #[82, 69, 65, 88] }, .string { data := #[82, 69, 65, 89] }, .string { data := #[83, 80, 79, 84] }, .string { data := #[69, 88, 84, 69] }, .string { data := #[77, 84, 70, 88] }, .string { data := #[77, 84, 70, 89] }]) (.int .i64 3)).run Tryz.prog w = .ok (.string { data := #[82, 69, 65, 89] }) w := fun _ => by kernel_rfl
              have iy : ∀ w, (Instr.index 142 (.agg #[.int .i64 1, .int .i64 1, .int .i64 2, .int .i64 0, .int .i64 0, .int .i64 3, .int .i64 2, .int .i64 1, .int .i64 8, .int .i64 8, .int .i64 2, .int .i64 1, .int .i64 5, .int .i64 0, .int .i64 0, .int .i64 2, .int .i64 1, .int .i64 5, .int .i64 6, .int .i64 0]) (.int .i64 1)).run Tryz.prog w = .ok (.agg #[.int .i64 3, .int .i64 2, .int .i64 1, .int .i64 8, .int .i64 8]) w := fun _ => by kernel_rfl
              go_wp2_with (refine wpList_update_K (kt := 9) (e := 48) Tryz.underlying114 Tryz.underlying9 rfl _ _ _ (Or.inl rfl) HK.out.1 [82, 69, 65, 89] [3, 2, 1, 8, 8] rfl rfl rfl rfl ?_)
              intro w9 hm hg
              have H9 := Lib.hid (HK.out.step hm hg); clear hm hg
              go_wp2_with fail
              go_roundw
              case rel => exact ⟨4, by omega, rfl, H9.out.eq rfl⟩
              case measure => simp [intOf]
            · have ix : ∀ w, (Instr.index 65 (.agg #[.string { data := #[65, 88, 67, 76] }, .string { data := #[76, 65, 67, 76] }, .string { data := #[82, 69, 65, 88] }, .string { data := #[82, 69, 65, 89] }, .string { data := #[83, 80, 79, 84] }, .string { data := #[69, 88, 84, 69] }, .string { data := #[77, 84, 70, 88] }, .string { data := #[77, 84, 70, 89] }]) (.int .i64 4)).run Tryz.prog w = .ok (.string { data := #[83, 80, 79, 84] }) w := fun _ => by kernel_rfl
              have iy : ∀ w, (Instr.index 142 (.agg #[.int .i64 1, .int .i64 1, .int .i64 2, .int .i64 0, .int .i64 0, .int .i64 3, .int .i64 2, .int .i64 1, .int .i64 8, .int .i64 8, .int .i64 2, .int .i64 1, .int .i64 5, .int .i64 0, .int .i64 0, .int .i64 2, .int .i64 1, .int .i64 5, .int .i64 6, .int .i64 0]) (.int .i64 2)).run Tryz.prog w = .ok (.agg #[.int .i64 2, .int .i64 1, .int .i64 5, .int .i64 0, .int .i64 0]) w := fun _ => by kernel_rfl
              go_wp2_with (refine wpList_update_K (kt := 9) (e := 48) Tryz.underlying114 Tryz.underlying9 rfl _ _ _ (Or.inl rfl) HK.out.1 [83, 80, 79, 84] [2, 1, 5] rfl rfl rfl rfl ?_)
              intro w9 hm hg
              have H9 := Lib.hid (HK.out.step hm hg); clear hm hg
              go_wp2_with fail
              go_roundw
              case rel => exact ⟨5, by omega, rfl, H9.out.eq rfl⟩
              case measure => simp [intOf]
            · have ix : ∀ w, (Instr.index 65 (.agg #[.string { data := #[65, 88, 67, 76] }, .string { data := #[76, 65, 67, 76] }, .string { data := #[82, 69, 65, 88] }, .string { data := #[82, 69, 65, 89] }, .string { data := #[83, 80, 79, 84] }, .string { data := #[69, 88, 84, 69] }, .string { data := #[77, 84, 70, 88] }, .string { data := #[77, 84, 70, 89] }]) (.int .i64 5)).run Tryz.prog w = .ok (.string { data := #[69, 88, 84, 69] }) w := fun _ => by kernel_rfl
              have iy : ∀ w, (Instr.index 142 (.agg #[.int .i64 1, .int .i64 1, .int .i64 2, .int .i64 0, .int .i64 0, .int .i64 3, .int .i64 2, .int .i64 1, .int .i64 8, .int .i64 8, .int .i64 2, .int .i64 1, .int .i64 5, .int .i64 0, .int .i64 0, .int .i64 2, .int .i64 1, .int .i64 5, .int .i64 6, .int .i64 0]) (.int .i64 2)).run Tryz.prog w = .ok (.agg #[.int .i64 2, .int .i64 1, .int .i64 5, .int .i64 0, .int .i64 0]) w := fun _ => by kernel_rfl
              go_wp2_with (refine wpList_update_K (kt := 9) (e := 48) Tryz.underlying114 Tryz.underlying9 rfl _ _ _ (Or.inl rfl) HK.out.1 [69, 88, 84, 69] [2, 1, 5] rfl rfl rfl rfl ?_)
              intro w9 hm hg
              have H9 := Lib.hid (HK.out.step hm hg); clear hm hg
              go_wp2_with fail
              go_roundw
              case rel => exact ⟨6, by omega, rfl, H9.out.eq rfl⟩
              case measure => simp [intOf]
            · have ix : ∀ w, (Instr.index 65 (.agg #[.string { data := #[65, 88, 67, 76] }, .string { data := #[76, 65, 67, 76] }, .string { data := #[82, 69, 65, 88] }, .string { data := #[82, 69, 65, 89] }, .string { data := #[83, 80, 79, 84] }, .string { data := #[69, 88, 84, 69] }, .string { data := #[77, 84, 70, 88] }, .string { data := #[77, 84, 70, 89] }]) (.int .i64 6)).run Tryz.prog w = .ok (.string { data := #[77, 84, 70, 88] }) w := fun _ => by kernel_rfl
              have iy : ∀ w, (Instr.index 142 (.agg #[.int .i64 1, .int .i64 1, .int .i64 2, .int .i64 0, .int .i64 0, .int .i64 3, .int .i64 2, .int .i64 1, .int .i64 8, .int .i64 8, .int .i64 2, .int .i64 1, .int .i64 5, .int .i64 0, .int .i64 0, .int .i64 2, .int .i64 1, .int .i64 5, .int .i64 6, .int .i64 0]) (.int .i64 3)).run Tryz.prog w = .ok (.agg #[.int .i64 2, .int .i64 1, .int .i64 5, .int .i64 6, .int .i64 0]) w := fun _ => by kernel_rfl
              go_wp2_with (refine wpList_update_K (kt := 9) (e := 48) Tryz.underlying114 Tryz.underlying9 rfl _ _ _ (Or.inl rfl) HK.out.1 [77, 84, 70, 88] [2, 1, 5, 6] rfl rfl rfl rfl ?_)
              intro w9 hm hg
              have H9 := Lib.hid (HK.out.step hm hg); clear hm hg
              go_wp2_with fail
              go_roundw
              case rel => exact ⟨7, by omega, rfl, H9.out.eq rfl⟩
              case measure => simp [intOf]
            · have ix : ∀ w, (Instr.index 65 (.agg #[.string { data := #[65, 88, 67, 76] }, .string { data := #[76, 65, 67, 76] }, .string { data := #[82, 69, 65, 88] }, .string { data := #[82, 69, 65, 89] }, .string { data := #[83, 80, 79, 84] }, .string { data := #[69, 88, 84, 69] }, .string { data := #[77, 84, 70, 88] }, .string { data := #[77, 84, 70, 89] }]) (.int .i64 7)).run Tryz.prog w = .ok (.string { data := #[77, 84, 70, 89] }) w := fun _ => by kernel_rfl
              have iy : ∀ w, (Instr.index 142 (.agg #[.int .i64 1, .int .i64 1, .int .i64 2, .int .i64 0, .int .i64 0, .int .i64 3, .int .i64 2, .int .i64 1, .int .i64 8, .int .i64 8, .int .i64 2, .int .i64 1, .int .i64 5, .int .i64 0, .int .i64 0, .int .i64 2, .int .i64 1, .int .i64 5, .int .i64 6, .int .i64 0]) (.int .i64 3)).run Tryz.prog w = .ok (.agg #[.int .i64 2, .int .i64 1, .int .i64 5, .int .i64 6, .int .i64 0]) w := fun _ => by kernel_rfl
              go_wp2_with (refine wpList_update_K (kt := 9) (e := 48) Tryz.underlying114 Tryz.underlying9 rfl _ _ _ (Or.inl rfl) HK.out.1 [77, 84, 70, 89] [2, 1, 5, 6] rfl rfl rfl rfl ?_)
              intro w9 hm hg
              have H9 := Lib.hid (HK.out.step hm hg); clear hm hg
              go_wp2_with fail
              go_roundw
              case rel => exact ⟨8, by omega, rfl, H9.out.eq rfl⟩
              case measure => simp [intOf]
            · have HD : Hid (KRel tabAll w wr) := HK
              clear HK hk
              go_wp2_with fail
              go_ret
              exact ⟨w.heap.size, rfl, Nat.le_refl _, HD.out.1, HD.out.2⟩
end Go.Proofs.YtpicmhbjiaegpaaGreatDoor
