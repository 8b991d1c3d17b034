/-
  A line that is no operand is found with its index, whatever stands behind it, and a thirteenth operand is too many: for every input the law OperandStops returns true and its input reads as it did, where the listed variables hold what the program's text lays.
-/
import Derived.Test.YtpicmhbjiaegpaaGreatDoorLaa
import Derived.Test.YtpicmhbjiaegpaaGreatDoorGah
import Derived.Test.YtpicmhbjiaegpaaGreatDoorGae
namespace Go.Proofs.YtpicmhbjiaegpaaGreatDoor
open Go.ChangeShapes Go.WideShapes Go.ChangeAt Go.RowKit

set_option maxRecDepth 100000 in
theorem stp_lifted (os : Os) (started : os.Started) (H : Type) (enc : TypeId × Value → H) :
    ReturnsInHanded {} Tryz.checked os 8 .any (fun w args => (Rows.operandStopsSpec.pre enc Tryz.prog Tryz.f8 [] false w args ∧ laidMetH Tryz.prog laid7 w) ∧ sizedMet enc Tryz.prog Tryz.f8 (OpenSpec.ofChange Rows.operandStopsSpec) false w args)
      (Rows.operandStopsSpec.post enc Tryz.prog Tryz.f8 false true false false) := by
  refine handed_shaped (C := Tryz.checked) (X := fun w _ => laidMetH Tryz.prog laid7 w) (fun _ _ _ hh h => h.of_heap hh) ownKnob_no started (by kernel_rfl) Tryz.func8
    (ChangeSpec.witness_shaped (enc := enc) (C := Tryz.checked) (os := os) (X := fun w _ => laidMetH Tryz.prog laid7 w) false (World.laidAll Tryz.prog os laid7)
      #[.slice none 0 0, .int .u8 0, .int .u8 0, .string ⟨#[]⟩] 8 (World.laidAll_os _ _ _) (laid_shaped os _) (by kernel_rfl) (by kernel_rfl) (by kernel_rfl) (laid_world os _)) ?_
  intro W base args ds gs before hval0 hW hL hsh
  have hval : ∀ (j : Nat) t v, Tryz.f8.params[j]? = some t → args[j]? = some v → Value.okWide Tryz.prog W .any base t v := hval0
  have hW' := hW
  obtain ⟨p, q, hA0, hV, rfl, hfz, hnd⟩ := hW
  have hA : DataW.TrodAll enc Tryz.prog W 0 (fun _ => true) true Tryz.f8.params.toList args.toList ds p := hA0
  rw [Tryz.params8] at hA hval
  obtain ⟨v0, vs0, d0, ds0, p0, q0, hargs, rfl, rfl, h0, r0⟩ := trodAll_cons hA
  obtain ⟨v1, vs1, d1, ds1, p1, q1, rfl, rfl, rfl, h1, r1⟩ := trodAll_cons r0
  obtain ⟨v2, vs2, d2, ds2, p2, q2, rfl, rfl, rfl, h2, r2⟩ := trodAll_cons r1
  obtain ⟨v3, vs3, d3, ds3, p3, q3, rfl, rfl, rfl, h3, r3⟩ := trodAll_cons r2
  obtain ⟨rfl, rfl, rfl⟩ := trodAll_nil r3
  obtain rfl : args = #[v0, v1, v2, v3] := by cases args; simp_all
  obtain ⟨rfl, rfl⟩ := trodVars_none hV
  obtain ⟨a0, n0, c0, rfl⟩ := okWide_slice Tryz.underlying22 (hval 0 22 v0 rfl rfl)
  obtain ⟨i1, rfl⟩ := okWide_int Tryz.underlying5 (hval 1 5 v1 rfl rfl)
  obtain ⟨i2, rfl⟩ := okWide_int Tryz.underlying5 (hval 2 5 v2 rfl rfl)
  obtain ⟨s3, rfl⟩ := okWide_string Tryz.underlying9 (hval 3 9 v3 rfl rfl)
  have g0 : Rd enc Tryz.prog W 0 (fun _ => true) true 22 (Value.slice a0 n0 c0).cells.toList := by
    obtain ⟨fuel, hf⟩ := h0
    exact ⟨fuel, _, hf⟩
  have g1 : Rd enc Tryz.prog W 0 (fun _ => true) true 5 (Value.int .u8 i1).cells.toList := by
    obtain ⟨fuel, hf⟩ := h1
    exact ⟨fuel, _, hf⟩
  have g2 : Rd enc Tryz.prog W 0 (fun _ => true) true 5 (Value.int .u8 i2).cells.toList := by
    obtain ⟨fuel, hf⟩ := h2
    exact ⟨fuel, _, hf⟩
  have g3 : Rd enc Tryz.prog W 0 (fun _ => true) true 9 (Value.string s3).cells.toList := by
    obtain ⟨fuel, hf⟩ := h3
    exact ⟨fuel, _, hf⟩
  obtain ⟨pt0, l0, e0, hn0, hr0, hd0⟩ := drafts_of Tryz.underlying22 g0
  obtain ⟨rfl, rfl, rfl⟩ : a0 = pt0.a ∧ n0 = pt0.n ∧ c0 = pt0.c := by simpa [Value.cells] using e0
  obtain ⟨z1, e1, hz1⟩ := rd_u8 Tryz.underlying5 g1
  obtain rfl : i1 = (z1 : Int) := by simpa using e1
  obtain ⟨z2, e2, hz2⟩ := rd_u8 Tryz.underlying5 g2
  obtain rfl : i2 = (z2 : Int) := by simpa using e2
  obtain ⟨t3, e3, ht3⟩ := rd_str Tryz.underlying9 g3
  obtain rfl : s3 = bs t3 := by simpa [Value.cells] using e3
  refine (stops_walk l0 z1 z2 t3 pt0.a pt0.n pt0.c W hr0 hn0 hz1 hz2 ht3 hd0 (gw_of hsh hL)).mono fun e W' ⟨he, bel⟩ => ?_
  subst he
  exact ⟨_, rfl, _, _, _, [], _, [], hW', trodAll_mk1 (shut_bool Tryz.underlying4 _), trodAll_below bel _ _ _ _ (all_of (by kernel_rfl)) hA, rfl, bel.frame _, fun h => by cases h⟩

theorem stp_said : Rows.OperandStopsSaid :=
  OpenClaim.holds_of_wide 8 Tryz.f8 rfl rfl rfl rfl rfl rfl rfl ⟨rfl, rfl, rfl, rfl, rfl⟩ rfl rfl rfl rfl rfl (by kernel_rfl) Tryz.func8 (by kernel_rfl)
    (of_decide_eq_true (by kernel_rfl)) (by unfold Func.isWrapper; first | (rw [if_pos (by decide +kernel)]; kernel_rfl) | (rw [if_neg (by decide +kernel)]; exact ⟨rfl, rfl⟩))
    (fun os started H enc _ => stp_lifted os started H enc)
end Go.Proofs.YtpicmhbjiaegpaaGreatDoor
