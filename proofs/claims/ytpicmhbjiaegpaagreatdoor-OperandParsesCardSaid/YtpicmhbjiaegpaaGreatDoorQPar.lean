/-
  Parse agrees with the reference: for every input the law OperandParses returns true and its input reads as it did, where the listed variables hold what the program's text lays.
-/
import Derived.Test.YtpicmhbjiaegpaaGreatDoorPaa
import Derived.Test.YtpicmhbjiaegpaaGreatDoorGah
import Derived.Test.YtpicmhbjiaegpaaGreatDoorGae
namespace Go.Proofs.YtpicmhbjiaegpaaGreatDoor
open Go.ChangeShapes Go.WideShapes Go.ChangeAt Go.RowKit

set_option maxRecDepth 100000 in
theorem par_lifted (os : Os) (started : os.Started) (H : Type) (enc : TypeId × Value → H) :
    ReturnsInHanded {} Tryz.checked os 3 .any (fun w args => (Rows.operandParsesSpec.pre enc Tryz.prog Tryz.f3 [] false w args ∧ laidMetH Tryz.prog laid7 w) ∧ sizedMet enc Tryz.prog Tryz.f3 (OpenSpec.ofChange Rows.operandParsesSpec) false w args)
      (Rows.operandParsesSpec.post enc Tryz.prog Tryz.f3 false true false false) := by
  refine handed_shaped (C := Tryz.checked) (X := fun w _ => laidMetH Tryz.prog laid7 w) (fun _ _ _ hh h => h.of_heap hh) ownKnob_no started (by kernel_rfl) Tryz.func3
    (ChangeSpec.witness_shaped (enc := enc) (C := Tryz.checked) (os := os) (X := fun w _ => laidMetH Tryz.prog laid7 w) false (World.laidAll Tryz.prog os laid7)
      #[.string ⟨#[]⟩, .slice none 0 0, .agg #[.int .u16 0, .int .u8 0, .string ⟨#[]⟩], .agg #[.int .u16 0, .int .u8 0, .string ⟨#[]⟩]] 8 (World.laidAll_os _ _ _) (laid_shaped os _) (by kernel_rfl) (by kernel_rfl) (by kernel_rfl) (laid_world os _)) ?_
  intro W base args ds gs before hval0 hW hL hsh
  have hval : ∀ (j : Nat) t v, Tryz.f3.params[j]? = some t → args[j]? = some v → Value.okWide Tryz.prog W .any base t v := hval0
  have hW' := hW
  obtain ⟨p, q, hA0, hV, rfl, hfz, hnd⟩ := hW
  have hA : DataW.TrodAll enc Tryz.prog W 0 (fun _ => true) true Tryz.f3.params.toList args.toList ds p := hA0
  rw [Tryz.params3] at hA hval
  obtain ⟨v0, vs0, d0, ds0, p0, q0, hargs, rfl, rfl, h0, r0⟩ := trodAll_cons hA
  obtain ⟨v1, vs1, d1, ds1, p1, q1, rfl, rfl, rfl, h1, r1⟩ := trodAll_cons r0
  obtain ⟨v2, vs2, d2, ds2, p2, q2, rfl, rfl, rfl, h2, r2⟩ := trodAll_cons r1
  obtain ⟨v3, vs3, d3, ds3, p3, q3, rfl, rfl, rfl, h3, r3⟩ := trodAll_cons r2
  obtain ⟨rfl, rfl, rfl⟩ := trodAll_nil r3
  obtain rfl : args = #[v0, v1, v2, v3] := by cases args; simp_all
  obtain ⟨rfl, rfl⟩ := trodVars_none hV
  obtain ⟨s0, rfl⟩ := okWide_string Tryz.underlying9 (hval 0 9 v0 rfl rfl)
  obtain ⟨a1, n1, c1, rfl⟩ := okWide_slice Tryz.underlying22 (hval 1 22 v1 rfl rfl)
  obtain ⟨cs2, hv2, _⟩ := okWide_struct Tryz.underlying25 (hval 2 25 v2 rfl rfl)
  obtain ⟨cs3, hv3, _⟩ := okWide_struct Tryz.underlying25 (hval 3 25 v3 rfl rfl)
  have g0 : Rd enc Tryz.prog W 0 (fun _ => true) true 9 (Value.string s0).cells.toList := by
    obtain ⟨fuel, hf⟩ := h0
    exact ⟨fuel, _, hf⟩
  have g1 : Rd enc Tryz.prog W 0 (fun _ => true) true 22 (Value.slice a1 n1 c1).cells.toList := by
    obtain ⟨fuel, hf⟩ := h1
    exact ⟨fuel, _, hf⟩
  have g2 : Rd enc Tryz.prog W 0 (fun _ => true) true 25 v2.cells.toList := by
    obtain ⟨fuel, hf⟩ := h2
    exact ⟨fuel, _, hf⟩
  have g3 : Rd enc Tryz.prog W 0 (fun _ => true) true 25 v3.cells.toList := by
    obtain ⟨fuel, hf⟩ := h3
    exact ⟨fuel, _, hf⟩
  obtain ⟨t0, e0, ht0⟩ := rd_str Tryz.underlying9 g0
  obtain rfl : s0 = bs t0 := by simpa [Value.cells] using e0
  obtain ⟨pt1, l1, e1, hn1, hr1, hd1⟩ := drafts_of Tryz.underlying22 g1
  obtain ⟨rfl, rfl, rfl⟩ : a1 = pt1.a ∧ n1 = pt1.n ∧ c1 = pt1.c := by simpa [Value.cells] using e1
  obtain ⟨pc2, e2, hp2, hm2⟩ := rd_pch g2
  obtain rfl := toArray_of hv2 e2
  obtain ⟨pc3, e3, hp3, hm3⟩ := rd_pch g3
  obtain rfl := toArray_of hv3 e3
  refine (parses_walk t0 l1 pc2 pc3 pt1.a pt1.n pt1.c W hr1 hn1 ht0 hp2 hm2 hp3 hm3 hd1 (gw_of hsh hL)).mono fun e W' ⟨he, bel⟩ => ?_
  subst he
  exact ⟨_, rfl, _, _, _, [], _, [], hW', trodAll_mk1 (shut_bool Tryz.underlying4 _), trodAll_below bel _ _ _ _ (all_of (by kernel_rfl)) hA, rfl, bel.frame _, fun h => by cases h⟩

theorem par_said : Rows.OperandParsesSaid :=
  OpenClaim.holds_of_wide 3 Tryz.f3 rfl rfl rfl rfl rfl rfl rfl ⟨rfl, rfl, rfl, rfl, rfl⟩ rfl rfl rfl rfl rfl (by kernel_rfl) Tryz.func3 (by kernel_rfl)
    (of_decide_eq_true (by kernel_rfl)) (by unfold Func.isWrapper; first | (rw [if_pos (by decide +kernel)]; kernel_rfl) | (rw [if_neg (by decide +kernel)]; exact ⟨rfl, rfl⟩))
    (fun os started H enc _ => par_lifted os started H enc)
end Go.Proofs.YtpicmhbjiaegpaaGreatDoor
