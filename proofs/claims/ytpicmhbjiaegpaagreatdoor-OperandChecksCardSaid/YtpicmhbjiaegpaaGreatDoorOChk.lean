/-
  Check, Same and Text agree with the reference: for every input the law OperandChecks returns true and its input reads as it did, where the listed variables hold what the program's text lays.
-/
import Derived.Test.YtpicmhbjiaegpaaGreatDoorNaa
import Derived.Test.YtpicmhbjiaegpaaGreatDoorGae
namespace Go.Proofs.YtpicmhbjiaegpaaGreatDoor
open Go.ChangeShapes Go.WideShapes Go.ChangeAt Go.RowKit

set_option maxRecDepth 100000 in
theorem chk_lifted (os : Os) (started : os.Started) (H : Type) (enc : TypeId × Value → H) :
    ReturnsInHanded {} Tryz.checked os 4 .any (fun w args => (Rows.operandChecksSpec.pre enc Tryz.prog Tryz.f4 [] false w args ∧ laidMetH Tryz.prog laid7 w) ∧ sizedMet enc Tryz.prog Tryz.f4 (OpenSpec.ofChange Rows.operandChecksSpec) false w args)
      (Rows.operandChecksSpec.post enc Tryz.prog Tryz.f4 false true false false) := by
  refine handed_shaped (C := Tryz.checked) (X := fun w _ => laidMetH Tryz.prog laid7 w) (fun _ _ _ hh h => h.of_heap hh) ownKnob_no started (by kernel_rfl) Tryz.func4
    (ChangeSpec.witness_shaped (enc := enc) (C := Tryz.checked) (os := os) (X := fun w _ => laidMetH Tryz.prog laid7 w) false (World.laidAll Tryz.prog os laid7)
      #[.slice none 0 0, .slice none 0 0, .agg #[.int .u8 0, .int .u8 0, .int .i64 0, .string ⟨#[]⟩]] 8 (World.laidAll_os _ _ _) (laid_shaped os _) (by kernel_rfl) (by kernel_rfl) (by kernel_rfl) (laid_world os _)) ?_
  intro W base args ds gs before hval0 hW hL hsh
  have hval : ∀ (j : Nat) t v, Tryz.f4.params[j]? = some t → args[j]? = some v → Value.okWide Tryz.prog W .any base t v := hval0
  have hW' := hW
  obtain ⟨p, q, hA0, hV, rfl, hfz, hnd⟩ := hW
  have hA : DataW.TrodAll enc Tryz.prog W 0 (fun _ => true) true Tryz.f4.params.toList args.toList ds p := hA0
  rw [Tryz.params4] at hA hval
  obtain ⟨v0, vs0, d0, ds0, p0, q0, hargs, rfl, rfl, h0, r0⟩ := trodAll_cons hA
  obtain ⟨v1, vs1, d1, ds1, p1, q1, rfl, rfl, rfl, h1, r1⟩ := trodAll_cons r0
  obtain ⟨v2, vs2, d2, ds2, p2, q2, rfl, rfl, rfl, h2, r2⟩ := trodAll_cons r1
  obtain ⟨rfl, rfl, rfl⟩ := trodAll_nil r2
  obtain rfl : args = #[v0, v1, v2] := by cases args; simp_all
  obtain ⟨rfl, rfl⟩ := trodVars_none hV
  obtain ⟨a0, n0, c0, rfl⟩ := okWide_slice Tryz.underlying30 (hval 0 30 v0 rfl rfl)
  obtain ⟨a1, n1, c1, rfl⟩ := okWide_slice Tryz.underlying22 (hval 1 22 v1 rfl rfl)
  obtain ⟨cs2, hv2, _⟩ := okWide_struct Tryz.underlying39 (hval 2 39 v2 rfl rfl)
  have g0 : Rd enc Tryz.prog W 0 (fun _ => true) true 30 (Value.slice a0 n0 c0).cells.toList := by
    obtain ⟨fuel, hf⟩ := h0
    exact ⟨fuel, _, hf⟩
  have g1 : Rd enc Tryz.prog W 0 (fun _ => true) true 22 (Value.slice a1 n1 c1).cells.toList := by
    obtain ⟨fuel, hf⟩ := h1
    exact ⟨fuel, _, hf⟩
  have g2 : Rd enc Tryz.prog W 0 (fun _ => true) true 39 v2.cells.toList := by
    obtain ⟨fuel, hf⟩ := h2
    exact ⟨fuel, _, hf⟩
  obtain ⟨pt0, l0, e0, hn0, hr0, hd0⟩ := ops_of Tryz.underlying30 g0
  obtain ⟨rfl, rfl, rfl⟩ : a0 = pt0.a ∧ n0 = pt0.n ∧ c0 = pt0.c := by simpa [Value.cells] using e0
  obtain ⟨pt1, l1, e1, hn1, hr1, hd1⟩ := drafts_of Tryz.underlying22 g1
  obtain ⟨rfl, rfl, rfl⟩ : a1 = pt1.a ∧ n1 = pt1.n ∧ c1 = pt1.c := by simpa [Value.cells] using e1
  obtain ⟨pc2, e2, hp2, hm2⟩ := rd_bnd g2
  obtain rfl := toArray_of hv2 e2
  refine (checks_walk l0 l1 pc2 pt0.a pt1.a pt0.n pt0.c pt1.n pt1.c W hr0 hn0 hd0 hr1 hn1 hp2 hm2 hd1 (gw_of hsh hL)).mono fun e W' ⟨he, bel⟩ => ?_
  subst he
  exact ⟨_, rfl, _, _, _, [], _, [], hW', trodAll_mk1 (shut_bool Tryz.underlying4 _), trodAll_below bel _ _ _ _ (all_of (by kernel_rfl)) hA, rfl, bel.frame _, fun h => by cases h⟩

theorem chk_said : Rows.OperandChecksSaid :=
  OpenClaim.holds_of_wide 4 Tryz.f4 rfl rfl rfl rfl rfl rfl rfl ⟨rfl, rfl, rfl, rfl, rfl⟩ rfl rfl rfl rfl rfl (by kernel_rfl) Tryz.func4 (by kernel_rfl)
    (of_decide_eq_true (by kernel_rfl)) (by unfold Func.isWrapper; first | (rw [if_pos (by decide +kernel)]; kernel_rfl) | (rw [if_neg (by decide +kernel)]; exact ⟨rfl, rfl⟩))
    (fun os started H enc _ => chk_lifted os started H enc)
end Go.Proofs.YtpicmhbjiaegpaaGreatDoor
