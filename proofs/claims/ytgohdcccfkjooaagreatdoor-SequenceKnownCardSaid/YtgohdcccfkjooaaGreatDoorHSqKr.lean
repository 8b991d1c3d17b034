/-
  The examples of the first file format, all parameters, films, configurations, malformed lines and limits: the law SequenceKnown returns true, where the listed variables hold what the program's text lays.
-/
import Derived.Test.YtgohdcccfkjooaaGreatDoorHSqKh
import Derived.Test.YtgohdcccfkjooaaGreatDoorHSqTw
import Derived.Test.YtgohdcccfkjooaaGreatDoorGaa
import Derived.Test.YtgohdcccfkjooaaGreatDoorHSqKq
import Derived.JoinedOf
namespace Go.Proofs.YtgohdcccfkjooaaGreatDoor
open Go.ChangeShapes Go.WideShapes Go.ChangeAt Go.RowKit

set_option maxRecDepth 100000 in
theorem sknown_lifted (os : Os) (started : os.Started) (H : Type) (enc : TypeId × Value → H) :
    ReturnsInHanded {} Tryz.checked os 6 .any (fun w args => (Rows.sequenceKnownSpec.pre enc Tryz.prog Tryz.f6 [] false w args ∧ laidMetH Tryz.prog laid13 w) ∧ sizedMet enc Tryz.prog Tryz.f6 (OpenSpec.ofChange Rows.sequenceKnownSpec) false w args)
      (Rows.sequenceKnownSpec.post enc Tryz.prog Tryz.f6 false true false false) := by
  refine handed_shaped (C := Tryz.checked) (X := fun w _ => laidMetH Tryz.prog laid13 w) (fun _ _ _ hh h => h.of_heap hh) ownKnob_no started (by kernel_rfl) Tryz.func6
    (ChangeSpec.witness_shaped (enc := enc) (C := Tryz.checked) (os := os) (X := fun w _ => laidMetH Tryz.prog laid13 w) false (witW os)
      #[] 8 (wit_os os) (wit_shaped os _) (by kernel_rfl) (by kernel_rfl) (by kernel_rfl) (wit_laid os _)) ?_
  intro W base args ds gs before hval0 hW hL hsh
  have hval : ∀ (j : Nat) t v, Tryz.f6.params[j]? = some t → args[j]? = some v → Value.okWide Tryz.prog W .any base t v := hval0
  have hW' := hW
  obtain ⟨p, q, hA0, hV, rfl, hfz, hnd⟩ := hW
  have hA : DataW.TrodAll enc Tryz.prog W 0 (fun _ => true) true Tryz.f6.params.toList args.toList ds p := hA0
  rw [Tryz.params6] at hA hval
  obtain ⟨hargs, rfl, rfl⟩ := trodAll_nil hA
  obtain rfl : args = #[] := by cases args; simp_all
  obtain ⟨rfl, rfl⟩ := trodVars_none hV
  refine (known_any W (kw_of hsh hL)).mono fun e W' ⟨he, bel⟩ => ?_
  subst he
  exact ⟨_, rfl, _, _, _, [], _, [], hW', trodAll_mk1 (shut_bool Tryz.underlying4 _), trodAll_below bel _ _ _ _ (all_of (by kernel_rfl)) hA, rfl, bel.frame _, fun h => by cases h⟩

theorem sknown_said : Rows.SequenceKnownSaid :=
  OpenClaim.holds_of_wide 6 Tryz.f6 rfl rfl rfl rfl rfl rfl rfl ⟨rfl, rfl, rfl, rfl, rfl⟩ rfl rfl rfl rfl rfl sknown_fn Tryz.func6 sknown_closed sknown_inst sknown_wrap
    (fun os started H enc _ => sknown_lifted os started H enc)
end Go.Proofs.YtgohdcccfkjooaaGreatDoor
