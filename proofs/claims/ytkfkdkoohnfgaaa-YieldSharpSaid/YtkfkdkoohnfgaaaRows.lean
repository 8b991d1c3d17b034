/-
  No cell of these rows narrows 'for every input' (looked for: loops, veiled, ifaces, maps, wideKeys, modest, calm, conditions, laid).
  DERIVED. THE GIVEN ROWS OF THIS SEAT. 3 by the template 'for every input the law returns true; each argument reads behind the call as it read before'; 0 by the template 'total and deterministic' (their statements: YtkfkdkoohnfgaaaTotals.lean).
  GIVEN WITH THE SEED: the statements are not yours to turn. If you find one false, say at which input.
  Laid BY PROGRAM, IN A SANDBOX (cutbox-rows.mjs): the forced cells as the released guide's own fill.sh prints them over the translation 23926fe75af0da80… (all of the seat's roots in one cut). By AI agents, Wed Nov 11 2026. No macro, syntax, notation, axiom, sorry.
-/
import Derived.Test.YtkfkdkoohnfgaaaChecked
import GoSem.Claim
import GoSem.ClaimJoined
import GoSem.ClaimMapViews
import Derived.JoinedTies
import Derived.KernelRfl
namespace Go.Proofs.Ytkfkdkoohnfgaaa
/- THE CELL 'sum', in the pinned program and in every row, IS THE sha256 OF THE DUMP (.gsa) THAT YtkfkdkoohnfgaaaProg.lean LOADS. Nothing in Lean hashes anything: it is a label: what it is worth is what the hold of that sum in a sandbox is worth. -/
noncomputable def Try.pinned : Pinned := { name := "ytkfkdkoohnfgaaa", sum := "23926fe75af0da8034bba0e1bb8b91cbb3971989db90285c804d7a9c78a5ab21", checked := Try.checked }
namespace Rows
def none {H : Type} : Left H := { results := [], args := [] }

/-- 'monoclelaw39.YieldBounds': WHATEVER THE INPUT: true; the input reads as it did. -/
def yieldBoundsSpec : ChangeSpec := { name := "yieldBounds", fn := fun _ => fun
  | [d1, d2, d3, d4] => { results := [.lit (.bool true)], args := [d1, d2, d3, d4] }
  | _ => none }
def yieldBoundsRow : OpenClaim := { program := "ytkfkdkoohnfgaaa", sum := "23926fe75af0da8034bba0e1bb8b91cbb3971989db90285c804d7a9c78a5ab21", func := "monocle/monoclelaw39.YieldBounds", spec := "yieldBounds", unfollowed := true, recurses := true, apart := false }
def YieldBoundsSaid : Prop := yieldBoundsRow.holds Try.pinned (OpenSpec.ofChange yieldBoundsSpec)

/-- ITS FALSE NEIGHBOUR: 'it returns false'. Refute it at one input. -/
def yieldBoundsWrong : ChangeSpec := { name := "yieldBounds", fn := fun _ => fun
  | [d1, d2, d3, d4] => { results := [.lit (.bool false)], args := [d1, d2, d3, d4] }
  | _ => none }
def YieldBoundsWrongFalsely : Prop := yieldBoundsRow.holds Try.pinned (OpenSpec.ofChange yieldBoundsWrong)

/-- 'monoclelaw39.YieldRises': WHATEVER THE INPUT: true; the input reads as it did. -/
def yieldRisesSpec : ChangeSpec := { name := "yieldRises", fn := fun _ => fun
  | [d1, d2, d3] => { results := [.lit (.bool true)], args := [d1, d2, d3] }
  | _ => none }
def yieldRisesRow : OpenClaim := { program := "ytkfkdkoohnfgaaa", sum := "23926fe75af0da8034bba0e1bb8b91cbb3971989db90285c804d7a9c78a5ab21", func := "monocle/monoclelaw39.YieldRises", spec := "yieldRises", unfollowed := true, recurses := true, apart := false }
def YieldRisesSaid : Prop := yieldRisesRow.holds Try.pinned (OpenSpec.ofChange yieldRisesSpec)

/-- ITS FALSE NEIGHBOUR: 'it returns false'. Refute it at one input. -/
def yieldRisesWrong : ChangeSpec := { name := "yieldRises", fn := fun _ => fun
  | [d1, d2, d3] => { results := [.lit (.bool false)], args := [d1, d2, d3] }
  | _ => none }
def YieldRisesWrongFalsely : Prop := yieldRisesRow.holds Try.pinned (OpenSpec.ofChange yieldRisesWrong)

/-- 'monoclelaw39.YieldSharp': WHATEVER THE INPUT: true; the input reads as it did. -/
def yieldSharpSpec : ChangeSpec := { name := "yieldSharp", fn := fun _ => fun
  | [d1, d2, d3] => { results := [.lit (.bool true)], args := [d1, d2, d3] }
  | _ => none }
def yieldSharpRow : OpenClaim := { program := "ytkfkdkoohnfgaaa", sum := "23926fe75af0da8034bba0e1bb8b91cbb3971989db90285c804d7a9c78a5ab21", func := "monocle/monoclelaw39.YieldSharp", spec := "yieldSharp", unfollowed := true, recurses := true, apart := false }
def YieldSharpSaid : Prop := yieldSharpRow.holds Try.pinned (OpenSpec.ofChange yieldSharpSpec)

/-- ITS FALSE NEIGHBOUR: 'it returns false'. Refute it at one input. -/
def yieldSharpWrong : ChangeSpec := { name := "yieldSharp", fn := fun _ => fun
  | [d1, d2, d3] => { results := [.lit (.bool false)], args := [d1, d2, d3] }
  | _ => none }
def YieldSharpWrongFalsely : Prop := yieldSharpRow.holds Try.pinned (OpenSpec.ofChange yieldSharpWrong)

/- THE SECOND FORM. 'bulk': how many values and letters a reading holds, each counted each time it is reached (what is shared counts as often as it is met; a slice's spare places count too). A statement '..UptoSaid' is the law's where the arguments, and the package variables that the reading takes, are together of bulk at most 1048576: NARROWER than '..Said'. Prove '..Said' where nothing that the law and all that it calls make is longer than what came in: it says more and counts as full. Else prove '..UptoSaid'. A law counts once. -/
mutual
def uptoBulk {H : Type} : DataW H → Nat
  | .lit (.string bytes) => bytes.length + 1
  | .lit _ => 1
  | .nil => 1
  | .ptr d => uptoBulk d + 1
  | .slice elems spare => uptoBulkAll elems + uptoBulkAll spare + 1
  | .agg parts => uptoBulkAll parts + 1
  | .iface _ d => uptoBulk d + 1
  | .map entries => uptoBulkEntries entries + 1
  | .held _ => 1
def uptoBulkAll {H : Type} : List (DataW H) → Nat
  | [] => 0
  | d :: r => uptoBulk d + uptoBulkAll r
def uptoBulkEntries {H : Type} : List (Lit × DataW H) → Nat
  | [] => 0
  | x :: r => uptoBulkEntry x + uptoBulkEntries r
def uptoBulkEntry {H : Type} : Lit × DataW H → Nat
  | (.string bytes, d) => bytes.length + uptoBulk d + 1
  | (_, d) => uptoBulk d + 1
 end
def uptoSmall : (H : Type) → List (DataW H) → Bool := fun _ ds => decide (uptoBulkAll ds ≤ 1048576)
def OpenSpec.upto (s : _root_.Go.ChangeSpec) : _root_.Go.OpenSpec := { _root_.Go.OpenSpec.ofChange s with cond := some uptoSmall }

/-- 'monoclelaw39.YieldBounds', WHERE WHAT IT READS IS OF BULK AT MOST 1048576: true; the input reads as it did. -/
def yieldBoundsUptoRow : OpenClaim := { program := "ytkfkdkoohnfgaaa", sum := "23926fe75af0da8034bba0e1bb8b91cbb3971989db90285c804d7a9c78a5ab21", func := "monocle/monoclelaw39.YieldBounds", spec := "yieldBounds", unfollowed := true, recurses := true, apart := false, narrowed := true }
def YieldBoundsUptoSaid : Prop := yieldBoundsUptoRow.holds Try.pinned (OpenSpec.upto yieldBoundsSpec)

/-- 'monoclelaw39.YieldRises', WHERE WHAT IT READS IS OF BULK AT MOST 1048576: true; the input reads as it did. -/
def yieldRisesUptoRow : OpenClaim := { program := "ytkfkdkoohnfgaaa", sum := "23926fe75af0da8034bba0e1bb8b91cbb3971989db90285c804d7a9c78a5ab21", func := "monocle/monoclelaw39.YieldRises", spec := "yieldRises", unfollowed := true, recurses := true, apart := false, narrowed := true }
def YieldRisesUptoSaid : Prop := yieldRisesUptoRow.holds Try.pinned (OpenSpec.upto yieldRisesSpec)

/-- 'monoclelaw39.YieldSharp', WHERE WHAT IT READS IS OF BULK AT MOST 1048576: true; the input reads as it did. -/
def yieldSharpUptoRow : OpenClaim := { program := "ytkfkdkoohnfgaaa", sum := "23926fe75af0da8034bba0e1bb8b91cbb3971989db90285c804d7a9c78a5ab21", func := "monocle/monoclelaw39.YieldSharp", spec := "yieldSharp", unfollowed := true, recurses := true, apart := false, narrowed := true }
def YieldSharpUptoSaid : Prop := yieldSharpUptoRow.holds Try.pinned (OpenSpec.upto yieldSharpSpec)

end Rows
end Go.Proofs.Ytkfkdkoohnfgaaa
