/-
  No cell of these rows narrows 'for every input' (looked for: loops, veiled, ifaces, maps, wideKeys, modest, calm, conditions, laid).
  DERIVED. THE GIVEN ROWS OF THIS SEAT. 9 by the template 'for every input the law returns true; each argument reads behind the call as it read before'; 0 by the template 'total and deterministic' (their statements: YtmokjfncblnfcaaTotals.lean).
  GIVEN WITH THE SEED: the statements are not yours to turn. If you find one false, say at which input.
  Laid BY PROGRAM, IN A SANDBOX (cutbox-rows.mjs): the forced cells as the released guide's own fill.sh prints them over the translation 6bda773cdd025239… (all of the seat's roots in one cut). By AI agents, Wed Nov 11 2026. No macro, syntax, notation, axiom, sorry.
-/
import Derived.Test.YtmokjfncblnfcaaChecked
import GoSem.Claim
import GoSem.ClaimJoined
import GoSem.ClaimMapViews
import Derived.JoinedTies
import Derived.KernelRfl
namespace Go.Proofs.Ytmokjfncblnfcaa
/- THE CELL 'sum', in the pinned program and in every row, IS THE sha256 OF THE DUMP (.gsa) THAT YtmokjfncblnfcaaProg.lean LOADS. Nothing in Lean hashes anything: it is a label: what it is worth is what the hold of that sum in a sandbox is worth. -/
noncomputable def Try.pinned : Pinned := { name := "ytmokjfncblnfcaa", sum := "6bda773cdd0252392ca31e962e35ba8531786d6d0d4bdbea69b7e5f07687d89f", checked := Try.checked }
namespace Rows
def none {H : Type} : Left H := { results := [], args := [] }

/-- 'laws.FnExactSpringLength': WHATEVER THE INPUT: true; the input reads as it did. -/
def fnExactSpringLengthSpec : ChangeSpec := { name := "fnExactSpringLength", fn := fun _ => fun
  | [d1, d2] => { results := [.lit (.bool true)], args := [d1, d2] }
  | _ => none }
def fnExactSpringLengthRow : OpenClaim := { program := "ytmokjfncblnfcaa", sum := "6bda773cdd0252392ca31e962e35ba8531786d6d0d4bdbea69b7e5f07687d89f", func := "loop.example/g01044/laws.FnExactSpringLength", spec := "fnExactSpringLength", apart := false }
def FnExactSpringLengthSaid : Prop := fnExactSpringLengthRow.holds Try.pinned (OpenSpec.ofChange fnExactSpringLengthSpec)

/-- ITS FALSE NEIGHBOUR: 'it returns false'. Refute it at one input. -/
def fnExactSpringLengthWrong : ChangeSpec := { name := "fnExactSpringLength", fn := fun _ => fun
  | [d1, d2] => { results := [.lit (.bool false)], args := [d1, d2] }
  | _ => none }
def FnExactSpringLengthWrongFalsely : Prop := fnExactSpringLengthRow.holds Try.pinned (OpenSpec.ofChange fnExactSpringLengthWrong)

/-- 'laws.FnExactSpringForce': WHATEVER THE INPUT: true; the input reads as it did. -/
def fnExactSpringForceSpec : ChangeSpec := { name := "fnExactSpringForce", fn := fun _ => fun
  | [d1, d2] => { results := [.lit (.bool true)], args := [d1, d2] }
  | _ => none }
def fnExactSpringForceRow : OpenClaim := { program := "ytmokjfncblnfcaa", sum := "6bda773cdd0252392ca31e962e35ba8531786d6d0d4bdbea69b7e5f07687d89f", func := "loop.example/g01044/laws.FnExactSpringForce", spec := "fnExactSpringForce", apart := false }
def FnExactSpringForceSaid : Prop := fnExactSpringForceRow.holds Try.pinned (OpenSpec.ofChange fnExactSpringForceSpec)

/-- ITS FALSE NEIGHBOUR: 'it returns false'. Refute it at one input. -/
def fnExactSpringForceWrong : ChangeSpec := { name := "fnExactSpringForce", fn := fun _ => fun
  | [d1, d2] => { results := [.lit (.bool false)], args := [d1, d2] }
  | _ => none }
def FnExactSpringForceWrongFalsely : Prop := fnExactSpringForceRow.holds Try.pinned (OpenSpec.ofChange fnExactSpringForceWrong)

/-- 'laws.FnSprings': WHATEVER THE INPUT: true; the input reads as it did. -/
def fnSpringsSpec : ChangeSpec := { name := "fnSprings", fn := fun _ => fun
  | [d1, d2] => { results := [.lit (.bool true)], args := [d1, d2] }
  | _ => none }
def fnSpringsRow : OpenClaim := { program := "ytmokjfncblnfcaa", sum := "6bda773cdd0252392ca31e962e35ba8531786d6d0d4bdbea69b7e5f07687d89f", func := "loop.example/g01044/laws.FnSprings", spec := "fnSprings", apart := false }
def FnSpringsSaid : Prop := fnSpringsRow.holds Try.pinned (OpenSpec.ofChange fnSpringsSpec)

/-- ITS FALSE NEIGHBOUR: 'it returns false'. Refute it at one input. -/
def fnSpringsWrong : ChangeSpec := { name := "fnSprings", fn := fun _ => fun
  | [d1, d2] => { results := [.lit (.bool false)], args := [d1, d2] }
  | _ => none }
def FnSpringsWrongFalsely : Prop := fnSpringsRow.holds Try.pinned (OpenSpec.ofChange fnSpringsWrong)

/-- 'laws.FnExactSeriesLength': WHATEVER THE INPUT: true; the input reads as it did. -/
def fnExactSeriesLengthSpec : ChangeSpec := { name := "fnExactSeriesLength", fn := fun _ => fun
  | [d1, d2] => { results := [.lit (.bool true)], args := [d1, d2] }
  | _ => none }
def fnExactSeriesLengthRow : OpenClaim := { program := "ytmokjfncblnfcaa", sum := "6bda773cdd0252392ca31e962e35ba8531786d6d0d4bdbea69b7e5f07687d89f", func := "loop.example/g01044/laws.FnExactSeriesLength", spec := "fnExactSeriesLength", apart := false }
def FnExactSeriesLengthSaid : Prop := fnExactSeriesLengthRow.holds Try.pinned (OpenSpec.ofChange fnExactSeriesLengthSpec)

/-- ITS FALSE NEIGHBOUR: 'it returns false'. Refute it at one input. -/
def fnExactSeriesLengthWrong : ChangeSpec := { name := "fnExactSeriesLength", fn := fun _ => fun
  | [d1, d2] => { results := [.lit (.bool false)], args := [d1, d2] }
  | _ => none }
def FnExactSeriesLengthWrongFalsely : Prop := fnExactSeriesLengthRow.holds Try.pinned (OpenSpec.ofChange fnExactSeriesLengthWrong)

/-- 'laws.FnExactAllBear': WHATEVER THE INPUT: true; the input reads as it did. -/
def fnExactAllBearSpec : ChangeSpec := { name := "fnExactAllBear", fn := fun _ => fun
  | [d] => { results := [.lit (.bool true)], args := [d] }
  | _ => none }
def fnExactAllBearRow : OpenClaim := { program := "ytmokjfncblnfcaa", sum := "6bda773cdd0252392ca31e962e35ba8531786d6d0d4bdbea69b7e5f07687d89f", func := "loop.example/g01044/laws.FnExactAllBear", spec := "fnExactAllBear", apart := false }
def FnExactAllBearSaid : Prop := fnExactAllBearRow.holds Try.pinned (OpenSpec.ofChange fnExactAllBearSpec)

/-- ITS FALSE NEIGHBOUR: 'it returns false'. Refute it at one input. -/
def fnExactAllBearWrong : ChangeSpec := { name := "fnExactAllBear", fn := fun _ => fun
  | [d] => { results := [.lit (.bool false)], args := [d] }
  | _ => none }
def FnExactAllBearWrongFalsely : Prop := fnExactAllBearRow.holds Try.pinned (OpenSpec.ofChange fnExactAllBearWrong)

/-- 'laws.FnExactSharedLength': WHATEVER THE INPUT: true; the input reads as it did. -/
def fnExactSharedLengthSpec : ChangeSpec := { name := "fnExactSharedLength", fn := fun _ => fun
  | [d1, d2] => { results := [.lit (.bool true)], args := [d1, d2] }
  | _ => none }
def fnExactSharedLengthRow : OpenClaim := { program := "ytmokjfncblnfcaa", sum := "6bda773cdd0252392ca31e962e35ba8531786d6d0d4bdbea69b7e5f07687d89f", func := "loop.example/g01044/laws.FnExactSharedLength", spec := "fnExactSharedLength", unfollowed := true, recurses := true, apart := false }
def FnExactSharedLengthSaid : Prop := fnExactSharedLengthRow.holds Try.pinned (OpenSpec.ofChange fnExactSharedLengthSpec)

/-- ITS FALSE NEIGHBOUR: 'it returns false'. Refute it at one input. -/
def fnExactSharedLengthWrong : ChangeSpec := { name := "fnExactSharedLength", fn := fun _ => fun
  | [d1, d2] => { results := [.lit (.bool false)], args := [d1, d2] }
  | _ => none }
def FnExactSharedLengthWrongFalsely : Prop := fnExactSharedLengthRow.holds Try.pinned (OpenSpec.ofChange fnExactSharedLengthWrong)

/-- 'laws.FnExactSlackLines': WHATEVER THE INPUT: true; the input reads as it did. -/
def fnExactSlackLinesSpec : ChangeSpec := { name := "fnExactSlackLines", fn := fun _ => fun
  | [d1, d2] => { results := [.lit (.bool true)], args := [d1, d2] }
  | _ => none }
def fnExactSlackLinesRow : OpenClaim := { program := "ytmokjfncblnfcaa", sum := "6bda773cdd0252392ca31e962e35ba8531786d6d0d4bdbea69b7e5f07687d89f", func := "loop.example/g01044/laws.FnExactSlackLines", spec := "fnExactSlackLines", unfollowed := true, recurses := true, apart := false }
def FnExactSlackLinesSaid : Prop := fnExactSlackLinesRow.holds Try.pinned (OpenSpec.ofChange fnExactSlackLinesSpec)

/-- ITS FALSE NEIGHBOUR: 'it returns false'. Refute it at one input. -/
def fnExactSlackLinesWrong : ChangeSpec := { name := "fnExactSlackLines", fn := fun _ => fun
  | [d1, d2] => { results := [.lit (.bool false)], args := [d1, d2] }
  | _ => none }
def FnExactSlackLinesWrongFalsely : Prop := fnExactSlackLinesRow.holds Try.pinned (OpenSpec.ofChange fnExactSlackLinesWrong)

/-- 'laws.FnExactSharedForces': WHATEVER THE INPUT: true; the input reads as it did. -/
def fnExactSharedForcesSpec : ChangeSpec := { name := "fnExactSharedForces", fn := fun _ => fun
  | [d1, d2] => { results := [.lit (.bool true)], args := [d1, d2] }
  | _ => none }
def fnExactSharedForcesRow : OpenClaim := { program := "ytmokjfncblnfcaa", sum := "6bda773cdd0252392ca31e962e35ba8531786d6d0d4bdbea69b7e5f07687d89f", func := "loop.example/g01044/laws.FnExactSharedForces", spec := "fnExactSharedForces", unfollowed := true, recurses := true, apart := false }
def FnExactSharedForcesSaid : Prop := fnExactSharedForcesRow.holds Try.pinned (OpenSpec.ofChange fnExactSharedForcesSpec)

/-- ITS FALSE NEIGHBOUR: 'it returns false'. Refute it at one input. -/
def fnExactSharedForcesWrong : ChangeSpec := { name := "fnExactSharedForces", fn := fun _ => fun
  | [d1, d2] => { results := [.lit (.bool false)], args := [d1, d2] }
  | _ => none }
def FnExactSharedForcesWrongFalsely : Prop := fnExactSharedForcesRow.holds Try.pinned (OpenSpec.ofChange fnExactSharedForcesWrong)

/-- 'laws.FnSharedLoads': WHATEVER THE INPUT: true; the input reads as it did. -/
def fnSharedLoadsSpec : ChangeSpec := { name := "fnSharedLoads", fn := fun _ => fun
  | [d1, d2] => { results := [.lit (.bool true)], args := [d1, d2] }
  | _ => none }
def fnSharedLoadsRow : OpenClaim := { program := "ytmokjfncblnfcaa", sum := "6bda773cdd0252392ca31e962e35ba8531786d6d0d4bdbea69b7e5f07687d89f", func := "loop.example/g01044/laws.FnSharedLoads", spec := "fnSharedLoads", unfollowed := true, recurses := true, apart := false }
def FnSharedLoadsSaid : Prop := fnSharedLoadsRow.holds Try.pinned (OpenSpec.ofChange fnSharedLoadsSpec)

/-- ITS FALSE NEIGHBOUR: 'it returns false'. Refute it at one input. -/
def fnSharedLoadsWrong : ChangeSpec := { name := "fnSharedLoads", fn := fun _ => fun
  | [d1, d2] => { results := [.lit (.bool false)], args := [d1, d2] }
  | _ => none }
def FnSharedLoadsWrongFalsely : Prop := fnSharedLoadsRow.holds Try.pinned (OpenSpec.ofChange fnSharedLoadsWrong)

/- THE SECOND FORM. 'bulk': how many values and letters a reading holds, each counted each time it is reached (what is shared counts as often as it is met; a slice's spare places count too). A statement '..UptoSaid' is the law's where the arguments, and the package variables that the reading takes, are together of bulk at most 1048576: NARROWER than '..Said'. Prove '..Said' where nothing that the law and all that it calls make is longer than what came in: it says more and counts as full. Else prove '..UptoSaid'. A law counts once. -/
mutual
def uptoBulk {H : Type} : DataW H → Nat
  | .lit (.string bytes) => bytes.length + 1
  | .lit _ => 1
  | .nil => 1
  | .ptr d => uptoBulk d + 1
  | .slice elems spare => uptoBulkAll elems + uptoBulkAll spare + 1
  | .agg parts => uptoBulkAll parts + 1
  | .iface _ d => uptoBulk d + 1
  | .map entries => uptoBulkEntries entries + 1
  | .held _ => 1
def uptoBulkAll {H : Type} : List (DataW H) → Nat
  | [] => 0
  | d :: r => uptoBulk d + uptoBulkAll r
def uptoBulkEntries {H : Type} : List (Lit × DataW H) → Nat
  | [] => 0
  | x :: r => uptoBulkEntry x + uptoBulkEntries r
def uptoBulkEntry {H : Type} : Lit × DataW H → Nat
  | (.string bytes, d) => bytes.length + uptoBulk d + 1
  | (_, d) => uptoBulk d + 1
 end
def uptoSmall : (H : Type) → List (DataW H) → Bool := fun _ ds => decide (uptoBulkAll ds ≤ 1048576)
def OpenSpec.upto (s : _root_.Go.ChangeSpec) : _root_.Go.OpenSpec := { _root_.Go.OpenSpec.ofChange s with cond := some uptoSmall }

/-- 'laws.FnExactSpringLength', WHERE WHAT IT READS IS OF BULK AT MOST 1048576: true; the input reads as it did. -/
def fnExactSpringLengthUptoRow : OpenClaim := { program := "ytmokjfncblnfcaa", sum := "6bda773cdd0252392ca31e962e35ba8531786d6d0d4bdbea69b7e5f07687d89f", func := "loop.example/g01044/laws.FnExactSpringLength", spec := "fnExactSpringLength", apart := false, narrowed := true }
def FnExactSpringLengthUptoSaid : Prop := fnExactSpringLengthUptoRow.holds Try.pinned (OpenSpec.upto fnExactSpringLengthSpec)

/-- 'laws.FnExactSpringForce', WHERE WHAT IT READS IS OF BULK AT MOST 1048576: true; the input reads as it did. -/
def fnExactSpringForceUptoRow : OpenClaim := { program := "ytmokjfncblnfcaa", sum := "6bda773cdd0252392ca31e962e35ba8531786d6d0d4bdbea69b7e5f07687d89f", func := "loop.example/g01044/laws.FnExactSpringForce", spec := "fnExactSpringForce", apart := false, narrowed := true }
def FnExactSpringForceUptoSaid : Prop := fnExactSpringForceUptoRow.holds Try.pinned (OpenSpec.upto fnExactSpringForceSpec)

/-- 'laws.FnSprings', WHERE WHAT IT READS IS OF BULK AT MOST 1048576: true; the input reads as it did. -/
def fnSpringsUptoRow : OpenClaim := { program := "ytmokjfncblnfcaa", sum := "6bda773cdd0252392ca31e962e35ba8531786d6d0d4bdbea69b7e5f07687d89f", func := "loop.example/g01044/laws.FnSprings", spec := "fnSprings", apart := false, narrowed := true }
def FnSpringsUptoSaid : Prop := fnSpringsUptoRow.holds Try.pinned (OpenSpec.upto fnSpringsSpec)

/-- 'laws.FnExactSeriesLength', WHERE WHAT IT READS IS OF BULK AT MOST 1048576: true; the input reads as it did. -/
def fnExactSeriesLengthUptoRow : OpenClaim := { program := "ytmokjfncblnfcaa", sum := "6bda773cdd0252392ca31e962e35ba8531786d6d0d4bdbea69b7e5f07687d89f", func := "loop.example/g01044/laws.FnExactSeriesLength", spec := "fnExactSeriesLength", apart := false, narrowed := true }
def FnExactSeriesLengthUptoSaid : Prop := fnExactSeriesLengthUptoRow.holds Try.pinned (OpenSpec.upto fnExactSeriesLengthSpec)

/-- 'laws.FnExactAllBear', WHERE WHAT IT READS IS OF BULK AT MOST 1048576: true; the input reads as it did. -/
def fnExactAllBearUptoRow : OpenClaim := { program := "ytmokjfncblnfcaa", sum := "6bda773cdd0252392ca31e962e35ba8531786d6d0d4bdbea69b7e5f07687d89f", func := "loop.example/g01044/laws.FnExactAllBear", spec := "fnExactAllBear", apart := false, narrowed := true }
def FnExactAllBearUptoSaid : Prop := fnExactAllBearUptoRow.holds Try.pinned (OpenSpec.upto fnExactAllBearSpec)

/-- 'laws.FnExactSharedLength', WHERE WHAT IT READS IS OF BULK AT MOST 1048576: true; the input reads as it did. -/
def fnExactSharedLengthUptoRow : OpenClaim := { program := "ytmokjfncblnfcaa", sum := "6bda773cdd0252392ca31e962e35ba8531786d6d0d4bdbea69b7e5f07687d89f", func := "loop.example/g01044/laws.FnExactSharedLength", spec := "fnExactSharedLength", unfollowed := true, recurses := true, apart := false, narrowed := true }
def FnExactSharedLengthUptoSaid : Prop := fnExactSharedLengthUptoRow.holds Try.pinned (OpenSpec.upto fnExactSharedLengthSpec)

/-- 'laws.FnExactSlackLines', WHERE WHAT IT READS IS OF BULK AT MOST 1048576: true; the input reads as it did. -/
def fnExactSlackLinesUptoRow : OpenClaim := { program := "ytmokjfncblnfcaa", sum := "6bda773cdd0252392ca31e962e35ba8531786d6d0d4bdbea69b7e5f07687d89f", func := "loop.example/g01044/laws.FnExactSlackLines", spec := "fnExactSlackLines", unfollowed := true, recurses := true, apart := false, narrowed := true }
def FnExactSlackLinesUptoSaid : Prop := fnExactSlackLinesUptoRow.holds Try.pinned (OpenSpec.upto fnExactSlackLinesSpec)

/-- 'laws.FnExactSharedForces', WHERE WHAT IT READS IS OF BULK AT MOST 1048576: true; the input reads as it did. -/
def fnExactSharedForcesUptoRow : OpenClaim := { program := "ytmokjfncblnfcaa", sum := "6bda773cdd0252392ca31e962e35ba8531786d6d0d4bdbea69b7e5f07687d89f", func := "loop.example/g01044/laws.FnExactSharedForces", spec := "fnExactSharedForces", unfollowed := true, recurses := true, apart := false, narrowed := true }
def FnExactSharedForcesUptoSaid : Prop := fnExactSharedForcesUptoRow.holds Try.pinned (OpenSpec.upto fnExactSharedForcesSpec)

/-- 'laws.FnSharedLoads', WHERE WHAT IT READS IS OF BULK AT MOST 1048576: true; the input reads as it did. -/
def fnSharedLoadsUptoRow : OpenClaim := { program := "ytmokjfncblnfcaa", sum := "6bda773cdd0252392ca31e962e35ba8531786d6d0d4bdbea69b7e5f07687d89f", func := "loop.example/g01044/laws.FnSharedLoads", spec := "fnSharedLoads", unfollowed := true, recurses := true, apart := false, narrowed := true }
def FnSharedLoadsUptoSaid : Prop := fnSharedLoadsUptoRow.holds Try.pinned (OpenSpec.upto fnSharedLoadsSpec)

end Rows
end Go.Proofs.Ytmokjfncblnfcaa
