/-
  No cell of these rows narrows 'for every input' (looked for: loops, veiled, ifaces, maps, wideKeys, modest, calm, conditions, laid).
  DERIVED. THE GIVEN ROWS OF THIS SEAT. 10 by the template 'for every input the law returns true; each argument reads behind the call as it read before'; 0 by the template 'total and deterministic' (their statements: YtdgodlccejoibaaTotals.lean).
  GIVEN WITH THE SEED: the statements are not yours to turn. If you find one false, say at which input.
  Laid BY PROGRAM, IN A SANDBOX (cutbox-rows.mjs): the forced cells as the released guide's own fill.sh prints them over the translation 93fa5deaabac2178… (all of the seat's roots in one cut). By AI agents, Wed Nov 11 2026. No macro, syntax, notation, axiom, sorry.
-/
import Derived.Test.YtdgodlccejoibaaChecked
import GoSem.Claim
import GoSem.ClaimJoined
import GoSem.ClaimMapViews
import Derived.JoinedTies
import Derived.KernelRfl
namespace Go.Proofs.Ytdgodlccejoibaa
/- THE CELL 'sum', in the pinned program and in every row, IS THE sha256 OF THE DUMP (.gsa) THAT YtdgodlccejoibaaProg.lean LOADS. Nothing in Lean hashes anything: it is a label: what it is worth is what the hold of that sum in a sandbox is worth. -/
noncomputable def Try.pinned : Pinned := { name := "ytdgodlccejoibaa", sum := "93fa5deaabac21784ca82b1f80763319b111729903845bc8ff7c46b992d9dd34", checked := Try.checked }
namespace Rows
def none {H : Type} : Left H := { results := [], args := [] }

/-- 'laws.FnExactValidJoins': WHATEVER THE INPUT: true; the input reads as it did. -/
def fnExactValidJoinsSpec : ChangeSpec := { name := "fnExactValidJoins", fn := fun _ => fun
  | [d] => { results := [.lit (.bool true)], args := [d] }
  | _ => none }
def fnExactValidJoinsRow : OpenClaim := { program := "ytdgodlccejoibaa", sum := "93fa5deaabac21784ca82b1f80763319b111729903845bc8ff7c46b992d9dd34", func := "loop.example/g01044/laws.FnExactValidJoins", spec := "fnExactValidJoins", unfollowed := true, recurses := true, apart := false }
def FnExactValidJoinsSaid : Prop := fnExactValidJoinsRow.holds Try.pinned (OpenSpec.ofChange fnExactValidJoinsSpec)

/-- ITS FALSE NEIGHBOUR: 'it returns false'. Refute it at one input. -/
def fnExactValidJoinsWrong : ChangeSpec := { name := "fnExactValidJoins", fn := fun _ => fun
  | [d] => { results := [.lit (.bool false)], args := [d] }
  | _ => none }
def FnExactValidJoinsWrongFalsely : Prop := fnExactValidJoinsRow.holds Try.pinned (OpenSpec.ofChange fnExactValidJoinsWrong)

/-- 'laws.FnExactSameLine': WHATEVER THE INPUT: true; the input reads as it did. -/
def fnExactSameLineSpec : ChangeSpec := { name := "fnExactSameLine", fn := fun _ => fun
  | [d1, d2] => { results := [.lit (.bool true)], args := [d1, d2] }
  | _ => none }
def fnExactSameLineRow : OpenClaim := { program := "ytdgodlccejoibaa", sum := "93fa5deaabac21784ca82b1f80763319b111729903845bc8ff7c46b992d9dd34", func := "loop.example/g01044/laws.FnExactSameLine", spec := "fnExactSameLine", apart := false }
def FnExactSameLineSaid : Prop := fnExactSameLineRow.holds Try.pinned (OpenSpec.ofChange fnExactSameLineSpec)

/-- ITS FALSE NEIGHBOUR: 'it returns false'. Refute it at one input. -/
def fnExactSameLineWrong : ChangeSpec := { name := "fnExactSameLine", fn := fun _ => fun
  | [d1, d2] => { results := [.lit (.bool false)], args := [d1, d2] }
  | _ => none }
def FnExactSameLineWrongFalsely : Prop := fnExactSameLineRow.holds Try.pinned (OpenSpec.ofChange fnExactSameLineWrong)

/-- 'laws.FnExactBestJoin': WHATEVER THE INPUT: true; the input reads as it did. -/
def fnExactBestJoinSpec : ChangeSpec := { name := "fnExactBestJoin", fn := fun _ => fun
  | [d1, d2, d3, d4] => { results := [.lit (.bool true)], args := [d1, d2, d3, d4] }
  | _ => none }
def fnExactBestJoinRow : OpenClaim := { program := "ytdgodlccejoibaa", sum := "93fa5deaabac21784ca82b1f80763319b111729903845bc8ff7c46b992d9dd34", func := "loop.example/g01044/laws.FnExactBestJoin", spec := "fnExactBestJoin", unfollowed := true, recurses := true, apart := false }
def FnExactBestJoinSaid : Prop := fnExactBestJoinRow.holds Try.pinned (OpenSpec.ofChange fnExactBestJoinSpec)

/-- ITS FALSE NEIGHBOUR: 'it returns false'. Refute it at one input. -/
def fnExactBestJoinWrong : ChangeSpec := { name := "fnExactBestJoin", fn := fun _ => fun
  | [d1, d2, d3, d4] => { results := [.lit (.bool false)], args := [d1, d2, d3, d4] }
  | _ => none }
def FnExactBestJoinWrongFalsely : Prop := fnExactBestJoinRow.holds Try.pinned (OpenSpec.ofChange fnExactBestJoinWrong)

/-- 'laws.FnExactValidLine': WHATEVER THE INPUT: true; the input reads as it did. -/
def fnExactValidLineSpec : ChangeSpec := { name := "fnExactValidLine", fn := fun _ => fun
  | [d1, d2] => { results := [.lit (.bool true)], args := [d1, d2] }
  | _ => none }
def fnExactValidLineRow : OpenClaim := { program := "ytdgodlccejoibaa", sum := "93fa5deaabac21784ca82b1f80763319b111729903845bc8ff7c46b992d9dd34", func := "loop.example/g01044/laws.FnExactValidLine", spec := "fnExactValidLine", unfollowed := true, recurses := true, apart := false }
def FnExactValidLineSaid : Prop := fnExactValidLineRow.holds Try.pinned (OpenSpec.ofChange fnExactValidLineSpec)

/-- ITS FALSE NEIGHBOUR: 'it returns false'. Refute it at one input. -/
def fnExactValidLineWrong : ChangeSpec := { name := "fnExactValidLine", fn := fun _ => fun
  | [d1, d2] => { results := [.lit (.bool false)], args := [d1, d2] }
  | _ => none }
def FnExactValidLineWrongFalsely : Prop := fnExactValidLineRow.holds Try.pinned (OpenSpec.ofChange fnExactValidLineWrong)

/-- 'laws.FnExactLineLength': WHATEVER THE INPUT: true; the input reads as it did. -/
def fnExactLineLengthSpec : ChangeSpec := { name := "fnExactLineLength", fn := fun _ => fun
  | [d1, d2] => { results := [.lit (.bool true)], args := [d1, d2] }
  | _ => none }
def fnExactLineLengthRow : OpenClaim := { program := "ytdgodlccejoibaa", sum := "93fa5deaabac21784ca82b1f80763319b111729903845bc8ff7c46b992d9dd34", func := "loop.example/g01044/laws.FnExactLineLength", spec := "fnExactLineLength", unfollowed := true, recurses := true, apart := false }
def FnExactLineLengthSaid : Prop := fnExactLineLengthRow.holds Try.pinned (OpenSpec.ofChange fnExactLineLengthSpec)

/-- ITS FALSE NEIGHBOUR: 'it returns false'. Refute it at one input. -/
def fnExactLineLengthWrong : ChangeSpec := { name := "fnExactLineLength", fn := fun _ => fun
  | [d1, d2] => { results := [.lit (.bool false)], args := [d1, d2] }
  | _ => none }
def FnExactLineLengthWrongFalsely : Prop := fnExactLineLengthRow.holds Try.pinned (OpenSpec.ofChange fnExactLineLengthWrong)

/-- 'laws.FnExactStrengthAt': WHATEVER THE INPUT: true; the input reads as it did. -/
def fnExactStrengthAtSpec : ChangeSpec := { name := "fnExactStrengthAt", fn := fun _ => fun
  | [d1, d2, d3] => { results := [.lit (.bool true)], args := [d1, d2, d3] }
  | _ => none }
def fnExactStrengthAtRow : OpenClaim := { program := "ytdgodlccejoibaa", sum := "93fa5deaabac21784ca82b1f80763319b111729903845bc8ff7c46b992d9dd34", func := "loop.example/g01044/laws.FnExactStrengthAt", spec := "fnExactStrengthAt", unfollowed := true, recurses := true, apart := false }
def FnExactStrengthAtSaid : Prop := fnExactStrengthAtRow.holds Try.pinned (OpenSpec.ofChange fnExactStrengthAtSpec)

/-- ITS FALSE NEIGHBOUR: 'it returns false'. Refute it at one input. -/
def fnExactStrengthAtWrong : ChangeSpec := { name := "fnExactStrengthAt", fn := fun _ => fun
  | [d1, d2, d3] => { results := [.lit (.bool false)], args := [d1, d2, d3] }
  | _ => none }
def FnExactStrengthAtWrongFalsely : Prop := fnExactStrengthAtRow.holds Try.pinned (OpenSpec.ofChange fnExactStrengthAtWrong)

/-- 'laws.FnExactTurnLine': WHATEVER THE INPUT: true; the input reads as it did. -/
def fnExactTurnLineSpec : ChangeSpec := { name := "fnExactTurnLine", fn := fun _ => fun
  | [d1, d2] => { results := [.lit (.bool true)], args := [d1, d2] }
  | _ => none }
def fnExactTurnLineRow : OpenClaim := { program := "ytdgodlccejoibaa", sum := "93fa5deaabac21784ca82b1f80763319b111729903845bc8ff7c46b992d9dd34", func := "loop.example/g01044/laws.FnExactTurnLine", spec := "fnExactTurnLine", unfollowed := true, recurses := true, apart := false }
def FnExactTurnLineSaid : Prop := fnExactTurnLineRow.holds Try.pinned (OpenSpec.ofChange fnExactTurnLineSpec)

/-- ITS FALSE NEIGHBOUR: 'it returns false'. Refute it at one input. -/
def fnExactTurnLineWrong : ChangeSpec := { name := "fnExactTurnLine", fn := fun _ => fun
  | [d1, d2] => { results := [.lit (.bool false)], args := [d1, d2] }
  | _ => none }
def FnExactTurnLineWrongFalsely : Prop := fnExactTurnLineRow.holds Try.pinned (OpenSpec.ofChange fnExactTurnLineWrong)

/-- 'laws.FnExactJoinLines': WHATEVER THE INPUT: true; the input reads as it did. -/
def fnExactJoinLinesSpec : ChangeSpec := { name := "fnExactJoinLines", fn := fun _ => fun
  | [d1, d2, d3, d4] => { results := [.lit (.bool true)], args := [d1, d2, d3, d4] }
  | _ => none }
def fnExactJoinLinesRow : OpenClaim := { program := "ytdgodlccejoibaa", sum := "93fa5deaabac21784ca82b1f80763319b111729903845bc8ff7c46b992d9dd34", func := "loop.example/g01044/laws.FnExactJoinLines", spec := "fnExactJoinLines", unfollowed := true, recurses := true, apart := false }
def FnExactJoinLinesSaid : Prop := fnExactJoinLinesRow.holds Try.pinned (OpenSpec.ofChange fnExactJoinLinesSpec)

/-- ITS FALSE NEIGHBOUR: 'it returns false'. Refute it at one input. -/
def fnExactJoinLinesWrong : ChangeSpec := { name := "fnExactJoinLines", fn := fun _ => fun
  | [d1, d2, d3, d4] => { results := [.lit (.bool false)], args := [d1, d2, d3, d4] }
  | _ => none }
def FnExactJoinLinesWrongFalsely : Prop := fnExactJoinLinesRow.holds Try.pinned (OpenSpec.ofChange fnExactJoinLinesWrong)

/-- 'laws.FnExactWeakestPlace': WHATEVER THE INPUT: true; the input reads as it did. -/
def fnExactWeakestPlaceSpec : ChangeSpec := { name := "fnExactWeakestPlace", fn := fun _ => fun
  | [d1, d2] => { results := [.lit (.bool true)], args := [d1, d2] }
  | _ => none }
def fnExactWeakestPlaceRow : OpenClaim := { program := "ytdgodlccejoibaa", sum := "93fa5deaabac21784ca82b1f80763319b111729903845bc8ff7c46b992d9dd34", func := "loop.example/g01044/laws.FnExactWeakestPlace", spec := "fnExactWeakestPlace", unfollowed := true, recurses := true, apart := false }
def FnExactWeakestPlaceSaid : Prop := fnExactWeakestPlaceRow.holds Try.pinned (OpenSpec.ofChange fnExactWeakestPlaceSpec)

/-- ITS FALSE NEIGHBOUR: 'it returns false'. Refute it at one input. -/
def fnExactWeakestPlaceWrong : ChangeSpec := { name := "fnExactWeakestPlace", fn := fun _ => fun
  | [d1, d2] => { results := [.lit (.bool false)], args := [d1, d2] }
  | _ => none }
def FnExactWeakestPlaceWrongFalsely : Prop := fnExactWeakestPlaceRow.holds Try.pinned (OpenSpec.ofChange fnExactWeakestPlaceWrong)

/-- 'laws.FnExactLineStrength': WHATEVER THE INPUT: true; the input reads as it did. -/
def fnExactLineStrengthSpec : ChangeSpec := { name := "fnExactLineStrength", fn := fun _ => fun
  | [d1, d2] => { results := [.lit (.bool true)], args := [d1, d2] }
  | _ => none }
def fnExactLineStrengthRow : OpenClaim := { program := "ytdgodlccejoibaa", sum := "93fa5deaabac21784ca82b1f80763319b111729903845bc8ff7c46b992d9dd34", func := "loop.example/g01044/laws.FnExactLineStrength", spec := "fnExactLineStrength", unfollowed := true, recurses := true, apart := false }
def FnExactLineStrengthSaid : Prop := fnExactLineStrengthRow.holds Try.pinned (OpenSpec.ofChange fnExactLineStrengthSpec)

/-- ITS FALSE NEIGHBOUR: 'it returns false'. Refute it at one input. -/
def fnExactLineStrengthWrong : ChangeSpec := { name := "fnExactLineStrength", fn := fun _ => fun
  | [d1, d2] => { results := [.lit (.bool false)], args := [d1, d2] }
  | _ => none }
def FnExactLineStrengthWrongFalsely : Prop := fnExactLineStrengthRow.holds Try.pinned (OpenSpec.ofChange fnExactLineStrengthWrong)

/- THE SECOND FORM. 'bulk': how many values and letters a reading holds, each counted each time it is reached (what is shared counts as often as it is met; a slice's spare places count too). A statement '..UptoSaid' is the law's where the arguments, and the package variables that the reading takes, are together of bulk at most 1048576: NARROWER than '..Said'. Prove '..Said' where nothing that the law and all that it calls make is longer than what came in: it says more and counts as full. Else prove '..UptoSaid'. A law counts once. -/
mutual
def uptoBulk {H : Type} : DataW H → Nat
  | .lit (.string bytes) => bytes.length + 1
  | .lit _ => 1
  | .nil => 1
  | .ptr d => uptoBulk d + 1
  | .slice elems spare => uptoBulkAll elems + uptoBulkAll spare + 1
  | .agg parts => uptoBulkAll parts + 1
  | .iface _ d => uptoBulk d + 1
  | .map entries => uptoBulkEntries entries + 1
  | .held _ => 1
def uptoBulkAll {H : Type} : List (DataW H) → Nat
  | [] => 0
  | d :: r => uptoBulk d + uptoBulkAll r
def uptoBulkEntries {H : Type} : List (Lit × DataW H) → Nat
  | [] => 0
  | x :: r => uptoBulkEntry x + uptoBulkEntries r
def uptoBulkEntry {H : Type} : Lit × DataW H → Nat
  | (.string bytes, d) => bytes.length + uptoBulk d + 1
  | (_, d) => uptoBulk d + 1
 end
def uptoSmall : (H : Type) → List (DataW H) → Bool := fun _ ds => decide (uptoBulkAll ds ≤ 1048576)
def OpenSpec.upto (s : _root_.Go.ChangeSpec) : _root_.Go.OpenSpec := { _root_.Go.OpenSpec.ofChange s with cond := some uptoSmall }

/-- 'laws.FnExactValidJoins', WHERE WHAT IT READS IS OF BULK AT MOST 1048576: true; the input reads as it did. -/
def fnExactValidJoinsUptoRow : OpenClaim := { program := "ytdgodlccejoibaa", sum := "93fa5deaabac21784ca82b1f80763319b111729903845bc8ff7c46b992d9dd34", func := "loop.example/g01044/laws.FnExactValidJoins", spec := "fnExactValidJoins", unfollowed := true, recurses := true, apart := false, narrowed := true }
def FnExactValidJoinsUptoSaid : Prop := fnExactValidJoinsUptoRow.holds Try.pinned (OpenSpec.upto fnExactValidJoinsSpec)

/-- 'laws.FnExactSameLine', WHERE WHAT IT READS IS OF BULK AT MOST 1048576: true; the input reads as it did. -/
def fnExactSameLineUptoRow : OpenClaim := { program := "ytdgodlccejoibaa", sum := "93fa5deaabac21784ca82b1f80763319b111729903845bc8ff7c46b992d9dd34", func := "loop.example/g01044/laws.FnExactSameLine", spec := "fnExactSameLine", apart := false, narrowed := true }
def FnExactSameLineUptoSaid : Prop := fnExactSameLineUptoRow.holds Try.pinned (OpenSpec.upto fnExactSameLineSpec)

/-- 'laws.FnExactBestJoin', WHERE WHAT IT READS IS OF BULK AT MOST 1048576: true; the input reads as it did. -/
def fnExactBestJoinUptoRow : OpenClaim := { program := "ytdgodlccejoibaa", sum := "93fa5deaabac21784ca82b1f80763319b111729903845bc8ff7c46b992d9dd34", func := "loop.example/g01044/laws.FnExactBestJoin", spec := "fnExactBestJoin", unfollowed := true, recurses := true, apart := false, narrowed := true }
def FnExactBestJoinUptoSaid : Prop := fnExactBestJoinUptoRow.holds Try.pinned (OpenSpec.upto fnExactBestJoinSpec)

/-- 'laws.FnExactValidLine', WHERE WHAT IT READS IS OF BULK AT MOST 1048576: true; the input reads as it did. -/
def fnExactValidLineUptoRow : OpenClaim := { program := "ytdgodlccejoibaa", sum := "93fa5deaabac21784ca82b1f80763319b111729903845bc8ff7c46b992d9dd34", func := "loop.example/g01044/laws.FnExactValidLine", spec := "fnExactValidLine", unfollowed := true, recurses := true, apart := false, narrowed := true }
def FnExactValidLineUptoSaid : Prop := fnExactValidLineUptoRow.holds Try.pinned (OpenSpec.upto fnExactValidLineSpec)

/-- 'laws.FnExactLineLength', WHERE WHAT IT READS IS OF BULK AT MOST 1048576: true; the input reads as it did. -/
def fnExactLineLengthUptoRow : OpenClaim := { program := "ytdgodlccejoibaa", sum := "93fa5deaabac21784ca82b1f80763319b111729903845bc8ff7c46b992d9dd34", func := "loop.example/g01044/laws.FnExactLineLength", spec := "fnExactLineLength", unfollowed := true, recurses := true, apart := false, narrowed := true }
def FnExactLineLengthUptoSaid : Prop := fnExactLineLengthUptoRow.holds Try.pinned (OpenSpec.upto fnExactLineLengthSpec)

/-- 'laws.FnExactStrengthAt', WHERE WHAT IT READS IS OF BULK AT MOST 1048576: true; the input reads as it did. -/
def fnExactStrengthAtUptoRow : OpenClaim := { program := "ytdgodlccejoibaa", sum := "93fa5deaabac21784ca82b1f80763319b111729903845bc8ff7c46b992d9dd34", func := "loop.example/g01044/laws.FnExactStrengthAt", spec := "fnExactStrengthAt", unfollowed := true, recurses := true, apart := false, narrowed := true }
def FnExactStrengthAtUptoSaid : Prop := fnExactStrengthAtUptoRow.holds Try.pinned (OpenSpec.upto fnExactStrengthAtSpec)

/-- 'laws.FnExactTurnLine', WHERE WHAT IT READS IS OF BULK AT MOST 1048576: true; the input reads as it did. -/
def fnExactTurnLineUptoRow : OpenClaim := { program := "ytdgodlccejoibaa", sum := "93fa5deaabac21784ca82b1f80763319b111729903845bc8ff7c46b992d9dd34", func := "loop.example/g01044/laws.FnExactTurnLine", spec := "fnExactTurnLine", unfollowed := true, recurses := true, apart := false, narrowed := true }
def FnExactTurnLineUptoSaid : Prop := fnExactTurnLineUptoRow.holds Try.pinned (OpenSpec.upto fnExactTurnLineSpec)

/-- 'laws.FnExactJoinLines', WHERE WHAT IT READS IS OF BULK AT MOST 1048576: true; the input reads as it did. -/
def fnExactJoinLinesUptoRow : OpenClaim := { program := "ytdgodlccejoibaa", sum := "93fa5deaabac21784ca82b1f80763319b111729903845bc8ff7c46b992d9dd34", func := "loop.example/g01044/laws.FnExactJoinLines", spec := "fnExactJoinLines", unfollowed := true, recurses := true, apart := false, narrowed := true }
def FnExactJoinLinesUptoSaid : Prop := fnExactJoinLinesUptoRow.holds Try.pinned (OpenSpec.upto fnExactJoinLinesSpec)

/-- 'laws.FnExactWeakestPlace', WHERE WHAT IT READS IS OF BULK AT MOST 1048576: true; the input reads as it did. -/
def fnExactWeakestPlaceUptoRow : OpenClaim := { program := "ytdgodlccejoibaa", sum := "93fa5deaabac21784ca82b1f80763319b111729903845bc8ff7c46b992d9dd34", func := "loop.example/g01044/laws.FnExactWeakestPlace", spec := "fnExactWeakestPlace", unfollowed := true, recurses := true, apart := false, narrowed := true }
def FnExactWeakestPlaceUptoSaid : Prop := fnExactWeakestPlaceUptoRow.holds Try.pinned (OpenSpec.upto fnExactWeakestPlaceSpec)

/-- 'laws.FnExactLineStrength', WHERE WHAT IT READS IS OF BULK AT MOST 1048576: true; the input reads as it did. -/
def fnExactLineStrengthUptoRow : OpenClaim := { program := "ytdgodlccejoibaa", sum := "93fa5deaabac21784ca82b1f80763319b111729903845bc8ff7c46b992d9dd34", func := "loop.example/g01044/laws.FnExactLineStrength", spec := "fnExactLineStrength", unfollowed := true, recurses := true, apart := false, narrowed := true }
def FnExactLineStrengthUptoSaid : Prop := fnExactLineStrengthUptoRow.holds Try.pinned (OpenSpec.upto fnExactLineStrengthSpec)

end Rows
end Go.Proofs.Ytdgodlccejoibaa
