/-
  No cell of these rows narrows 'for every input' (looked for: loops, veiled, ifaces, maps, wideKeys, modest, calm, conditions, laid).
  DERIVED. THE GIVEN ROWS OF THIS SEAT. 4 by the template 'for every input the law returns true; each argument reads behind the call as it read before'; 0 by the template 'total and deterministic' (their statements: YtginmioklkcgbaaTotals.lean).
  GIVEN WITH THE SEED: the statements are not yours to turn. If you find one false, say at which input.
  Laid BY PROGRAM, IN A SANDBOX (cutbox-rows.mjs): the forced cells as the released guide's own fill.sh prints them over the translation cabefa0334b962ae… (all of the seat's roots in one cut). By AI agents, Wed Nov 11 2026. No macro, syntax, notation, axiom, sorry.
-/
import Derived.Test.YtginmioklkcgbaaChecked
import GoSem.Claim
import GoSem.ClaimJoined
import GoSem.ClaimMapViews
import Derived.JoinedTies
import Derived.KernelRfl
namespace Go.Proofs.Ytginmioklkcgbaa
/- THE CELL 'sum', in the pinned program and in every row, IS THE sha256 OF THE DUMP (.gsa) THAT YtginmioklkcgbaaProg.lean LOADS. Nothing in Lean hashes anything: it is a label: what it is worth is what the hold of that sum in a sandbox is worth. -/
noncomputable def Try.pinned : Pinned := { name := "ytginmioklkcgbaa", sum := "cabefa0334b962ae53a21611b940cd50f0dd51ed1af49e114e36745bc7938fbd", checked := Try.checked }
namespace Rows
def none {H : Type} : Left H := { results := [], args := [] }

/-- 'laws.FnExactLongestLine': WHATEVER THE INPUT: true; the input reads as it did. -/
def fnExactLongestLineSpec : ChangeSpec := { name := "fnExactLongestLine", fn := fun _ => fun
  | [d1, d2, d3] => { results := [.lit (.bool true)], args := [d1, d2, d3] }
  | _ => none }
def fnExactLongestLineRow : OpenClaim := { program := "ytginmioklkcgbaa", sum := "cabefa0334b962ae53a21611b940cd50f0dd51ed1af49e114e36745bc7938fbd", func := "loop.example/g01044/laws.FnExactLongestLine", spec := "fnExactLongestLine", unfollowed := true, recurses := true, apart := false }
def FnExactLongestLineSaid : Prop := fnExactLongestLineRow.holds Try.pinned (OpenSpec.ofChange fnExactLongestLineSpec)

/-- ITS FALSE NEIGHBOUR: 'it returns false'. Refute it at one input. -/
def fnExactLongestLineWrong : ChangeSpec := { name := "fnExactLongestLine", fn := fun _ => fun
  | [d1, d2, d3] => { results := [.lit (.bool false)], args := [d1, d2, d3] }
  | _ => none }
def FnExactLongestLineWrongFalsely : Prop := fnExactLongestLineRow.holds Try.pinned (OpenSpec.ofChange fnExactLongestLineWrong)

/-- 'laws.FnBestJoins': WHATEVER THE INPUT: true; the input reads as it did. -/
def fnBestJoinsSpec : ChangeSpec := { name := "fnBestJoins", fn := fun _ => fun
  | [d] => { results := [.lit (.bool true)], args := [d] }
  | _ => none }
def fnBestJoinsRow : OpenClaim := { program := "ytginmioklkcgbaa", sum := "cabefa0334b962ae53a21611b940cd50f0dd51ed1af49e114e36745bc7938fbd", func := "loop.example/g01044/laws.FnBestJoins", spec := "fnBestJoins", unfollowed := true, recurses := true, apart := false }
def FnBestJoinsSaid : Prop := fnBestJoinsRow.holds Try.pinned (OpenSpec.ofChange fnBestJoinsSpec)

/-- ITS FALSE NEIGHBOUR: 'it returns false'. Refute it at one input. -/
def fnBestJoinsWrong : ChangeSpec := { name := "fnBestJoins", fn := fun _ => fun
  | [d] => { results := [.lit (.bool false)], args := [d] }
  | _ => none }
def FnBestJoinsWrongFalsely : Prop := fnBestJoinsRow.holds Try.pinned (OpenSpec.ofChange fnBestJoinsWrong)

/-- 'laws.FnRopeLists': WHATEVER THE INPUT: true; the input reads as it did. -/
def fnRopeListsSpec : ChangeSpec := { name := "fnRopeLists", fn := fun _ => fun
  | [d1, d2] => { results := [.lit (.bool true)], args := [d1, d2] }
  | _ => none }
def fnRopeListsRow : OpenClaim := { program := "ytginmioklkcgbaa", sum := "cabefa0334b962ae53a21611b940cd50f0dd51ed1af49e114e36745bc7938fbd", func := "loop.example/g01044/laws.FnRopeLists", spec := "fnRopeLists", apart := false }
def FnRopeListsSaid : Prop := fnRopeListsRow.holds Try.pinned (OpenSpec.ofChange fnRopeListsSpec)

/-- ITS FALSE NEIGHBOUR: 'it returns false'. Refute it at one input. -/
def fnRopeListsWrong : ChangeSpec := { name := "fnRopeLists", fn := fun _ => fun
  | [d1, d2] => { results := [.lit (.bool false)], args := [d1, d2] }
  | _ => none }
def FnRopeListsWrongFalsely : Prop := fnRopeListsRow.holds Try.pinned (OpenSpec.ofChange fnRopeListsWrong)

/-- 'laws.FnExactFewestBlocks': WHATEVER THE INPUT: true; the input reads as it did. -/
def fnExactFewestBlocksSpec : ChangeSpec := { name := "fnExactFewestBlocks", fn := fun _ => fun
  | [d] => { results := [.lit (.bool true)], args := [d] }
  | _ => none }
def fnExactFewestBlocksRow : OpenClaim := { program := "ytginmioklkcgbaa", sum := "cabefa0334b962ae53a21611b940cd50f0dd51ed1af49e114e36745bc7938fbd", func := "loop.example/g01044/laws.FnExactFewestBlocks", spec := "fnExactFewestBlocks", unfollowed := true, recurses := true, apart := false }
def FnExactFewestBlocksSaid : Prop := fnExactFewestBlocksRow.holds Try.pinned (OpenSpec.ofChange fnExactFewestBlocksSpec)

/-- ITS FALSE NEIGHBOUR: 'it returns false'. Refute it at one input. -/
def fnExactFewestBlocksWrong : ChangeSpec := { name := "fnExactFewestBlocks", fn := fun _ => fun
  | [d] => { results := [.lit (.bool false)], args := [d] }
  | _ => none }
def FnExactFewestBlocksWrongFalsely : Prop := fnExactFewestBlocksRow.holds Try.pinned (OpenSpec.ofChange fnExactFewestBlocksWrong)

/- THE SECOND FORM. 'bulk': how many values and letters a reading holds, each counted each time it is reached (what is shared counts as often as it is met; a slice's spare places count too). A statement '..UptoSaid' is the law's where the arguments, and the package variables that the reading takes, are together of bulk at most 1048576: NARROWER than '..Said'. Prove '..Said' where nothing that the law and all that it calls make is longer than what came in: it says more and counts as full. Else prove '..UptoSaid'. A law counts once. -/
mutual
def uptoBulk {H : Type} : DataW H → Nat
  | .lit (.string bytes) => bytes.length + 1
  | .lit _ => 1
  | .nil => 1
  | .ptr d => uptoBulk d + 1
  | .slice elems spare => uptoBulkAll elems + uptoBulkAll spare + 1
  | .agg parts => uptoBulkAll parts + 1
  | .iface _ d => uptoBulk d + 1
  | .map entries => uptoBulkEntries entries + 1
  | .held _ => 1
def uptoBulkAll {H : Type} : List (DataW H) → Nat
  | [] => 0
  | d :: r => uptoBulk d + uptoBulkAll r
def uptoBulkEntries {H : Type} : List (Lit × DataW H) → Nat
  | [] => 0
  | x :: r => uptoBulkEntry x + uptoBulkEntries r
def uptoBulkEntry {H : Type} : Lit × DataW H → Nat
  | (.string bytes, d) => bytes.length + uptoBulk d + 1
  | (_, d) => uptoBulk d + 1
 end
def uptoSmall : (H : Type) → List (DataW H) → Bool := fun _ ds => decide (uptoBulkAll ds ≤ 1048576)
def OpenSpec.upto (s : _root_.Go.ChangeSpec) : _root_.Go.OpenSpec := { _root_.Go.OpenSpec.ofChange s with cond := some uptoSmall }

/-- 'laws.FnExactLongestLine', WHERE WHAT IT READS IS OF BULK AT MOST 1048576: true; the input reads as it did. -/
def fnExactLongestLineUptoRow : OpenClaim := { program := "ytginmioklkcgbaa", sum := "cabefa0334b962ae53a21611b940cd50f0dd51ed1af49e114e36745bc7938fbd", func := "loop.example/g01044/laws.FnExactLongestLine", spec := "fnExactLongestLine", unfollowed := true, recurses := true, apart := false, narrowed := true }
def FnExactLongestLineUptoSaid : Prop := fnExactLongestLineUptoRow.holds Try.pinned (OpenSpec.upto fnExactLongestLineSpec)

/-- 'laws.FnBestJoins', WHERE WHAT IT READS IS OF BULK AT MOST 1048576: true; the input reads as it did. -/
def fnBestJoinsUptoRow : OpenClaim := { program := "ytginmioklkcgbaa", sum := "cabefa0334b962ae53a21611b940cd50f0dd51ed1af49e114e36745bc7938fbd", func := "loop.example/g01044/laws.FnBestJoins", spec := "fnBestJoins", unfollowed := true, recurses := true, apart := false, narrowed := true }
def FnBestJoinsUptoSaid : Prop := fnBestJoinsUptoRow.holds Try.pinned (OpenSpec.upto fnBestJoinsSpec)

/-- 'laws.FnRopeLists', WHERE WHAT IT READS IS OF BULK AT MOST 1048576: true; the input reads as it did. -/
def fnRopeListsUptoRow : OpenClaim := { program := "ytginmioklkcgbaa", sum := "cabefa0334b962ae53a21611b940cd50f0dd51ed1af49e114e36745bc7938fbd", func := "loop.example/g01044/laws.FnRopeLists", spec := "fnRopeLists", apart := false, narrowed := true }
def FnRopeListsUptoSaid : Prop := fnRopeListsUptoRow.holds Try.pinned (OpenSpec.upto fnRopeListsSpec)

/-- 'laws.FnExactFewestBlocks', WHERE WHAT IT READS IS OF BULK AT MOST 1048576: true; the input reads as it did. -/
def fnExactFewestBlocksUptoRow : OpenClaim := { program := "ytginmioklkcgbaa", sum := "cabefa0334b962ae53a21611b940cd50f0dd51ed1af49e114e36745bc7938fbd", func := "loop.example/g01044/laws.FnExactFewestBlocks", spec := "fnExactFewestBlocks", unfollowed := true, recurses := true, apart := false, narrowed := true }
def FnExactFewestBlocksUptoSaid : Prop := fnExactFewestBlocksUptoRow.holds Try.pinned (OpenSpec.upto fnExactFewestBlocksSpec)

end Rows
end Go.Proofs.Ytginmioklkcgbaa
