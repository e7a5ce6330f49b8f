/-
  No cell of these rows narrows 'for every input' (looked for: loops, veiled, ifaces, maps, wideKeys, modest, calm, conditions, laid).
  DERIVED. THE GIVEN ROWS OF THIS SEAT. 9 by the template 'for every input the law returns true; each argument reads behind the call as it read before'; 0 by the template 'total and deterministic' (their statements: YtbcgndhcieeloaaTotals.lean).
  GIVEN WITH THE SEED: the statements are not yours to turn. If you find one false, say at which input.
  Laid BY PROGRAM, IN A SANDBOX (cutbox-rows.mjs): the forced cells as the released guide's own fill.sh prints them over the translation 797682de0edb2317… (all of the seat's roots in one cut). By AI agents, Wed Nov 11 2026. No macro, syntax, notation, axiom, sorry.
-/
import Derived.Test.YtbcgndhcieeloaaChecked
import GoSem.Claim
import GoSem.ClaimJoined
import GoSem.ClaimMapViews
import Derived.JoinedTies
import Derived.KernelRfl
namespace Go.Proofs.Ytbcgndhcieeloaa
/- THE CELL 'sum', in the pinned program and in every row, IS THE sha256 OF THE DUMP (.gsa) THAT YtbcgndhcieeloaaProg.lean LOADS. Nothing in Lean hashes anything: it is a label: what it is worth is what the hold of that sum in a sandbox is worth. -/
noncomputable def Try.pinned : Pinned := { name := "ytbcgndhcieeloaa", sum := "797682de0edb2317c9e8ec76d1d5001a51f04d38d49a63e96412202beaa714af", checked := Try.checked }
namespace Rows
def none {H : Type} : Left H := { results := [], args := [] }

/-- 'laws.FnExactValidTackle': WHATEVER THE INPUT: true; the input reads as it did. -/
def fnExactValidTackleSpec : ChangeSpec := { name := "fnExactValidTackle", fn := fun _ => fun
  | [d] => { results := [.lit (.bool true)], args := [d] }
  | _ => none }
def fnExactValidTackleRow : OpenClaim := { program := "ytbcgndhcieeloaa", sum := "797682de0edb2317c9e8ec76d1d5001a51f04d38d49a63e96412202beaa714af", func := "loop.example/g01044/laws.FnExactValidTackle", spec := "fnExactValidTackle", apart := false }
def FnExactValidTackleSaid : Prop := fnExactValidTackleRow.holds Try.pinned (OpenSpec.ofChange fnExactValidTackleSpec)

/-- ITS FALSE NEIGHBOUR: 'it returns false'. Refute it at one input. -/
def fnExactValidTackleWrong : ChangeSpec := { name := "fnExactValidTackle", fn := fun _ => fun
  | [d] => { results := [.lit (.bool false)], args := [d] }
  | _ => none }
def FnExactValidTackleWrongFalsely : Prop := fnExactValidTackleRow.holds Try.pinned (OpenSpec.ofChange fnExactValidTackleWrong)

/-- 'laws.FnExactSheavesOf': WHATEVER THE INPUT: true; the input reads as it did. -/
def fnExactSheavesOfSpec : ChangeSpec := { name := "fnExactSheavesOf", fn := fun _ => fun
  | [d] => { results := [.lit (.bool true)], args := [d] }
  | _ => none }
def fnExactSheavesOfRow : OpenClaim := { program := "ytbcgndhcieeloaa", sum := "797682de0edb2317c9e8ec76d1d5001a51f04d38d49a63e96412202beaa714af", func := "loop.example/g01044/laws.FnExactSheavesOf", spec := "fnExactSheavesOf", apart := false }
def FnExactSheavesOfSaid : Prop := fnExactSheavesOfRow.holds Try.pinned (OpenSpec.ofChange fnExactSheavesOfSpec)

/-- ITS FALSE NEIGHBOUR: 'it returns false'. Refute it at one input. -/
def fnExactSheavesOfWrong : ChangeSpec := { name := "fnExactSheavesOf", fn := fun _ => fun
  | [d] => { results := [.lit (.bool false)], args := [d] }
  | _ => none }
def FnExactSheavesOfWrongFalsely : Prop := fnExactSheavesOfRow.holds Try.pinned (OpenSpec.ofChange fnExactSheavesOfWrong)

/-- 'laws.FnExactBlocksOf': WHATEVER THE INPUT: true; the input reads as it did. -/
def fnExactBlocksOfSpec : ChangeSpec := { name := "fnExactBlocksOf", fn := fun _ => fun
  | [d] => { results := [.lit (.bool true)], args := [d] }
  | _ => none }
def fnExactBlocksOfRow : OpenClaim := { program := "ytbcgndhcieeloaa", sum := "797682de0edb2317c9e8ec76d1d5001a51f04d38d49a63e96412202beaa714af", func := "loop.example/g01044/laws.FnExactBlocksOf", spec := "fnExactBlocksOf", apart := false }
def FnExactBlocksOfSaid : Prop := fnExactBlocksOfRow.holds Try.pinned (OpenSpec.ofChange fnExactBlocksOfSpec)

/-- ITS FALSE NEIGHBOUR: 'it returns false'. Refute it at one input. -/
def fnExactBlocksOfWrong : ChangeSpec := { name := "fnExactBlocksOf", fn := fun _ => fun
  | [d] => { results := [.lit (.bool false)], args := [d] }
  | _ => none }
def FnExactBlocksOfWrongFalsely : Prop := fnExactBlocksOfRow.holds Try.pinned (OpenSpec.ofChange fnExactBlocksOfWrong)

/-- 'laws.FnExactAdvantageOf': WHATEVER THE INPUT: true; the input reads as it did. -/
def fnExactAdvantageOfSpec : ChangeSpec := { name := "fnExactAdvantageOf", fn := fun _ => fun
  | [d] => { results := [.lit (.bool true)], args := [d] }
  | _ => none }
def fnExactAdvantageOfRow : OpenClaim := { program := "ytbcgndhcieeloaa", sum := "797682de0edb2317c9e8ec76d1d5001a51f04d38d49a63e96412202beaa714af", func := "loop.example/g01044/laws.FnExactAdvantageOf", spec := "fnExactAdvantageOf", apart := false }
def FnExactAdvantageOfSaid : Prop := fnExactAdvantageOfRow.holds Try.pinned (OpenSpec.ofChange fnExactAdvantageOfSpec)

/-- ITS FALSE NEIGHBOUR: 'it returns false'. Refute it at one input. -/
def fnExactAdvantageOfWrong : ChangeSpec := { name := "fnExactAdvantageOf", fn := fun _ => fun
  | [d] => { results := [.lit (.bool false)], args := [d] }
  | _ => none }
def FnExactAdvantageOfWrongFalsely : Prop := fnExactAdvantageOfRow.holds Try.pinned (OpenSpec.ofChange fnExactAdvantageOfWrong)

/-- 'laws.FnExactHaulFor': WHATEVER THE INPUT: true; the input reads as it did. -/
def fnExactHaulForSpec : ChangeSpec := { name := "fnExactHaulFor", fn := fun _ => fun
  | [d1, d2] => { results := [.lit (.bool true)], args := [d1, d2] }
  | _ => none }
def fnExactHaulForRow : OpenClaim := { program := "ytbcgndhcieeloaa", sum := "797682de0edb2317c9e8ec76d1d5001a51f04d38d49a63e96412202beaa714af", func := "loop.example/g01044/laws.FnExactHaulFor", spec := "fnExactHaulFor", apart := false }
def FnExactHaulForSaid : Prop := fnExactHaulForRow.holds Try.pinned (OpenSpec.ofChange fnExactHaulForSpec)

/-- ITS FALSE NEIGHBOUR: 'it returns false'. Refute it at one input. -/
def fnExactHaulForWrong : ChangeSpec := { name := "fnExactHaulFor", fn := fun _ => fun
  | [d1, d2] => { results := [.lit (.bool false)], args := [d1, d2] }
  | _ => none }
def FnExactHaulForWrongFalsely : Prop := fnExactHaulForRow.holds Try.pinned (OpenSpec.ofChange fnExactHaulForWrong)

/-- 'laws.FnExactPurchasesFor': WHATEVER THE INPUT: true; the input reads as it did. -/
def fnExactPurchasesForSpec : ChangeSpec := { name := "fnExactPurchasesFor", fn := fun _ => fun
  | [d] => { results := [.lit (.bool true)], args := [d] }
  | _ => none }
def fnExactPurchasesForRow : OpenClaim := { program := "ytbcgndhcieeloaa", sum := "797682de0edb2317c9e8ec76d1d5001a51f04d38d49a63e96412202beaa714af", func := "loop.example/g01044/laws.FnExactPurchasesFor", spec := "fnExactPurchasesFor", apart := false }
def FnExactPurchasesForSaid : Prop := fnExactPurchasesForRow.holds Try.pinned (OpenSpec.ofChange fnExactPurchasesForSpec)

/-- ITS FALSE NEIGHBOUR: 'it returns false'. Refute it at one input. -/
def fnExactPurchasesForWrong : ChangeSpec := { name := "fnExactPurchasesFor", fn := fun _ => fun
  | [d] => { results := [.lit (.bool false)], args := [d] }
  | _ => none }
def FnExactPurchasesForWrongFalsely : Prop := fnExactPurchasesForRow.holds Try.pinned (OpenSpec.ofChange fnExactPurchasesForWrong)

/-- 'laws.FnExactPullsOf': WHATEVER THE INPUT: true; the input reads as it did. -/
def fnExactPullsOfSpec : ChangeSpec := { name := "fnExactPullsOf", fn := fun _ => fun
  | [d] => { results := [.lit (.bool true)], args := [d] }
  | _ => none }
def fnExactPullsOfRow : OpenClaim := { program := "ytbcgndhcieeloaa", sum := "797682de0edb2317c9e8ec76d1d5001a51f04d38d49a63e96412202beaa714af", func := "loop.example/g01044/laws.FnExactPullsOf", spec := "fnExactPullsOf", apart := false }
def FnExactPullsOfSaid : Prop := fnExactPullsOfRow.holds Try.pinned (OpenSpec.ofChange fnExactPullsOfSpec)

/-- ITS FALSE NEIGHBOUR: 'it returns false'. Refute it at one input. -/
def fnExactPullsOfWrong : ChangeSpec := { name := "fnExactPullsOf", fn := fun _ => fun
  | [d] => { results := [.lit (.bool false)], args := [d] }
  | _ => none }
def FnExactPullsOfWrongFalsely : Prop := fnExactPullsOfRow.holds Try.pinned (OpenSpec.ofChange fnExactPullsOfWrong)

/-- 'laws.FnExactRopeLengths': WHATEVER THE INPUT: true; the input reads as it did. -/
def fnExactRopeLengthsSpec : ChangeSpec := { name := "fnExactRopeLengths", fn := fun _ => fun
  | [d1, d2] => { results := [.lit (.bool true)], args := [d1, d2] }
  | _ => none }
def fnExactRopeLengthsRow : OpenClaim := { program := "ytbcgndhcieeloaa", sum := "797682de0edb2317c9e8ec76d1d5001a51f04d38d49a63e96412202beaa714af", func := "loop.example/g01044/laws.FnExactRopeLengths", spec := "fnExactRopeLengths", apart := false }
def FnExactRopeLengthsSaid : Prop := fnExactRopeLengthsRow.holds Try.pinned (OpenSpec.ofChange fnExactRopeLengthsSpec)

/-- ITS FALSE NEIGHBOUR: 'it returns false'. Refute it at one input. -/
def fnExactRopeLengthsWrong : ChangeSpec := { name := "fnExactRopeLengths", fn := fun _ => fun
  | [d1, d2] => { results := [.lit (.bool false)], args := [d1, d2] }
  | _ => none }
def FnExactRopeLengthsWrongFalsely : Prop := fnExactRopeLengthsRow.holds Try.pinned (OpenSpec.ofChange fnExactRopeLengthsWrong)

/-- 'laws.FnExactFewestBlocks': WHATEVER THE INPUT: true; the input reads as it did. -/
def fnExactFewestBlocksSpec : ChangeSpec := { name := "fnExactFewestBlocks", fn := fun _ => fun
  | [d] => { results := [.lit (.bool true)], args := [d] }
  | _ => none }
def fnExactFewestBlocksRow : OpenClaim := { program := "ytbcgndhcieeloaa", sum := "797682de0edb2317c9e8ec76d1d5001a51f04d38d49a63e96412202beaa714af", func := "loop.example/g01044/laws.FnExactFewestBlocks", spec := "fnExactFewestBlocks", unfollowed := true, recurses := true, apart := false }
def FnExactFewestBlocksSaid : Prop := fnExactFewestBlocksRow.holds Try.pinned (OpenSpec.ofChange fnExactFewestBlocksSpec)

/-- ITS FALSE NEIGHBOUR: 'it returns false'. Refute it at one input. -/
def fnExactFewestBlocksWrong : ChangeSpec := { name := "fnExactFewestBlocks", fn := fun _ => fun
  | [d] => { results := [.lit (.bool false)], args := [d] }
  | _ => none }
def FnExactFewestBlocksWrongFalsely : Prop := fnExactFewestBlocksRow.holds Try.pinned (OpenSpec.ofChange fnExactFewestBlocksWrong)

/- THE SECOND FORM. 'bulk': how many values and letters a reading holds, each counted each time it is reached (what is shared counts as often as it is met; a slice's spare places count too). A statement '..UptoSaid' is the law's where the arguments, and the package variables that the reading takes, are together of bulk at most 1048576: NARROWER than '..Said'. Prove '..Said' where nothing that the law and all that it calls make is longer than what came in: it says more and counts as full. Else prove '..UptoSaid'. A law counts once. -/
mutual
def uptoBulk {H : Type} : DataW H → Nat
  | .lit (.string bytes) => bytes.length + 1
  | .lit _ => 1
  | .nil => 1
  | .ptr d => uptoBulk d + 1
  | .slice elems spare => uptoBulkAll elems + uptoBulkAll spare + 1
  | .agg parts => uptoBulkAll parts + 1
  | .iface _ d => uptoBulk d + 1
  | .map entries => uptoBulkEntries entries + 1
  | .held _ => 1
def uptoBulkAll {H : Type} : List (DataW H) → Nat
  | [] => 0
  | d :: r => uptoBulk d + uptoBulkAll r
def uptoBulkEntries {H : Type} : List (Lit × DataW H) → Nat
  | [] => 0
  | x :: r => uptoBulkEntry x + uptoBulkEntries r
def uptoBulkEntry {H : Type} : Lit × DataW H → Nat
  | (.string bytes, d) => bytes.length + uptoBulk d + 1
  | (_, d) => uptoBulk d + 1
 end
def uptoSmall : (H : Type) → List (DataW H) → Bool := fun _ ds => decide (uptoBulkAll ds ≤ 1048576)
def OpenSpec.upto (s : _root_.Go.ChangeSpec) : _root_.Go.OpenSpec := { _root_.Go.OpenSpec.ofChange s with cond := some uptoSmall }

/-- 'laws.FnExactValidTackle', WHERE WHAT IT READS IS OF BULK AT MOST 1048576: true; the input reads as it did. -/
def fnExactValidTackleUptoRow : OpenClaim := { program := "ytbcgndhcieeloaa", sum := "797682de0edb2317c9e8ec76d1d5001a51f04d38d49a63e96412202beaa714af", func := "loop.example/g01044/laws.FnExactValidTackle", spec := "fnExactValidTackle", apart := false, narrowed := true }
def FnExactValidTackleUptoSaid : Prop := fnExactValidTackleUptoRow.holds Try.pinned (OpenSpec.upto fnExactValidTackleSpec)

/-- 'laws.FnExactSheavesOf', WHERE WHAT IT READS IS OF BULK AT MOST 1048576: true; the input reads as it did. -/
def fnExactSheavesOfUptoRow : OpenClaim := { program := "ytbcgndhcieeloaa", sum := "797682de0edb2317c9e8ec76d1d5001a51f04d38d49a63e96412202beaa714af", func := "loop.example/g01044/laws.FnExactSheavesOf", spec := "fnExactSheavesOf", apart := false, narrowed := true }
def FnExactSheavesOfUptoSaid : Prop := fnExactSheavesOfUptoRow.holds Try.pinned (OpenSpec.upto fnExactSheavesOfSpec)

/-- 'laws.FnExactBlocksOf', WHERE WHAT IT READS IS OF BULK AT MOST 1048576: true; the input reads as it did. -/
def fnExactBlocksOfUptoRow : OpenClaim := { program := "ytbcgndhcieeloaa", sum := "797682de0edb2317c9e8ec76d1d5001a51f04d38d49a63e96412202beaa714af", func := "loop.example/g01044/laws.FnExactBlocksOf", spec := "fnExactBlocksOf", apart := false, narrowed := true }
def FnExactBlocksOfUptoSaid : Prop := fnExactBlocksOfUptoRow.holds Try.pinned (OpenSpec.upto fnExactBlocksOfSpec)

/-- 'laws.FnExactAdvantageOf', WHERE WHAT IT READS IS OF BULK AT MOST 1048576: true; the input reads as it did. -/
def fnExactAdvantageOfUptoRow : OpenClaim := { program := "ytbcgndhcieeloaa", sum := "797682de0edb2317c9e8ec76d1d5001a51f04d38d49a63e96412202beaa714af", func := "loop.example/g01044/laws.FnExactAdvantageOf", spec := "fnExactAdvantageOf", apart := false, narrowed := true }
def FnExactAdvantageOfUptoSaid : Prop := fnExactAdvantageOfUptoRow.holds Try.pinned (OpenSpec.upto fnExactAdvantageOfSpec)

/-- 'laws.FnExactHaulFor', WHERE WHAT IT READS IS OF BULK AT MOST 1048576: true; the input reads as it did. -/
def fnExactHaulForUptoRow : OpenClaim := { program := "ytbcgndhcieeloaa", sum := "797682de0edb2317c9e8ec76d1d5001a51f04d38d49a63e96412202beaa714af", func := "loop.example/g01044/laws.FnExactHaulFor", spec := "fnExactHaulFor", apart := false, narrowed := true }
def FnExactHaulForUptoSaid : Prop := fnExactHaulForUptoRow.holds Try.pinned (OpenSpec.upto fnExactHaulForSpec)

/-- 'laws.FnExactPurchasesFor', WHERE WHAT IT READS IS OF BULK AT MOST 1048576: true; the input reads as it did. -/
def fnExactPurchasesForUptoRow : OpenClaim := { program := "ytbcgndhcieeloaa", sum := "797682de0edb2317c9e8ec76d1d5001a51f04d38d49a63e96412202beaa714af", func := "loop.example/g01044/laws.FnExactPurchasesFor", spec := "fnExactPurchasesFor", apart := false, narrowed := true }
def FnExactPurchasesForUptoSaid : Prop := fnExactPurchasesForUptoRow.holds Try.pinned (OpenSpec.upto fnExactPurchasesForSpec)

/-- 'laws.FnExactPullsOf', WHERE WHAT IT READS IS OF BULK AT MOST 1048576: true; the input reads as it did. -/
def fnExactPullsOfUptoRow : OpenClaim := { program := "ytbcgndhcieeloaa", sum := "797682de0edb2317c9e8ec76d1d5001a51f04d38d49a63e96412202beaa714af", func := "loop.example/g01044/laws.FnExactPullsOf", spec := "fnExactPullsOf", apart := false, narrowed := true }
def FnExactPullsOfUptoSaid : Prop := fnExactPullsOfUptoRow.holds Try.pinned (OpenSpec.upto fnExactPullsOfSpec)

/-- 'laws.FnExactRopeLengths', WHERE WHAT IT READS IS OF BULK AT MOST 1048576: true; the input reads as it did. -/
def fnExactRopeLengthsUptoRow : OpenClaim := { program := "ytbcgndhcieeloaa", sum := "797682de0edb2317c9e8ec76d1d5001a51f04d38d49a63e96412202beaa714af", func := "loop.example/g01044/laws.FnExactRopeLengths", spec := "fnExactRopeLengths", apart := false, narrowed := true }
def FnExactRopeLengthsUptoSaid : Prop := fnExactRopeLengthsUptoRow.holds Try.pinned (OpenSpec.upto fnExactRopeLengthsSpec)

/-- 'laws.FnExactFewestBlocks', WHERE WHAT IT READS IS OF BULK AT MOST 1048576: true; the input reads as it did. -/
def fnExactFewestBlocksUptoRow : OpenClaim := { program := "ytbcgndhcieeloaa", sum := "797682de0edb2317c9e8ec76d1d5001a51f04d38d49a63e96412202beaa714af", func := "loop.example/g01044/laws.FnExactFewestBlocks", spec := "fnExactFewestBlocks", unfollowed := true, recurses := true, apart := false, narrowed := true }
def FnExactFewestBlocksUptoSaid : Prop := fnExactFewestBlocksUptoRow.holds Try.pinned (OpenSpec.upto fnExactFewestBlocksSpec)

end Rows
end Go.Proofs.Ytbcgndhcieeloaa
