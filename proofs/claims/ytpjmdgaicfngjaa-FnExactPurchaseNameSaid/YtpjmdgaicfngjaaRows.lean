/-
  No cell of these rows narrows 'for every input' (looked for: loops, veiled, ifaces, maps, wideKeys, modest, calm, conditions, laid).
  DERIVED. THE GIVEN ROWS OF THIS SEAT. 12 by the template 'for every input the law returns true; each argument reads behind the call as it read before'; 0 by the template 'total and deterministic' (their statements: YtpjmdgaicfngjaaTotals.lean).
  GIVEN WITH THE SEED: the statements are not yours to turn. If you find one false, say at which input.
  Laid BY PROGRAM, IN A SANDBOX (cutbox-rows.mjs): the forced cells as the released guide's own fill.sh prints them over the translation f3bfd9d62bb717b8… (all of the seat's roots in one cut). By AI agents, Wed Nov 11 2026. No macro, syntax, notation, axiom, sorry.
-/
import Derived.Test.YtpjmdgaicfngjaaChecked
import GoSem.Claim
import GoSem.ClaimJoined
import GoSem.ClaimMapViews
import Derived.JoinedTies
import Derived.KernelRfl
namespace Go.Proofs.Ytpjmdgaicfngjaa
/- THE CELL 'sum', in the pinned program and in every row, IS THE sha256 OF THE DUMP (.gsa) THAT YtpjmdgaicfngjaaProg.lean LOADS. Nothing in Lean hashes anything: it is a label: what it is worth is what the hold of that sum in a sandbox is worth. -/
noncomputable def Try.pinned : Pinned := { name := "ytpjmdgaicfngjaa", sum := "f3bfd9d62bb717b81b1a0f376f906b3ffe148ffb288f8bae793fe1419fea06d7", checked := Try.checked }
namespace Rows
def none {H : Type} : Left H := { results := [], args := [] }

/-- 'laws.FnExactConstants': WHATEVER THE INPUT: true; the input reads as it did. -/
def fnExactConstantsSpec : ChangeSpec := { name := "fnExactConstants", fn := fun _ => fun
  | [] => { results := [.lit (.bool true)], args := [] }
  | _ => none }
def fnExactConstantsRow : OpenClaim := { program := "ytpjmdgaicfngjaa", sum := "f3bfd9d62bb717b81b1a0f376f906b3ffe148ffb288f8bae793fe1419fea06d7", func := "loop.example/g01044/laws.FnExactConstants", spec := "fnExactConstants", apart := false }
def FnExactConstantsSaid : Prop := fnExactConstantsRow.holds Try.pinned (OpenSpec.ofChange fnExactConstantsSpec)

/-- ITS FALSE NEIGHBOUR: 'it returns false'. Refute it at one input. -/
def fnExactConstantsWrong : ChangeSpec := { name := "fnExactConstants", fn := fun _ => fun
  | [] => { results := [.lit (.bool false)], args := [] }
  | _ => none }
def FnExactConstantsWrongFalsely : Prop := fnExactConstantsRow.holds Try.pinned (OpenSpec.ofChange fnExactConstantsWrong)

/-- 'laws.FnExactCodeName': WHATEVER THE INPUT: true; the input reads as it did. -/
def fnExactCodeNameSpec : ChangeSpec := { name := "fnExactCodeName", fn := fun _ => fun
  | [d] => { results := [.lit (.bool true)], args := [d] }
  | _ => none }
def fnExactCodeNameRow : OpenClaim := { program := "ytpjmdgaicfngjaa", sum := "f3bfd9d62bb717b81b1a0f376f906b3ffe148ffb288f8bae793fe1419fea06d7", func := "loop.example/g01044/laws.FnExactCodeName", spec := "fnExactCodeName", apart := false }
def FnExactCodeNameSaid : Prop := fnExactCodeNameRow.holds Try.pinned (OpenSpec.ofChange fnExactCodeNameSpec)

/-- ITS FALSE NEIGHBOUR: 'it returns false'. Refute it at one input. -/
def fnExactCodeNameWrong : ChangeSpec := { name := "fnExactCodeName", fn := fun _ => fun
  | [d] => { results := [.lit (.bool false)], args := [d] }
  | _ => none }
def FnExactCodeNameWrongFalsely : Prop := fnExactCodeNameRow.holds Try.pinned (OpenSpec.ofChange fnExactCodeNameWrong)

/-- 'laws.FnExactIsName': WHATEVER THE INPUT: true; the input reads as it did. -/
def fnExactIsNameSpec : ChangeSpec := { name := "fnExactIsName", fn := fun _ => fun
  | [d] => { results := [.lit (.bool true)], args := [d] }
  | _ => none }
def fnExactIsNameRow : OpenClaim := { program := "ytpjmdgaicfngjaa", sum := "f3bfd9d62bb717b81b1a0f376f906b3ffe148ffb288f8bae793fe1419fea06d7", func := "loop.example/g01044/laws.FnExactIsName", spec := "fnExactIsName", apart := false }
def FnExactIsNameSaid : Prop := fnExactIsNameRow.holds Try.pinned (OpenSpec.ofChange fnExactIsNameSpec)

/-- ITS FALSE NEIGHBOUR: 'it returns false'. Refute it at one input. -/
def fnExactIsNameWrong : ChangeSpec := { name := "fnExactIsName", fn := fun _ => fun
  | [d] => { results := [.lit (.bool false)], args := [d] }
  | _ => none }
def FnExactIsNameWrongFalsely : Prop := fnExactIsNameRow.holds Try.pinned (OpenSpec.ofChange fnExactIsNameWrong)

/-- 'laws.FnExactValidPurchase': WHATEVER THE INPUT: true; the input reads as it did. -/
def fnExactValidPurchaseSpec : ChangeSpec := { name := "fnExactValidPurchase", fn := fun _ => fun
  | [d] => { results := [.lit (.bool true)], args := [d] }
  | _ => none }
def fnExactValidPurchaseRow : OpenClaim := { program := "ytpjmdgaicfngjaa", sum := "f3bfd9d62bb717b81b1a0f376f906b3ffe148ffb288f8bae793fe1419fea06d7", func := "loop.example/g01044/laws.FnExactValidPurchase", spec := "fnExactValidPurchase", apart := false }
def FnExactValidPurchaseSaid : Prop := fnExactValidPurchaseRow.holds Try.pinned (OpenSpec.ofChange fnExactValidPurchaseSpec)

/-- ITS FALSE NEIGHBOUR: 'it returns false'. Refute it at one input. -/
def fnExactValidPurchaseWrong : ChangeSpec := { name := "fnExactValidPurchase", fn := fun _ => fun
  | [d] => { results := [.lit (.bool false)], args := [d] }
  | _ => none }
def FnExactValidPurchaseWrongFalsely : Prop := fnExactValidPurchaseRow.holds Try.pinned (OpenSpec.ofChange fnExactValidPurchaseWrong)

/-- 'laws.FnExactEvenStiff': WHATEVER THE INPUT: true; the input reads as it did. -/
def fnExactEvenStiffSpec : ChangeSpec := { name := "fnExactEvenStiff", fn := fun _ => fun
  | [d1, d2, d3] => { results := [.lit (.bool true)], args := [d1, d2, d3] }
  | _ => none }
def fnExactEvenStiffRow : OpenClaim := { program := "ytpjmdgaicfngjaa", sum := "f3bfd9d62bb717b81b1a0f376f906b3ffe148ffb288f8bae793fe1419fea06d7", func := "loop.example/g01044/laws.FnExactEvenStiff", spec := "fnExactEvenStiff", apart := false }
def FnExactEvenStiffSaid : Prop := fnExactEvenStiffRow.holds Try.pinned (OpenSpec.ofChange fnExactEvenStiffSpec)

/-- ITS FALSE NEIGHBOUR: 'it returns false'. Refute it at one input. -/
def fnExactEvenStiffWrong : ChangeSpec := { name := "fnExactEvenStiff", fn := fun _ => fun
  | [d1, d2, d3] => { results := [.lit (.bool false)], args := [d1, d2, d3] }
  | _ => none }
def FnExactEvenStiffWrongFalsely : Prop := fnExactEvenStiffRow.holds Try.pinned (OpenSpec.ofChange fnExactEvenStiffWrong)

/-- 'laws.FnExactTurnPurchase': WHATEVER THE INPUT: true; the input reads as it did. -/
def fnExactTurnPurchaseSpec : ChangeSpec := { name := "fnExactTurnPurchase", fn := fun _ => fun
  | [d] => { results := [.lit (.bool true)], args := [d] }
  | _ => none }
def fnExactTurnPurchaseRow : OpenClaim := { program := "ytpjmdgaicfngjaa", sum := "f3bfd9d62bb717b81b1a0f376f906b3ffe148ffb288f8bae793fe1419fea06d7", func := "loop.example/g01044/laws.FnExactTurnPurchase", spec := "fnExactTurnPurchase", apart := false }
def FnExactTurnPurchaseSaid : Prop := fnExactTurnPurchaseRow.holds Try.pinned (OpenSpec.ofChange fnExactTurnPurchaseSpec)

/-- ITS FALSE NEIGHBOUR: 'it returns false'. Refute it at one input. -/
def fnExactTurnPurchaseWrong : ChangeSpec := { name := "fnExactTurnPurchase", fn := fun _ => fun
  | [d] => { results := [.lit (.bool false)], args := [d] }
  | _ => none }
def FnExactTurnPurchaseWrongFalsely : Prop := fnExactTurnPurchaseRow.holds Try.pinned (OpenSpec.ofChange fnExactTurnPurchaseWrong)

/-- 'laws.FnExactPurchaseName': WHATEVER THE INPUT: true; the input reads as it did. -/
def fnExactPurchaseNameSpec : ChangeSpec := { name := "fnExactPurchaseName", fn := fun _ => fun
  | [d] => { results := [.lit (.bool true)], args := [d] }
  | _ => none }
def fnExactPurchaseNameRow : OpenClaim := { program := "ytpjmdgaicfngjaa", sum := "f3bfd9d62bb717b81b1a0f376f906b3ffe148ffb288f8bae793fe1419fea06d7", func := "loop.example/g01044/laws.FnExactPurchaseName", spec := "fnExactPurchaseName", apart := false }
def FnExactPurchaseNameSaid : Prop := fnExactPurchaseNameRow.holds Try.pinned (OpenSpec.ofChange fnExactPurchaseNameSpec)

/-- ITS FALSE NEIGHBOUR: 'it returns false'. Refute it at one input. -/
def fnExactPurchaseNameWrong : ChangeSpec := { name := "fnExactPurchaseName", fn := fun _ => fun
  | [d] => { results := [.lit (.bool false)], args := [d] }
  | _ => none }
def FnExactPurchaseNameWrongFalsely : Prop := fnExactPurchaseNameRow.holds Try.pinned (OpenSpec.ofChange fnExactPurchaseNameWrong)

/-- 'laws.FnSharedLoads': WHATEVER THE INPUT: true; the input reads as it did. -/
def fnSharedLoadsSpec : ChangeSpec := { name := "fnSharedLoads", fn := fun _ => fun
  | [d1, d2] => { results := [.lit (.bool true)], args := [d1, d2] }
  | _ => none }
def fnSharedLoadsRow : OpenClaim := { program := "ytpjmdgaicfngjaa", sum := "f3bfd9d62bb717b81b1a0f376f906b3ffe148ffb288f8bae793fe1419fea06d7", func := "loop.example/g01044/laws.FnSharedLoads", spec := "fnSharedLoads", unfollowed := true, recurses := true, apart := false }
def FnSharedLoadsSaid : Prop := fnSharedLoadsRow.holds Try.pinned (OpenSpec.ofChange fnSharedLoadsSpec)

/-- ITS FALSE NEIGHBOUR: 'it returns false'. Refute it at one input. -/
def fnSharedLoadsWrong : ChangeSpec := { name := "fnSharedLoads", fn := fun _ => fun
  | [d1, d2] => { results := [.lit (.bool false)], args := [d1, d2] }
  | _ => none }
def FnSharedLoadsWrongFalsely : Prop := fnSharedLoadsRow.holds Try.pinned (OpenSpec.ofChange fnSharedLoadsWrong)

/-- 'laws.FnExactWornStrength': WHATEVER THE INPUT: true; the input reads as it did. -/
def fnExactWornStrengthSpec : ChangeSpec := { name := "fnExactWornStrength", fn := fun _ => fun
  | [d1, d2] => { results := [.lit (.bool true)], args := [d1, d2] }
  | _ => none }
def fnExactWornStrengthRow : OpenClaim := { program := "ytpjmdgaicfngjaa", sum := "f3bfd9d62bb717b81b1a0f376f906b3ffe148ffb288f8bae793fe1419fea06d7", func := "loop.example/g01044/laws.FnExactWornStrength", spec := "fnExactWornStrength", apart := false }
def FnExactWornStrengthSaid : Prop := fnExactWornStrengthRow.holds Try.pinned (OpenSpec.ofChange fnExactWornStrengthSpec)

/-- ITS FALSE NEIGHBOUR: 'it returns false'. Refute it at one input. -/
def fnExactWornStrengthWrong : ChangeSpec := { name := "fnExactWornStrength", fn := fun _ => fun
  | [d1, d2] => { results := [.lit (.bool false)], args := [d1, d2] }
  | _ => none }
def FnExactWornStrengthWrongFalsely : Prop := fnExactWornStrengthRow.holds Try.pinned (OpenSpec.ofChange fnExactWornStrengthWrong)

/-- 'laws.FnExactValidSprings': WHATEVER THE INPUT: true; the input reads as it did. -/
def fnExactValidSpringsSpec : ChangeSpec := { name := "fnExactValidSprings", fn := fun _ => fun
  | [d] => { results := [.lit (.bool true)], args := [d] }
  | _ => none }
def fnExactValidSpringsRow : OpenClaim := { program := "ytpjmdgaicfngjaa", sum := "f3bfd9d62bb717b81b1a0f376f906b3ffe148ffb288f8bae793fe1419fea06d7", func := "loop.example/g01044/laws.FnExactValidSprings", spec := "fnExactValidSprings", apart := false }
def FnExactValidSpringsSaid : Prop := fnExactValidSpringsRow.holds Try.pinned (OpenSpec.ofChange fnExactValidSpringsSpec)

/-- ITS FALSE NEIGHBOUR: 'it returns false'. Refute it at one input. -/
def fnExactValidSpringsWrong : ChangeSpec := { name := "fnExactValidSprings", fn := fun _ => fun
  | [d] => { results := [.lit (.bool false)], args := [d] }
  | _ => none }
def FnExactValidSpringsWrongFalsely : Prop := fnExactValidSpringsRow.holds Try.pinned (OpenSpec.ofChange fnExactValidSpringsWrong)

/-- 'laws.FnExactSameTackle': WHATEVER THE INPUT: true; the input reads as it did. -/
def fnExactSameTackleSpec : ChangeSpec := { name := "fnExactSameTackle", fn := fun _ => fun
  | [d1, d2] => { results := [.lit (.bool true)], args := [d1, d2] }
  | _ => none }
def fnExactSameTackleRow : OpenClaim := { program := "ytpjmdgaicfngjaa", sum := "f3bfd9d62bb717b81b1a0f376f906b3ffe148ffb288f8bae793fe1419fea06d7", func := "loop.example/g01044/laws.FnExactSameTackle", spec := "fnExactSameTackle", apart := false }
def FnExactSameTackleSaid : Prop := fnExactSameTackleRow.holds Try.pinned (OpenSpec.ofChange fnExactSameTackleSpec)

/-- ITS FALSE NEIGHBOUR: 'it returns false'. Refute it at one input. -/
def fnExactSameTackleWrong : ChangeSpec := { name := "fnExactSameTackle", fn := fun _ => fun
  | [d1, d2] => { results := [.lit (.bool false)], args := [d1, d2] }
  | _ => none }
def FnExactSameTackleWrongFalsely : Prop := fnExactSameTackleRow.holds Try.pinned (OpenSpec.ofChange fnExactSameTackleWrong)

/-- 'laws.FnExactPartsFor': WHATEVER THE INPUT: true; the input reads as it did. -/
def fnExactPartsForSpec : ChangeSpec := { name := "fnExactPartsFor", fn := fun _ => fun
  | [d1, d2, d3] => { results := [.lit (.bool true)], args := [d1, d2, d3] }
  | _ => none }
def fnExactPartsForRow : OpenClaim := { program := "ytpjmdgaicfngjaa", sum := "f3bfd9d62bb717b81b1a0f376f906b3ffe148ffb288f8bae793fe1419fea06d7", func := "loop.example/g01044/laws.FnExactPartsFor", spec := "fnExactPartsFor", apart := false }
def FnExactPartsForSaid : Prop := fnExactPartsForRow.holds Try.pinned (OpenSpec.ofChange fnExactPartsForSpec)

/-- ITS FALSE NEIGHBOUR: 'it returns false'. Refute it at one input. -/
def fnExactPartsForWrong : ChangeSpec := { name := "fnExactPartsFor", fn := fun _ => fun
  | [d1, d2, d3] => { results := [.lit (.bool false)], args := [d1, d2, d3] }
  | _ => none }
def FnExactPartsForWrongFalsely : Prop := fnExactPartsForRow.holds Try.pinned (OpenSpec.ofChange fnExactPartsForWrong)

/- THE SECOND FORM. 'bulk': how many values and letters a reading holds, each counted each time it is reached (what is shared counts as often as it is met; a slice's spare places count too). A statement '..UptoSaid' is the law's where the arguments, and the package variables that the reading takes, are together of bulk at most 1048576: NARROWER than '..Said'. Prove '..Said' where nothing that the law and all that it calls make is longer than what came in: it says more and counts as full. Else prove '..UptoSaid'. A law counts once. -/
mutual
def uptoBulk {H : Type} : DataW H → Nat
  | .lit (.string bytes) => bytes.length + 1
  | .lit _ => 1
  | .nil => 1
  | .ptr d => uptoBulk d + 1
  | .slice elems spare => uptoBulkAll elems + uptoBulkAll spare + 1
  | .agg parts => uptoBulkAll parts + 1
  | .iface _ d => uptoBulk d + 1
  | .map entries => uptoBulkEntries entries + 1
  | .held _ => 1
def uptoBulkAll {H : Type} : List (DataW H) → Nat
  | [] => 0
  | d :: r => uptoBulk d + uptoBulkAll r
def uptoBulkEntries {H : Type} : List (Lit × DataW H) → Nat
  | [] => 0
  | x :: r => uptoBulkEntry x + uptoBulkEntries r
def uptoBulkEntry {H : Type} : Lit × DataW H → Nat
  | (.string bytes, d) => bytes.length + uptoBulk d + 1
  | (_, d) => uptoBulk d + 1
 end
def uptoSmall : (H : Type) → List (DataW H) → Bool := fun _ ds => decide (uptoBulkAll ds ≤ 1048576)
def OpenSpec.upto (s : _root_.Go.ChangeSpec) : _root_.Go.OpenSpec := { _root_.Go.OpenSpec.ofChange s with cond := some uptoSmall }

/-- 'laws.FnExactConstants', WHERE WHAT IT READS IS OF BULK AT MOST 1048576: true; the input reads as it did. -/
def fnExactConstantsUptoRow : OpenClaim := { program := "ytpjmdgaicfngjaa", sum := "f3bfd9d62bb717b81b1a0f376f906b3ffe148ffb288f8bae793fe1419fea06d7", func := "loop.example/g01044/laws.FnExactConstants", spec := "fnExactConstants", apart := false, narrowed := true }
def FnExactConstantsUptoSaid : Prop := fnExactConstantsUptoRow.holds Try.pinned (OpenSpec.upto fnExactConstantsSpec)

/-- 'laws.FnExactCodeName', WHERE WHAT IT READS IS OF BULK AT MOST 1048576: true; the input reads as it did. -/
def fnExactCodeNameUptoRow : OpenClaim := { program := "ytpjmdgaicfngjaa", sum := "f3bfd9d62bb717b81b1a0f376f906b3ffe148ffb288f8bae793fe1419fea06d7", func := "loop.example/g01044/laws.FnExactCodeName", spec := "fnExactCodeName", apart := false, narrowed := true }
def FnExactCodeNameUptoSaid : Prop := fnExactCodeNameUptoRow.holds Try.pinned (OpenSpec.upto fnExactCodeNameSpec)

/-- 'laws.FnExactIsName', WHERE WHAT IT READS IS OF BULK AT MOST 1048576: true; the input reads as it did. -/
def fnExactIsNameUptoRow : OpenClaim := { program := "ytpjmdgaicfngjaa", sum := "f3bfd9d62bb717b81b1a0f376f906b3ffe148ffb288f8bae793fe1419fea06d7", func := "loop.example/g01044/laws.FnExactIsName", spec := "fnExactIsName", apart := false, narrowed := true }
def FnExactIsNameUptoSaid : Prop := fnExactIsNameUptoRow.holds Try.pinned (OpenSpec.upto fnExactIsNameSpec)

/-- 'laws.FnExactValidPurchase', WHERE WHAT IT READS IS OF BULK AT MOST 1048576: true; the input reads as it did. -/
def fnExactValidPurchaseUptoRow : OpenClaim := { program := "ytpjmdgaicfngjaa", sum := "f3bfd9d62bb717b81b1a0f376f906b3ffe148ffb288f8bae793fe1419fea06d7", func := "loop.example/g01044/laws.FnExactValidPurchase", spec := "fnExactValidPurchase", apart := false, narrowed := true }
def FnExactValidPurchaseUptoSaid : Prop := fnExactValidPurchaseUptoRow.holds Try.pinned (OpenSpec.upto fnExactValidPurchaseSpec)

/-- 'laws.FnExactEvenStiff', WHERE WHAT IT READS IS OF BULK AT MOST 1048576: true; the input reads as it did. -/
def fnExactEvenStiffUptoRow : OpenClaim := { program := "ytpjmdgaicfngjaa", sum := "f3bfd9d62bb717b81b1a0f376f906b3ffe148ffb288f8bae793fe1419fea06d7", func := "loop.example/g01044/laws.FnExactEvenStiff", spec := "fnExactEvenStiff", apart := false, narrowed := true }
def FnExactEvenStiffUptoSaid : Prop := fnExactEvenStiffUptoRow.holds Try.pinned (OpenSpec.upto fnExactEvenStiffSpec)

/-- 'laws.FnExactTurnPurchase', WHERE WHAT IT READS IS OF BULK AT MOST 1048576: true; the input reads as it did. -/
def fnExactTurnPurchaseUptoRow : OpenClaim := { program := "ytpjmdgaicfngjaa", sum := "f3bfd9d62bb717b81b1a0f376f906b3ffe148ffb288f8bae793fe1419fea06d7", func := "loop.example/g01044/laws.FnExactTurnPurchase", spec := "fnExactTurnPurchase", apart := false, narrowed := true }
def FnExactTurnPurchaseUptoSaid : Prop := fnExactTurnPurchaseUptoRow.holds Try.pinned (OpenSpec.upto fnExactTurnPurchaseSpec)

/-- 'laws.FnExactPurchaseName', WHERE WHAT IT READS IS OF BULK AT MOST 1048576: true; the input reads as it did. -/
def fnExactPurchaseNameUptoRow : OpenClaim := { program := "ytpjmdgaicfngjaa", sum := "f3bfd9d62bb717b81b1a0f376f906b3ffe148ffb288f8bae793fe1419fea06d7", func := "loop.example/g01044/laws.FnExactPurchaseName", spec := "fnExactPurchaseName", apart := false, narrowed := true }
def FnExactPurchaseNameUptoSaid : Prop := fnExactPurchaseNameUptoRow.holds Try.pinned (OpenSpec.upto fnExactPurchaseNameSpec)

/-- 'laws.FnSharedLoads', WHERE WHAT IT READS IS OF BULK AT MOST 1048576: true; the input reads as it did. -/
def fnSharedLoadsUptoRow : OpenClaim := { program := "ytpjmdgaicfngjaa", sum := "f3bfd9d62bb717b81b1a0f376f906b3ffe148ffb288f8bae793fe1419fea06d7", func := "loop.example/g01044/laws.FnSharedLoads", spec := "fnSharedLoads", unfollowed := true, recurses := true, apart := false, narrowed := true }
def FnSharedLoadsUptoSaid : Prop := fnSharedLoadsUptoRow.holds Try.pinned (OpenSpec.upto fnSharedLoadsSpec)

/-- 'laws.FnExactWornStrength', WHERE WHAT IT READS IS OF BULK AT MOST 1048576: true; the input reads as it did. -/
def fnExactWornStrengthUptoRow : OpenClaim := { program := "ytpjmdgaicfngjaa", sum := "f3bfd9d62bb717b81b1a0f376f906b3ffe148ffb288f8bae793fe1419fea06d7", func := "loop.example/g01044/laws.FnExactWornStrength", spec := "fnExactWornStrength", apart := false, narrowed := true }
def FnExactWornStrengthUptoSaid : Prop := fnExactWornStrengthUptoRow.holds Try.pinned (OpenSpec.upto fnExactWornStrengthSpec)

/-- 'laws.FnExactValidSprings', WHERE WHAT IT READS IS OF BULK AT MOST 1048576: true; the input reads as it did. -/
def fnExactValidSpringsUptoRow : OpenClaim := { program := "ytpjmdgaicfngjaa", sum := "f3bfd9d62bb717b81b1a0f376f906b3ffe148ffb288f8bae793fe1419fea06d7", func := "loop.example/g01044/laws.FnExactValidSprings", spec := "fnExactValidSprings", apart := false, narrowed := true }
def FnExactValidSpringsUptoSaid : Prop := fnExactValidSpringsUptoRow.holds Try.pinned (OpenSpec.upto fnExactValidSpringsSpec)

/-- 'laws.FnExactSameTackle', WHERE WHAT IT READS IS OF BULK AT MOST 1048576: true; the input reads as it did. -/
def fnExactSameTackleUptoRow : OpenClaim := { program := "ytpjmdgaicfngjaa", sum := "f3bfd9d62bb717b81b1a0f376f906b3ffe148ffb288f8bae793fe1419fea06d7", func := "loop.example/g01044/laws.FnExactSameTackle", spec := "fnExactSameTackle", apart := false, narrowed := true }
def FnExactSameTackleUptoSaid : Prop := fnExactSameTackleUptoRow.holds Try.pinned (OpenSpec.upto fnExactSameTackleSpec)

/-- 'laws.FnExactPartsFor', WHERE WHAT IT READS IS OF BULK AT MOST 1048576: true; the input reads as it did. -/
def fnExactPartsForUptoRow : OpenClaim := { program := "ytpjmdgaicfngjaa", sum := "f3bfd9d62bb717b81b1a0f376f906b3ffe148ffb288f8bae793fe1419fea06d7", func := "loop.example/g01044/laws.FnExactPartsFor", spec := "fnExactPartsFor", apart := false, narrowed := true }
def FnExactPartsForUptoSaid : Prop := fnExactPartsForUptoRow.holds Try.pinned (OpenSpec.upto fnExactPartsForSpec)

end Rows
end Go.Proofs.Ytpjmdgaicfngjaa
