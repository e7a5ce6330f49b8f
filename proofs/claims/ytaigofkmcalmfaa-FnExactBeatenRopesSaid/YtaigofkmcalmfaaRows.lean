/-
  No cell of these rows narrows 'for every input' (looked for: loops, veiled, ifaces, maps, wideKeys, modest, calm, conditions, laid).
  DERIVED. THE GIVEN ROWS OF THIS SEAT. 9 by the template 'for every input the law returns true; each argument reads behind the call as it read before'; 0 by the template 'total and deterministic' (their statements: YtaigofkmcalmfaaTotals.lean).
  GIVEN WITH THE SEED: the statements are not yours to turn. If you find one false, say at which input.
  Laid BY PROGRAM, IN A SANDBOX (cutbox-rows.mjs): the forced cells as the released guide's own fill.sh prints them over the translation f4c4fbd1d5b8a86b… (all of the seat's roots in one cut). By AI agents, Wed Nov 11 2026. No macro, syntax, notation, axiom, sorry.
-/
import Derived.Test.YtaigofkmcalmfaaChecked
import GoSem.Claim
import GoSem.ClaimJoined
import GoSem.ClaimMapViews
import Derived.JoinedTies
import Derived.KernelRfl
namespace Go.Proofs.Ytaigofkmcalmfaa
/- THE CELL 'sum', in the pinned program and in every row, IS THE sha256 OF THE DUMP (.gsa) THAT YtaigofkmcalmfaaProg.lean LOADS. Nothing in Lean hashes anything: it is a label: what it is worth is what the hold of that sum in a sandbox is worth. -/
noncomputable def Try.pinned : Pinned := { name := "ytaigofkmcalmfaa", sum := "f4c4fbd1d5b8a86bfc884ac2b4dd734d74fabe554452f6485658b983f29f621d", checked := Try.checked }
namespace Rows
def none {H : Type} : Left H := { results := [], args := [] }

/-- 'laws.FnExactLengthForWeight': WHATEVER THE INPUT: true; the input reads as it did. -/
def fnExactLengthForWeightSpec : ChangeSpec := { name := "fnExactLengthForWeight", fn := fun _ => fun
  | [d1, d2] => { results := [.lit (.bool true)], args := [d1, d2] }
  | _ => none }
def fnExactLengthForWeightRow : OpenClaim := { program := "ytaigofkmcalmfaa", sum := "f4c4fbd1d5b8a86bfc884ac2b4dd734d74fabe554452f6485658b983f29f621d", func := "loop.example/g01044/laws.FnExactLengthForWeight", spec := "fnExactLengthForWeight", apart := false }
def FnExactLengthForWeightSaid : Prop := fnExactLengthForWeightRow.holds Try.pinned (OpenSpec.ofChange fnExactLengthForWeightSpec)

/-- ITS FALSE NEIGHBOUR: 'it returns false'. Refute it at one input. -/
def fnExactLengthForWeightWrong : ChangeSpec := { name := "fnExactLengthForWeight", fn := fun _ => fun
  | [d1, d2] => { results := [.lit (.bool false)], args := [d1, d2] }
  | _ => none }
def FnExactLengthForWeightWrongFalsely : Prop := fnExactLengthForWeightRow.holds Try.pinned (OpenSpec.ofChange fnExactLengthForWeightWrong)

/-- 'laws.FnExactSameRopes': WHATEVER THE INPUT: true; the input reads as it did. -/
def fnExactSameRopesSpec : ChangeSpec := { name := "fnExactSameRopes", fn := fun _ => fun
  | [d1, d2] => { results := [.lit (.bool true)], args := [d1, d2] }
  | _ => none }
def fnExactSameRopesRow : OpenClaim := { program := "ytaigofkmcalmfaa", sum := "f4c4fbd1d5b8a86bfc884ac2b4dd734d74fabe554452f6485658b983f29f621d", func := "loop.example/g01044/laws.FnExactSameRopes", spec := "fnExactSameRopes", apart := false }
def FnExactSameRopesSaid : Prop := fnExactSameRopesRow.holds Try.pinned (OpenSpec.ofChange fnExactSameRopesSpec)

/-- ITS FALSE NEIGHBOUR: 'it returns false'. Refute it at one input. -/
def fnExactSameRopesWrong : ChangeSpec := { name := "fnExactSameRopes", fn := fun _ => fun
  | [d1, d2] => { results := [.lit (.bool false)], args := [d1, d2] }
  | _ => none }
def FnExactSameRopesWrongFalsely : Prop := fnExactSameRopesRow.holds Try.pinned (OpenSpec.ofChange fnExactSameRopesWrong)

/-- 'laws.FnExactWeightOfLine': WHATEVER THE INPUT: true; the input reads as it did. -/
def fnExactWeightOfLineSpec : ChangeSpec := { name := "fnExactWeightOfLine", fn := fun _ => fun
  | [d1, d2] => { results := [.lit (.bool true)], args := [d1, d2] }
  | _ => none }
def fnExactWeightOfLineRow : OpenClaim := { program := "ytaigofkmcalmfaa", sum := "f4c4fbd1d5b8a86bfc884ac2b4dd734d74fabe554452f6485658b983f29f621d", func := "loop.example/g01044/laws.FnExactWeightOfLine", spec := "fnExactWeightOfLine", apart := false }
def FnExactWeightOfLineSaid : Prop := fnExactWeightOfLineRow.holds Try.pinned (OpenSpec.ofChange fnExactWeightOfLineSpec)

/-- ITS FALSE NEIGHBOUR: 'it returns false'. Refute it at one input. -/
def fnExactWeightOfLineWrong : ChangeSpec := { name := "fnExactWeightOfLine", fn := fun _ => fun
  | [d1, d2] => { results := [.lit (.bool false)], args := [d1, d2] }
  | _ => none }
def FnExactWeightOfLineWrongFalsely : Prop := fnExactWeightOfLineRow.holds Try.pinned (OpenSpec.ofChange fnExactWeightOfLineWrong)

/-- 'laws.FnExactValidRopes': WHATEVER THE INPUT: true; the input reads as it did. -/
def fnExactValidRopesSpec : ChangeSpec := { name := "fnExactValidRopes", fn := fun _ => fun
  | [d] => { results := [.lit (.bool true)], args := [d] }
  | _ => none }
def fnExactValidRopesRow : OpenClaim := { program := "ytaigofkmcalmfaa", sum := "f4c4fbd1d5b8a86bfc884ac2b4dd734d74fabe554452f6485658b983f29f621d", func := "loop.example/g01044/laws.FnExactValidRopes", spec := "fnExactValidRopes", apart := false }
def FnExactValidRopesSaid : Prop := fnExactValidRopesRow.holds Try.pinned (OpenSpec.ofChange fnExactValidRopesSpec)

/-- ITS FALSE NEIGHBOUR: 'it returns false'. Refute it at one input. -/
def fnExactValidRopesWrong : ChangeSpec := { name := "fnExactValidRopes", fn := fun _ => fun
  | [d] => { results := [.lit (.bool false)], args := [d] }
  | _ => none }
def FnExactValidRopesWrongFalsely : Prop := fnExactValidRopesRow.holds Try.pinned (OpenSpec.ofChange fnExactValidRopesWrong)

/-- 'laws.FnExactRopeNamed': WHATEVER THE INPUT: true; the input reads as it did. -/
def fnExactRopeNamedSpec : ChangeSpec := { name := "fnExactRopeNamed", fn := fun _ => fun
  | [d1, d2] => { results := [.lit (.bool true)], args := [d1, d2] }
  | _ => none }
def fnExactRopeNamedRow : OpenClaim := { program := "ytaigofkmcalmfaa", sum := "f4c4fbd1d5b8a86bfc884ac2b4dd734d74fabe554452f6485658b983f29f621d", func := "loop.example/g01044/laws.FnExactRopeNamed", spec := "fnExactRopeNamed", apart := false }
def FnExactRopeNamedSaid : Prop := fnExactRopeNamedRow.holds Try.pinned (OpenSpec.ofChange fnExactRopeNamedSpec)

/-- ITS FALSE NEIGHBOUR: 'it returns false'. Refute it at one input. -/
def fnExactRopeNamedWrong : ChangeSpec := { name := "fnExactRopeNamed", fn := fun _ => fun
  | [d1, d2] => { results := [.lit (.bool false)], args := [d1, d2] }
  | _ => none }
def FnExactRopeNamedWrongFalsely : Prop := fnExactRopeNamedRow.holds Try.pinned (OpenSpec.ofChange fnExactRopeNamedWrong)

/-- 'laws.FnExactRopeFor': WHATEVER THE INPUT: true; the input reads as it did. -/
def fnExactRopeForSpec : ChangeSpec := { name := "fnExactRopeFor", fn := fun _ => fun
  | [d1, d2, d3] => { results := [.lit (.bool true)], args := [d1, d2, d3] }
  | _ => none }
def fnExactRopeForRow : OpenClaim := { program := "ytaigofkmcalmfaa", sum := "f4c4fbd1d5b8a86bfc884ac2b4dd734d74fabe554452f6485658b983f29f621d", func := "loop.example/g01044/laws.FnExactRopeFor", spec := "fnExactRopeFor", apart := false }
def FnExactRopeForSaid : Prop := fnExactRopeForRow.holds Try.pinned (OpenSpec.ofChange fnExactRopeForSpec)

/-- ITS FALSE NEIGHBOUR: 'it returns false'. Refute it at one input. -/
def fnExactRopeForWrong : ChangeSpec := { name := "fnExactRopeFor", fn := fun _ => fun
  | [d1, d2, d3] => { results := [.lit (.bool false)], args := [d1, d2, d3] }
  | _ => none }
def FnExactRopeForWrongFalsely : Prop := fnExactRopeForRow.holds Try.pinned (OpenSpec.ofChange fnExactRopeForWrong)

/-- 'laws.FnExactAddRope': WHATEVER THE INPUT: true; the input reads as it did. -/
def fnExactAddRopeSpec : ChangeSpec := { name := "fnExactAddRope", fn := fun _ => fun
  | [d1, d2] => { results := [.lit (.bool true)], args := [d1, d2] }
  | _ => none }
def fnExactAddRopeRow : OpenClaim := { program := "ytaigofkmcalmfaa", sum := "f4c4fbd1d5b8a86bfc884ac2b4dd734d74fabe554452f6485658b983f29f621d", func := "loop.example/g01044/laws.FnExactAddRope", spec := "fnExactAddRope", apart := false }
def FnExactAddRopeSaid : Prop := fnExactAddRopeRow.holds Try.pinned (OpenSpec.ofChange fnExactAddRopeSpec)

/-- ITS FALSE NEIGHBOUR: 'it returns false'. Refute it at one input. -/
def fnExactAddRopeWrong : ChangeSpec := { name := "fnExactAddRope", fn := fun _ => fun
  | [d1, d2] => { results := [.lit (.bool false)], args := [d1, d2] }
  | _ => none }
def FnExactAddRopeWrongFalsely : Prop := fnExactAddRopeRow.holds Try.pinned (OpenSpec.ofChange fnExactAddRopeWrong)

/-- 'laws.FnExactBeatenRopes': WHATEVER THE INPUT: true; the input reads as it did. -/
def fnExactBeatenRopesSpec : ChangeSpec := { name := "fnExactBeatenRopes", fn := fun _ => fun
  | [d] => { results := [.lit (.bool true)], args := [d] }
  | _ => none }
def fnExactBeatenRopesRow : OpenClaim := { program := "ytaigofkmcalmfaa", sum := "f4c4fbd1d5b8a86bfc884ac2b4dd734d74fabe554452f6485658b983f29f621d", func := "loop.example/g01044/laws.FnExactBeatenRopes", spec := "fnExactBeatenRopes", apart := false }
def FnExactBeatenRopesSaid : Prop := fnExactBeatenRopesRow.holds Try.pinned (OpenSpec.ofChange fnExactBeatenRopesSpec)

/-- ITS FALSE NEIGHBOUR: 'it returns false'. Refute it at one input. -/
def fnExactBeatenRopesWrong : ChangeSpec := { name := "fnExactBeatenRopes", fn := fun _ => fun
  | [d] => { results := [.lit (.bool false)], args := [d] }
  | _ => none }
def FnExactBeatenRopesWrongFalsely : Prop := fnExactBeatenRopesRow.holds Try.pinned (OpenSpec.ofChange fnExactBeatenRopesWrong)

/-- 'laws.FnRopeLists': WHATEVER THE INPUT: true; the input reads as it did. -/
def fnRopeListsSpec : ChangeSpec := { name := "fnRopeLists", fn := fun _ => fun
  | [d1, d2] => { results := [.lit (.bool true)], args := [d1, d2] }
  | _ => none }
def fnRopeListsRow : OpenClaim := { program := "ytaigofkmcalmfaa", sum := "f4c4fbd1d5b8a86bfc884ac2b4dd734d74fabe554452f6485658b983f29f621d", func := "loop.example/g01044/laws.FnRopeLists", spec := "fnRopeLists", apart := false }
def FnRopeListsSaid : Prop := fnRopeListsRow.holds Try.pinned (OpenSpec.ofChange fnRopeListsSpec)

/-- ITS FALSE NEIGHBOUR: 'it returns false'. Refute it at one input. -/
def fnRopeListsWrong : ChangeSpec := { name := "fnRopeLists", fn := fun _ => fun
  | [d1, d2] => { results := [.lit (.bool false)], args := [d1, d2] }
  | _ => none }
def FnRopeListsWrongFalsely : Prop := fnRopeListsRow.holds Try.pinned (OpenSpec.ofChange fnRopeListsWrong)

/- THE SECOND FORM. 'bulk': how many values and letters a reading holds, each counted each time it is reached (what is shared counts as often as it is met; a slice's spare places count too). A statement '..UptoSaid' is the law's where the arguments, and the package variables that the reading takes, are together of bulk at most 1048576: NARROWER than '..Said'. Prove '..Said' where nothing that the law and all that it calls make is longer than what came in: it says more and counts as full. Else prove '..UptoSaid'. A law counts once. -/
mutual
def uptoBulk {H : Type} : DataW H → Nat
  | .lit (.string bytes) => bytes.length + 1
  | .lit _ => 1
  | .nil => 1
  | .ptr d => uptoBulk d + 1
  | .slice elems spare => uptoBulkAll elems + uptoBulkAll spare + 1
  | .agg parts => uptoBulkAll parts + 1
  | .iface _ d => uptoBulk d + 1
  | .map entries => uptoBulkEntries entries + 1
  | .held _ => 1
def uptoBulkAll {H : Type} : List (DataW H) → Nat
  | [] => 0
  | d :: r => uptoBulk d + uptoBulkAll r
def uptoBulkEntries {H : Type} : List (Lit × DataW H) → Nat
  | [] => 0
  | x :: r => uptoBulkEntry x + uptoBulkEntries r
def uptoBulkEntry {H : Type} : Lit × DataW H → Nat
  | (.string bytes, d) => bytes.length + uptoBulk d + 1
  | (_, d) => uptoBulk d + 1
 end
def uptoSmall : (H : Type) → List (DataW H) → Bool := fun _ ds => decide (uptoBulkAll ds ≤ 1048576)
def OpenSpec.upto (s : _root_.Go.ChangeSpec) : _root_.Go.OpenSpec := { _root_.Go.OpenSpec.ofChange s with cond := some uptoSmall }

/-- 'laws.FnExactLengthForWeight', WHERE WHAT IT READS IS OF BULK AT MOST 1048576: true; the input reads as it did. -/
def fnExactLengthForWeightUptoRow : OpenClaim := { program := "ytaigofkmcalmfaa", sum := "f4c4fbd1d5b8a86bfc884ac2b4dd734d74fabe554452f6485658b983f29f621d", func := "loop.example/g01044/laws.FnExactLengthForWeight", spec := "fnExactLengthForWeight", apart := false, narrowed := true }
def FnExactLengthForWeightUptoSaid : Prop := fnExactLengthForWeightUptoRow.holds Try.pinned (OpenSpec.upto fnExactLengthForWeightSpec)

/-- 'laws.FnExactSameRopes', WHERE WHAT IT READS IS OF BULK AT MOST 1048576: true; the input reads as it did. -/
def fnExactSameRopesUptoRow : OpenClaim := { program := "ytaigofkmcalmfaa", sum := "f4c4fbd1d5b8a86bfc884ac2b4dd734d74fabe554452f6485658b983f29f621d", func := "loop.example/g01044/laws.FnExactSameRopes", spec := "fnExactSameRopes", apart := false, narrowed := true }
def FnExactSameRopesUptoSaid : Prop := fnExactSameRopesUptoRow.holds Try.pinned (OpenSpec.upto fnExactSameRopesSpec)

/-- 'laws.FnExactWeightOfLine', WHERE WHAT IT READS IS OF BULK AT MOST 1048576: true; the input reads as it did. -/
def fnExactWeightOfLineUptoRow : OpenClaim := { program := "ytaigofkmcalmfaa", sum := "f4c4fbd1d5b8a86bfc884ac2b4dd734d74fabe554452f6485658b983f29f621d", func := "loop.example/g01044/laws.FnExactWeightOfLine", spec := "fnExactWeightOfLine", apart := false, narrowed := true }
def FnExactWeightOfLineUptoSaid : Prop := fnExactWeightOfLineUptoRow.holds Try.pinned (OpenSpec.upto fnExactWeightOfLineSpec)

/-- 'laws.FnExactValidRopes', WHERE WHAT IT READS IS OF BULK AT MOST 1048576: true; the input reads as it did. -/
def fnExactValidRopesUptoRow : OpenClaim := { program := "ytaigofkmcalmfaa", sum := "f4c4fbd1d5b8a86bfc884ac2b4dd734d74fabe554452f6485658b983f29f621d", func := "loop.example/g01044/laws.FnExactValidRopes", spec := "fnExactValidRopes", apart := false, narrowed := true }
def FnExactValidRopesUptoSaid : Prop := fnExactValidRopesUptoRow.holds Try.pinned (OpenSpec.upto fnExactValidRopesSpec)

/-- 'laws.FnExactRopeNamed', WHERE WHAT IT READS IS OF BULK AT MOST 1048576: true; the input reads as it did. -/
def fnExactRopeNamedUptoRow : OpenClaim := { program := "ytaigofkmcalmfaa", sum := "f4c4fbd1d5b8a86bfc884ac2b4dd734d74fabe554452f6485658b983f29f621d", func := "loop.example/g01044/laws.FnExactRopeNamed", spec := "fnExactRopeNamed", apart := false, narrowed := true }
def FnExactRopeNamedUptoSaid : Prop := fnExactRopeNamedUptoRow.holds Try.pinned (OpenSpec.upto fnExactRopeNamedSpec)

/-- 'laws.FnExactRopeFor', WHERE WHAT IT READS IS OF BULK AT MOST 1048576: true; the input reads as it did. -/
def fnExactRopeForUptoRow : OpenClaim := { program := "ytaigofkmcalmfaa", sum := "f4c4fbd1d5b8a86bfc884ac2b4dd734d74fabe554452f6485658b983f29f621d", func := "loop.example/g01044/laws.FnExactRopeFor", spec := "fnExactRopeFor", apart := false, narrowed := true }
def FnExactRopeForUptoSaid : Prop := fnExactRopeForUptoRow.holds Try.pinned (OpenSpec.upto fnExactRopeForSpec)

/-- 'laws.FnExactAddRope', WHERE WHAT IT READS IS OF BULK AT MOST 1048576: true; the input reads as it did. -/
def fnExactAddRopeUptoRow : OpenClaim := { program := "ytaigofkmcalmfaa", sum := "f4c4fbd1d5b8a86bfc884ac2b4dd734d74fabe554452f6485658b983f29f621d", func := "loop.example/g01044/laws.FnExactAddRope", spec := "fnExactAddRope", apart := false, narrowed := true }
def FnExactAddRopeUptoSaid : Prop := fnExactAddRopeUptoRow.holds Try.pinned (OpenSpec.upto fnExactAddRopeSpec)

/-- 'laws.FnExactBeatenRopes', WHERE WHAT IT READS IS OF BULK AT MOST 1048576: true; the input reads as it did. -/
def fnExactBeatenRopesUptoRow : OpenClaim := { program := "ytaigofkmcalmfaa", sum := "f4c4fbd1d5b8a86bfc884ac2b4dd734d74fabe554452f6485658b983f29f621d", func := "loop.example/g01044/laws.FnExactBeatenRopes", spec := "fnExactBeatenRopes", apart := false, narrowed := true }
def FnExactBeatenRopesUptoSaid : Prop := fnExactBeatenRopesUptoRow.holds Try.pinned (OpenSpec.upto fnExactBeatenRopesSpec)

/-- 'laws.FnRopeLists', WHERE WHAT IT READS IS OF BULK AT MOST 1048576: true; the input reads as it did. -/
def fnRopeListsUptoRow : OpenClaim := { program := "ytaigofkmcalmfaa", sum := "f4c4fbd1d5b8a86bfc884ac2b4dd734d74fabe554452f6485658b983f29f621d", func := "loop.example/g01044/laws.FnRopeLists", spec := "fnRopeLists", apart := false, narrowed := true }
def FnRopeListsUptoSaid : Prop := fnRopeListsUptoRow.holds Try.pinned (OpenSpec.upto fnRopeListsSpec)

end Rows
end Go.Proofs.Ytaigofkmcalmfaa
