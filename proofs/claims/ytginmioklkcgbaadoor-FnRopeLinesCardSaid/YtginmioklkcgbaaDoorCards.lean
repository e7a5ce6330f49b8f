/-
  DERIVED. GIVEN WITH THE SEED: THE CARDS: each row of YtginmioklkcgbaaDoorRows.lean that lists a variable, with what it lists TIED to the program's text (the seventh form; the later family's looks); each row that meets fmt, with fmt's text TOLD by the authors' own Lean function (tested against real Go, not proved from fmt's source: count such statements apart). THE CARD IS WHAT COUNTS. Prove the row's statement (the work); the ties are given (YtginmioklkcgbaaDoorTie.lean); close each card by the builder's one call (the guide's Derived/Test/ToyasCard.lean, 'card_holds'). Laid BY PROGRAM, IN A SANDBOX (cutbox-door.mjs). By AI agents, Wed Nov 11 2026. No macro, syntax, notation, axiom, sorry.
-/
import Derived.Test.YtginmioklkcgbaaDoorRows
import GoSem.ClaimSeven
namespace Go.Proofs.YtginmioklkcgbaaDoor
namespace Rows

/-- THE TIED CARD OF 'laws.FnExactJoinText'. -/
def fnExactJoinTextCard : Claim7 := { stood := { row := fnExactJoinTextRow, standIns := [], harness := (true, "5bcca8d10713b074ac27460d4f29d4cbf16e74ce1b9c288191165fd4de7124d3"), looks := false }, kinds := [], alts := [], laidByText := true, laidKinds := [.data, .data, .data], laidTests := true, laidLooks := .later }
def FnExactJoinTextCardSaid : Prop := Claim7.holds Tryd.pinned (.plain (OpenSpec.ofChange fnExactJoinTextSpec)) fnExactJoinTextCard

/-- THE TIED CARD OF 'laws.FnExactReadJoin'. -/
def fnExactReadJoinCard : Claim7 := { stood := { row := fnExactReadJoinRow, standIns := [], harness := (true, "5bcca8d10713b074ac27460d4f29d4cbf16e74ce1b9c288191165fd4de7124d3"), looks := false }, kinds := [], alts := [], laidByText := true, laidKinds := [.data, .data, .data, .data, .pinned], laidTests := true, laidLooks := .later }
def FnExactReadJoinCardSaid : Prop := Claim7.holds Tryd.pinned (.plain (OpenSpec.ofChange fnExactReadJoinSpec)) fnExactReadJoinCard

/-- THE TIED CARD OF 'laws.FnExactDecimal'. -/
def fnExactDecimalCard : Claim7 := { stood := { row := fnExactDecimalRow, standIns := [], harness := (true, "5bcca8d10713b074ac27460d4f29d4cbf16e74ce1b9c288191165fd4de7124d3"), looks := false }, kinds := [], alts := [], laidByText := true, laidKinds := [.data, .data, .data], laidTests := true, laidLooks := .later }
def FnExactDecimalCardSaid : Prop := Claim7.holds Tryd.pinned (.plain (OpenSpec.ofChange fnExactDecimalSpec)) fnExactDecimalCard

/-- THE TIED CARD OF 'laws.FnExactReadDecimal'. -/
def fnExactReadDecimalCard : Claim7 := { stood := { row := fnExactReadDecimalRow, standIns := [], harness := (true, "5bcca8d10713b074ac27460d4f29d4cbf16e74ce1b9c288191165fd4de7124d3"), looks := false }, kinds := [], alts := [], laidByText := true, laidKinds := [.data, .data, .data], laidTests := true, laidLooks := .later }
def FnExactReadDecimalCardSaid : Prop := Claim7.holds Tryd.pinned (.plain (OpenSpec.ofChange fnExactReadDecimalSpec)) fnExactReadDecimalCard

/-- THE TIED CARD OF 'laws.FnExactSplitWords'. -/
def fnExactSplitWordsCard : Claim7 := { stood := { row := fnExactSplitWordsRow, standIns := [], harness := (true, "5bcca8d10713b074ac27460d4f29d4cbf16e74ce1b9c288191165fd4de7124d3"), looks := false }, kinds := [], alts := [], laidByText := true, laidKinds := [.data, .pinned], laidTests := true, laidLooks := .later }
def FnExactSplitWordsCardSaid : Prop := Claim7.holds Tryd.pinned (.plain (OpenSpec.ofChange fnExactSplitWordsSpec)) fnExactSplitWordsCard

/-- THE TIED CARD OF 'laws.FnExactRopeText'. -/
def fnExactRopeTextCard : Claim7 := { stood := { row := fnExactRopeTextRow, standIns := [], harness := (true, "5bcca8d10713b074ac27460d4f29d4cbf16e74ce1b9c288191165fd4de7124d3"), looks := false }, kinds := [], alts := [], laidByText := true, laidKinds := [.data, .data, .data], laidTests := true, laidLooks := .later }
def FnExactRopeTextCardSaid : Prop := Claim7.holds Tryd.pinned (.plain (OpenSpec.ofChange fnExactRopeTextSpec)) fnExactRopeTextCard

/-- THE TIED CARD OF 'laws.FnExactReadRope'. -/
def fnExactReadRopeCard : Claim7 := { stood := { row := fnExactReadRopeRow, standIns := [], harness := (true, "5bcca8d10713b074ac27460d4f29d4cbf16e74ce1b9c288191165fd4de7124d3"), looks := false }, kinds := [], alts := [], laidByText := true, laidKinds := [.data, .data, .data, .data, .pinned], laidTests := true, laidLooks := .later }
def FnExactReadRopeCardSaid : Prop := Claim7.holds Tryd.pinned (.plain (OpenSpec.ofChange fnExactReadRopeSpec)) fnExactReadRopeCard

/-- THE TIED CARD OF 'laws.FnRopeLines'. -/
def fnRopeLinesCard : Claim7 := { stood := { row := fnRopeLinesRow, standIns := [], harness := (true, "5bcca8d10713b074ac27460d4f29d4cbf16e74ce1b9c288191165fd4de7124d3"), looks := false }, kinds := [], alts := [], laidByText := true, laidKinds := [.data, .data, .data, .data, .pinned], laidTests := true, laidLooks := .later }
def FnRopeLinesCardSaid : Prop := Claim7.holds Tryd.pinned (.plain (OpenSpec.ofChange fnRopeLinesSpec)) fnRopeLinesCard

/-- THE TIED CARD OF 'laws.FnDecimals'. -/
def fnDecimalsCard : Claim7 := { stood := { row := fnDecimalsRow, standIns := [], harness := (true, "5bcca8d10713b074ac27460d4f29d4cbf16e74ce1b9c288191165fd4de7124d3"), looks := false }, kinds := [], alts := [], laidByText := true, laidKinds := [.data, .data, .data, .data, .pinned], laidTests := true, laidLooks := .later }
def FnDecimalsCardSaid : Prop := Claim7.holds Tryd.pinned (.plain (OpenSpec.ofChange fnDecimalsSpec)) fnDecimalsCard

/-- THE SECOND FORM's CARD OF 'laws.FnExactJoinText'. -/
def fnExactJoinTextUptoCard : Claim7 := { stood := { row := fnExactJoinTextUptoRow, standIns := [], harness := (true, "5bcca8d10713b074ac27460d4f29d4cbf16e74ce1b9c288191165fd4de7124d3"), looks := false }, kinds := [], alts := [], laidByText := true, laidKinds := [.data, .data, .data], laidTests := true, laidLooks := .later }
def FnExactJoinTextUptoCardSaid : Prop := Claim7.holds Tryd.pinned (.plain (OpenSpec.upto fnExactJoinTextSpec)) fnExactJoinTextUptoCard

/-- THE SECOND FORM's CARD OF 'laws.FnExactReadJoin'. -/
def fnExactReadJoinUptoCard : Claim7 := { stood := { row := fnExactReadJoinUptoRow, standIns := [], harness := (true, "5bcca8d10713b074ac27460d4f29d4cbf16e74ce1b9c288191165fd4de7124d3"), looks := false }, kinds := [], alts := [], laidByText := true, laidKinds := [.data, .data, .data, .data, .pinned], laidTests := true, laidLooks := .later }
def FnExactReadJoinUptoCardSaid : Prop := Claim7.holds Tryd.pinned (.plain (OpenSpec.upto fnExactReadJoinSpec)) fnExactReadJoinUptoCard

/-- THE SECOND FORM's CARD OF 'laws.FnExactDecimal'. -/
def fnExactDecimalUptoCard : Claim7 := { stood := { row := fnExactDecimalUptoRow, standIns := [], harness := (true, "5bcca8d10713b074ac27460d4f29d4cbf16e74ce1b9c288191165fd4de7124d3"), looks := false }, kinds := [], alts := [], laidByText := true, laidKinds := [.data, .data, .data], laidTests := true, laidLooks := .later }
def FnExactDecimalUptoCardSaid : Prop := Claim7.holds Tryd.pinned (.plain (OpenSpec.upto fnExactDecimalSpec)) fnExactDecimalUptoCard

/-- THE SECOND FORM's CARD OF 'laws.FnExactReadDecimal'. -/
def fnExactReadDecimalUptoCard : Claim7 := { stood := { row := fnExactReadDecimalUptoRow, standIns := [], harness := (true, "5bcca8d10713b074ac27460d4f29d4cbf16e74ce1b9c288191165fd4de7124d3"), looks := false }, kinds := [], alts := [], laidByText := true, laidKinds := [.data, .data, .data], laidTests := true, laidLooks := .later }
def FnExactReadDecimalUptoCardSaid : Prop := Claim7.holds Tryd.pinned (.plain (OpenSpec.upto fnExactReadDecimalSpec)) fnExactReadDecimalUptoCard

/-- THE SECOND FORM's CARD OF 'laws.FnExactSplitWords'. -/
def fnExactSplitWordsUptoCard : Claim7 := { stood := { row := fnExactSplitWordsUptoRow, standIns := [], harness := (true, "5bcca8d10713b074ac27460d4f29d4cbf16e74ce1b9c288191165fd4de7124d3"), looks := false }, kinds := [], alts := [], laidByText := true, laidKinds := [.data, .pinned], laidTests := true, laidLooks := .later }
def FnExactSplitWordsUptoCardSaid : Prop := Claim7.holds Tryd.pinned (.plain (OpenSpec.upto fnExactSplitWordsSpec)) fnExactSplitWordsUptoCard

/-- THE SECOND FORM's CARD OF 'laws.FnExactRopeText'. -/
def fnExactRopeTextUptoCard : Claim7 := { stood := { row := fnExactRopeTextUptoRow, standIns := [], harness := (true, "5bcca8d10713b074ac27460d4f29d4cbf16e74ce1b9c288191165fd4de7124d3"), looks := false }, kinds := [], alts := [], laidByText := true, laidKinds := [.data, .data, .data], laidTests := true, laidLooks := .later }
def FnExactRopeTextUptoCardSaid : Prop := Claim7.holds Tryd.pinned (.plain (OpenSpec.upto fnExactRopeTextSpec)) fnExactRopeTextUptoCard

/-- THE SECOND FORM's CARD OF 'laws.FnExactReadRope'. -/
def fnExactReadRopeUptoCard : Claim7 := { stood := { row := fnExactReadRopeUptoRow, standIns := [], harness := (true, "5bcca8d10713b074ac27460d4f29d4cbf16e74ce1b9c288191165fd4de7124d3"), looks := false }, kinds := [], alts := [], laidByText := true, laidKinds := [.data, .data, .data, .data, .pinned], laidTests := true, laidLooks := .later }
def FnExactReadRopeUptoCardSaid : Prop := Claim7.holds Tryd.pinned (.plain (OpenSpec.upto fnExactReadRopeSpec)) fnExactReadRopeUptoCard

/-- THE SECOND FORM's CARD OF 'laws.FnRopeLines'. -/
def fnRopeLinesUptoCard : Claim7 := { stood := { row := fnRopeLinesUptoRow, standIns := [], harness := (true, "5bcca8d10713b074ac27460d4f29d4cbf16e74ce1b9c288191165fd4de7124d3"), looks := false }, kinds := [], alts := [], laidByText := true, laidKinds := [.data, .data, .data, .data, .pinned], laidTests := true, laidLooks := .later }
def FnRopeLinesUptoCardSaid : Prop := Claim7.holds Tryd.pinned (.plain (OpenSpec.upto fnRopeLinesSpec)) fnRopeLinesUptoCard

/-- THE SECOND FORM's CARD OF 'laws.FnDecimals'. -/
def fnDecimalsUptoCard : Claim7 := { stood := { row := fnDecimalsUptoRow, standIns := [], harness := (true, "5bcca8d10713b074ac27460d4f29d4cbf16e74ce1b9c288191165fd4de7124d3"), looks := false }, kinds := [], alts := [], laidByText := true, laidKinds := [.data, .data, .data, .data, .pinned], laidTests := true, laidLooks := .later }
def FnDecimalsUptoCardSaid : Prop := Claim7.holds Tryd.pinned (.plain (OpenSpec.upto fnDecimalsSpec)) fnDecimalsUptoCard
end Rows
end Go.Proofs.YtginmioklkcgbaaDoor
