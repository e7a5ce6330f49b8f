/- Words of the printed walks: those that these laws use; chosen by a program of this session out of what the kit's print lays. No condition. -/
import Derived.Test.YtmokjfncblnfcaaVWInv
import Derived.Test.YtmokjfncblnfcaaVWFootNe
namespace Go.Proofs.YtmokjfncblnfcaaW.PrintWords
open Go.RowKit
end Go.Proofs.YtmokjfncblnfcaaW.PrintWords
namespace Go.Proofs.YtmokjfncblnfcaaW.PrintLast
section
variable {ops : Array Oper} {a : Act} {o og : Oper} {g : Nat} {t : Tmp} {u : Bool}
end
end Go.Proofs.YtmokjfncblnfcaaW.PrintLast
