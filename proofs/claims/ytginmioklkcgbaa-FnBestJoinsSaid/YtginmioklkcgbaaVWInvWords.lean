/- Words of the printed walks: those that these laws use; chosen by a program of this session out of what the kit's print lays. No condition. -/
import Derived.Test.YtginmioklkcgbaaVWInv
import Derived.Test.YtginmioklkcgbaaVWFootNe
namespace Go.Proofs.YtginmioklkcgbaaW.PrintWords
open Go.RowKit
end Go.Proofs.YtginmioklkcgbaaW.PrintWords
namespace Go.Proofs.YtginmioklkcgbaaW.PrintLast
section
variable {ops : Array Oper} {a : Act} {o og : Oper} {g : Nat} {t : Tmp} {u : Bool}
end
end Go.Proofs.YtginmioklkcgbaaW.PrintLast
