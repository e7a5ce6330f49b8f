/- Words of the printed walks: those that these laws use; chosen by a program of this session out of what the kit's print lays. No condition. -/
import Derived.Test.YtginmioklkcgbaaGreatDoorVWInv
import Derived.Test.YtginmioklkcgbaaGreatDoorVWFootNe
namespace Go.Proofs.YtginmioklkcgbaaGreatDoorW.PrintWords
open Go.RowKit
end Go.Proofs.YtginmioklkcgbaaGreatDoorW.PrintWords
namespace Go.Proofs.YtginmioklkcgbaaGreatDoorW.PrintLast
section
variable {ops : Array Oper} {a : Act} {o og : Oper} {g : Nat} {t : Tmp} {u : Bool}
end
end Go.Proofs.YtginmioklkcgbaaGreatDoorW.PrintLast
