/- Words of the printed walks: those that these laws use; chosen by a program of this session out of what the kit's print lays. No condition. -/
import Derived.Test.YtdgodlccejoibaaUWInv
import Derived.Test.YtdgodlccejoibaaUWFootNe
namespace Go.Proofs.YtdgodlccejoibaaW.PrintWords
open Go.RowKit
end Go.Proofs.YtdgodlccejoibaaW.PrintWords
namespace Go.Proofs.YtdgodlccejoibaaW.PrintLast
section
variable {ops : Array Oper} {a : Act} {o og : Oper} {g : Nat} {t : Tmp} {u : Bool}
end
end Go.Proofs.YtdgodlccejoibaaW.PrintLast
