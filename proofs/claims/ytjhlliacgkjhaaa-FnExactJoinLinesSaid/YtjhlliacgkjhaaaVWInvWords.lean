/- Words of the printed walks: those that these laws use; chosen by a program of this session out of what the kit's print lays. No condition. -/
import Derived.Test.YtjhlliacgkjhaaaVWInv
import Derived.Test.YtjhlliacgkjhaaaVWFootNe
namespace Go.Proofs.YtjhlliacgkjhaaaW.PrintWords
open Go.RowKit
end Go.Proofs.YtjhlliacgkjhaaaW.PrintWords
namespace Go.Proofs.YtjhlliacgkjhaaaW.PrintLast
section
variable {ops : Array Oper} {a : Act} {o og : Oper} {g : Nat} {t : Tmp} {u : Bool}
end
end Go.Proofs.YtjhlliacgkjhaaaW.PrintLast
