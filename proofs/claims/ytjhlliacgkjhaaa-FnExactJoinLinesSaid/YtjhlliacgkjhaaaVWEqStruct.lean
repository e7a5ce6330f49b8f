/- Words of the printed walks: those that these laws use; chosen by a program of this session out of what the kit's print lays. No condition. -/
import Derived.Test.YtjhlliacgkjhaaaVWWords
import Derived.Laws.StructEq
namespace Go.Proofs.YtjhlliacgkjhaaaW.PrintWords
open Go.RowKit
section
variable {P : Program} {d : Nat} {xs ys : Array Value} {f : Field} {fs : List Field} {a b : Value} {r s : Bool} {w : World}
end
end Go.Proofs.YtjhlliacgkjhaaaW.PrintWords
