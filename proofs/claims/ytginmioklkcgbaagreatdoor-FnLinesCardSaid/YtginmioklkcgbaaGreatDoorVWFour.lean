/- Words of the printed walks: those that these laws use; chosen by a program of this session out of what the kit's print lays. No condition. -/
import Derived.Test.YtginmioklkcgbaaGreatDoorVWTab
namespace Go.Proofs.YtginmioklkcgbaaGreatDoorW.PrintLast
section
variable {P : Program} {ops : Array Oper} {Q : Exit → Act → World → Prop} {md : Region.Mode} {S : World → Prop} {ds : List Nat} {T : Bool × List (List Nat × List Nat)}
end
end Go.Proofs.YtginmioklkcgbaaGreatDoorW.PrintLast
