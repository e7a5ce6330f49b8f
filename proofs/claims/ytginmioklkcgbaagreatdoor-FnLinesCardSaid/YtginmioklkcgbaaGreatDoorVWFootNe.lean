/- Words of the printed walks: those that these laws use; chosen by a program of this session out of what the kit's print lays. No condition. -/
import Derived.Test.YtginmioklkcgbaaGreatDoorVWN
namespace Go.Proofs.YtginmioklkcgbaaGreatDoorW.PrintWords
open Go.RowKit
namespace Kd
section
variable {α : Type} {d : Kd α} {W : World} {g n : Nat} {S ok : Nat → Prop} {A : Option Addr} {ad : Addr} {xs : List α}
end
end Kd
end Go.Proofs.YtginmioklkcgbaaGreatDoorW.PrintWords
