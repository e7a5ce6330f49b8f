/- What the Go functions of this law compute, each as a Lean function, and that each call comes to that answer; written by a program of this session. No condition. -/
import Derived.Test.YtginmioklkcgbaaDoorProg
import Derived.Below
import Derived.Deep.Draws
import Derived.Deep.AppendLies
import Derived.Maps.AppendAt
import Derived.OwnWalk
import Derived.Laws.BytesArg
import Derived.Laws.MakeOwn
import Derived.Laws.OwnMore
import Derived.Deep.OwnRows
import Derived.Tactics
import Derived.Lib.ConvBytes
import Derived.Laws.Slices
import Derived.WalkKit
import Derived.KernelRfl
import Derived.RowKit3
import Derived.Deep.LoopGhost
import Derived.Deep.QuietTactic
import Derived.BigQuiet
import Derived.WideLaws
import Derived.Deep.DeepCutAuto
import Derived.Deep.CutBlock
import Derived.Deep.RegionHeld3
import Derived.Laws.Rows
import Derived.Lib.AppendStr
import Derived.ArgAppend
import Derived.Laws.IdiomCopy
import Derived.OrdersHeld
import Derived.Laws.BitsLemmas
import Derived.RowKit
import Derived.Test.YtginmioklkcgbaaDoorExt
import Derived.Test.YtginmioklkcgbaaDoorGnd
import Derived.Test.YtginmioklkcgbaaDoorWWords
import Derived.Test.YtginmioklkcgbaaDoorWLast
import Derived.Test.YtginmioklkcgbaaDoorWTab
import Derived.Test.YtginmioklkcgbaaDoorWFour
import Derived.Test.YtginmioklkcgbaaDoorWQPut
import Derived.Test.YtginmioklkcgbaaDoorWApart
import Derived.Test.YtginmioklkcgbaaDoorWArr
import Derived.Test.YtginmioklkcgbaaDoorWZeros
import Derived.Test.YtginmioklkcgbaaDoorWFoot
import Derived.Test.YtginmioklkcgbaaDoorWKept
import Derived.Test.YtginmioklkcgbaaDoorWShare
import Derived.Test.YtginmioklkcgbaaDoorWN
import Derived.Test.YtginmioklkcgbaaDoorWFootNe
import Derived.Test.YtginmioklkcgbaaDoorWAt
import Derived.Test.YtginmioklkcgbaaDoorWEqStruct
import Derived.Test.YtginmioklkcgbaaDoorWRepsOne
import Derived.Test.YtginmioklkcgbaaDoorWInv
import Derived.Test.YtginmioklkcgbaaDoorWInvWords
import Derived.Test.YtginmioklkcgbaaDoorWGuard
import Derived.Test.YtginmioklkcgbaaDoorWNEv
import Derived.Test.YtginmioklkcgbaaDoorWMore
namespace Go.Proofs.YtginmioklkcgbaaDoor.QFnExactReadDecimal
open Go.RowKit Go.Proofs.YtginmioklkcgbaaDoorW.PrintWords Go.Proofs.YtginmioklkcgbaaDoorW.PrintLast Go.Proofs.YtginmioklkcgbaaDoorW.PrintMore
attribute [local go_sem] max2_int min2_int max_two min_two max_three min_three max_four min_four   -- for this text's walks alone
set_option linter.unusedVariables false
set_option linter.unusedSimpArgs false



def errW : Option Int → Value
  | none => .nilIface
  | some c => .iface 0 (.int .i64 c)
theorem errW_none : errW none = .nilIface := rfl
theorem errW_some (c : Int) : errW (some c) = .iface 0 (.int .i64 c) := rfl

theorem info5 : (Tryd.prog.info? 5).map (fun i => (i.zero, i.size, i.bytes)) = some (some (.int .u8 0), 1, 1) := by kernel_rfl
-- the values' own types

end Go.Proofs.YtginmioklkcgbaaDoor.QFnExactReadDecimal
