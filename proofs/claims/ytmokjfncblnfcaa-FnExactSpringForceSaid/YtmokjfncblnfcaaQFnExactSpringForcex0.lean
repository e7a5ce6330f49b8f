/- What the Go functions of this law compute, each as a Lean function, and that each call comes to that answer; written by a program of this session. No condition. -/
import Derived.Test.YtmokjfncblnfcaaProg
import Derived.Below
import Derived.Deep.Draws
import Derived.Deep.AppendLies
import Derived.Maps.AppendAt
import Derived.OwnWalk
import Derived.Laws.BytesArg
import Derived.Laws.MakeOwn
import Derived.Laws.OwnMore
import Derived.Deep.OwnRows
import Derived.Tactics
import Derived.Lib.ConvBytes
import Derived.Laws.Slices
import Derived.WalkKit
import Derived.KernelRfl
import Derived.RowKit3
import Derived.Deep.LoopGhost
import Derived.Deep.QuietTactic
import Derived.BigQuiet
import Derived.WideLaws
import Derived.Deep.DeepCutAuto
import Derived.Deep.CutBlock
import Derived.Deep.RegionHeld3
import Derived.Laws.Rows
import Derived.Lib.AppendStr
import Derived.ArgAppend
import Derived.Laws.IdiomCopy
import Derived.OrdersHeld
import Derived.Laws.BitsLemmas
import Derived.RowKit
import Derived.Test.YtmokjfncblnfcaaExt
import Derived.Test.YtmokjfncblnfcaaWWords
import Derived.Test.YtmokjfncblnfcaaWLast
import Derived.Test.YtmokjfncblnfcaaWTab
import Derived.Test.YtmokjfncblnfcaaWFour
import Derived.Test.YtmokjfncblnfcaaWQPut
import Derived.Test.YtmokjfncblnfcaaWApart
import Derived.Test.YtmokjfncblnfcaaWArr
import Derived.Test.YtmokjfncblnfcaaWZeros
import Derived.Test.YtmokjfncblnfcaaWFoot
import Derived.Test.YtmokjfncblnfcaaWKept
import Derived.Test.YtmokjfncblnfcaaWShare
import Derived.Test.YtmokjfncblnfcaaWN
import Derived.Test.YtmokjfncblnfcaaWFootNe
import Derived.Test.YtmokjfncblnfcaaWAt
import Derived.Test.YtmokjfncblnfcaaWEqStruct
import Derived.Test.YtmokjfncblnfcaaWRepsOne
import Derived.Test.YtmokjfncblnfcaaWInv
import Derived.Test.YtmokjfncblnfcaaWInvWords
import Derived.Test.YtmokjfncblnfcaaWGuard
import Derived.Test.YtmokjfncblnfcaaWNEv
import Derived.Test.YtmokjfncblnfcaaWMore
namespace Go.Proofs.Ytmokjfncblnfcaa.QFnExactSpringForce
open Go.RowKit Go.Proofs.YtmokjfncblnfcaaW.PrintWords Go.Proofs.YtmokjfncblnfcaaW.PrintLast Go.Proofs.YtmokjfncblnfcaaW.PrintMore
attribute [local go_sem] max2_int min2_int max_two min_two max_three min_three max_four min_four   -- for this text's walks alone
set_option linter.unusedVariables false
set_option linter.unusedSimpArgs false



def errW : Option Int → Value
  | none => .nilIface
  | some c => .iface 0 (.int .i64 c)
theorem errW_none : errW none = .nilIface := rfl
theorem errW_some (c : Int) : errW (some c) = .iface 0 (.int .i64 c) := rfl

-- the values' own types

end Go.Proofs.Ytmokjfncblnfcaa.QFnExactSpringForce
