-- Written by wip/tools/myprint.py, a program of this session.
import Derived.Test.YtjibamedpdpofaaProg
import Derived.Below
import Derived.Deep.Draws
import Derived.Deep.AppendLies
import Derived.Maps.AppendAt
import Derived.OwnWalk
import Derived.Laws.BytesArg
import Derived.Laws.MakeOwn
import Derived.Laws.OwnMore
import Derived.Deep.OwnRows
import Derived.Tactics
import Derived.Lib.ConvBytes
import Derived.Laws.Slices
import Derived.WalkKit
import Derived.KernelRfl
import Derived.RowKit3
import Derived.Deep.LoopGhost
import Derived.Deep.QuietTactic
import Derived.BigQuiet
import Derived.WideLaws
import Derived.Deep.DeepCutAuto
import Derived.Deep.CutBlock
import Derived.Deep.RegionHeld3
import Derived.Laws.Rows
import Derived.Lib.AppendStr
import Derived.ArgAppend
import Derived.Laws.IdiomCopy
import Derived.OrdersHeld
import Derived.Laws.BitsLemmas
import Derived.RowKit
import Derived.Handy
import Derived.Outline
import Derived.Test.YtjibamedpdpofaaWWords
import Derived.Test.YtjibamedpdpofaaWLast
import Derived.Test.YtjibamedpdpofaaWTab
import Derived.Test.YtjibamedpdpofaaWFour
import Derived.Test.YtjibamedpdpofaaWQPut
import Derived.Test.YtjibamedpdpofaaWApart
import Derived.Test.YtjibamedpdpofaaWArr
import Derived.Test.YtjibamedpdpofaaWZeros
import Derived.Test.YtjibamedpdpofaaWFoot
import Derived.Test.YtjibamedpdpofaaWKept
import Derived.Test.YtjibamedpdpofaaWShare
import Derived.Test.YtjibamedpdpofaaWN
import Derived.Test.YtjibamedpdpofaaWFootNe
import Derived.Test.YtjibamedpdpofaaWAt
import Derived.Test.YtjibamedpdpofaaWEqStruct
import Derived.Test.YtjibamedpdpofaaWRepsOne
import Derived.Test.YtjibamedpdpofaaWInv
import Derived.Test.YtjibamedpdpofaaWInvWords
import Derived.Test.YtjibamedpdpofaaWGuard
import Derived.Test.YtjibamedpdpofaaWNEv
import Derived.Test.YtjibamedpdpofaaWMore
namespace Go.Proofs.Ytjibamedpdpofaa.QQuantaMeansFit
open Go.RowKit Go.Proofs.YtjibamedpdpofaaW.PrintWords Go.Proofs.YtjibamedpdpofaaW.PrintLast Go.Proofs.YtjibamedpdpofaaW.PrintMore
attribute [local go_sem] max2_int min2_int max_two min_two max_three min_three max_four min_four   -- for this text's walks alone
set_option linter.unusedVariables false
set_option linter.unusedSimpArgs false



def errW : Option Int → Value
  | none => .nilIface
  | some c => .iface 0 (.int .i64 c)
theorem errW_none : errW none = .nilIface := rfl
theorem errW_some (c : Int) : errW (some c) = .iface 0 (.int .i64 c) := rfl

-- the values' own types

end Go.Proofs.Ytjibamedpdpofaa.QQuantaMeansFit
