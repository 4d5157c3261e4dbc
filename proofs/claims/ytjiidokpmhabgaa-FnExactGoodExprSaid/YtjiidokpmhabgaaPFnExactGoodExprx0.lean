/- Written by a program of this session (wip/ovl.py) over the kit's print: plain functions with the answers of the Go functions, and the proofs that they are; no condition. -/
import Derived.Test.YtjiidokpmhabgaaProg
import Derived.Below
import Derived.Deep.Draws
import Derived.Deep.AppendLies
import Derived.Maps.AppendAt
import Derived.OwnWalk
import Derived.Laws.BytesArg
import Derived.Laws.MakeOwn
import Derived.Laws.OwnMore
import Derived.Deep.OwnRows
import Derived.Tactics
import Derived.Lib.ConvBytes
import Derived.Laws.Slices
import Derived.WalkKit
import Derived.KernelRfl
import Derived.RowKit3
import Derived.Deep.LoopGhost
import Derived.Deep.QuietTactic
import Derived.BigQuiet
import Derived.WideLaws
import Derived.Deep.DeepCutAuto
import Derived.Deep.CutBlock
import Derived.Deep.RegionHeld3
import Derived.Laws.Rows
import Derived.Lib.AppendStr
import Derived.ArgAppend
import Derived.Laws.IdiomCopy
import Derived.OrdersHeld
import Derived.Laws.BitsLemmas
import Derived.RowKit
import Derived.Maps.OwnSet
import Derived.Maps.OwnOps
import Derived.Test.YtjiidokpmhabgaaCmp
import Derived.Test.YtjiidokpmhabgaaWWords
import Derived.Test.YtjiidokpmhabgaaWLast
import Derived.Test.YtjiidokpmhabgaaWTab
import Derived.Test.YtjiidokpmhabgaaWFour
import Derived.Test.YtjiidokpmhabgaaWQPut
import Derived.Test.YtjiidokpmhabgaaWApart
import Derived.Test.YtjiidokpmhabgaaWArr
import Derived.Test.YtjiidokpmhabgaaWZeros
import Derived.Test.YtjiidokpmhabgaaWFoot
import Derived.Test.YtjiidokpmhabgaaWKept
import Derived.Test.YtjiidokpmhabgaaWShare
import Derived.Test.YtjiidokpmhabgaaWN
import Derived.Test.YtjiidokpmhabgaaWFootNe
import Derived.Test.YtjiidokpmhabgaaWAt
import Derived.Test.YtjiidokpmhabgaaWEqStruct
import Derived.Test.YtjiidokpmhabgaaWRepsOne
import Derived.Test.YtjiidokpmhabgaaWInv
import Derived.Test.YtjiidokpmhabgaaWInvWords
import Derived.Test.YtjiidokpmhabgaaWGuard
import Derived.Test.YtjiidokpmhabgaaWNEv
import Derived.Test.YtjiidokpmhabgaaWMore
namespace Go.Proofs.Ytjiidokpmhabgaa.PFnExactGoodExpr
open Go.RowKit Go.Proofs.YtjiidokpmhabgaaW.PrintWords Go.Proofs.YtjiidokpmhabgaaW.PrintLast Go.Proofs.YtjiidokpmhabgaaW.PrintMore
attribute [local go_sem] max2_int min2_int max_two min_two max_three min_three max_four min_four   -- for this text's walks alone
set_option linter.unusedVariables false
set_option linter.unusedSimpArgs false



def errW : Option Int → Value
  | none => .nilIface
  | some c => .iface 0 (.int .i64 c)
theorem errW_none : errW none = .nilIface := rfl
theorem errW_some (c : Int) : errW (some c) = .iface 0 (.int .i64 c) := rfl

-- the values' own types

end Go.Proofs.Ytjiidokpmhabgaa.PFnExactGoodExpr
