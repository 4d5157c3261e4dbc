/- Written by a program of this session (wip/ovl.py) over the kit's print: plain functions with the answers of the Go functions, and the proofs that they are; no condition. -/
import Derived.Test.YtkdablilbbbihaaProg
import Derived.Below
import Derived.Deep.Draws
import Derived.Deep.AppendLies
import Derived.Maps.AppendAt
import Derived.OwnWalk
import Derived.Laws.BytesArg
import Derived.Laws.MakeOwn
import Derived.Laws.OwnMore
import Derived.Deep.OwnRows
import Derived.Tactics
import Derived.Lib.ConvBytes
import Derived.Laws.Slices
import Derived.WalkKit
import Derived.KernelRfl
import Derived.RowKit3
import Derived.Deep.LoopGhost
import Derived.Deep.QuietTactic
import Derived.BigQuiet
import Derived.WideLaws
import Derived.Deep.DeepCutAuto
import Derived.Deep.CutBlock
import Derived.Deep.RegionHeld3
import Derived.Laws.Rows
import Derived.Lib.AppendStr
import Derived.ArgAppend
import Derived.Laws.IdiomCopy
import Derived.OrdersHeld
import Derived.Laws.BitsLemmas
import Derived.RowKit
import Derived.Maps.OwnSet
import Derived.Maps.OwnOps
import Derived.Test.YtkdablilbbbihaaCmp
import Derived.Test.YtkdablilbbbihaaWWords
import Derived.Test.YtkdablilbbbihaaWLast
import Derived.Test.YtkdablilbbbihaaWTab
import Derived.Test.YtkdablilbbbihaaWFour
import Derived.Test.YtkdablilbbbihaaWQPut
import Derived.Test.YtkdablilbbbihaaWApart
import Derived.Test.YtkdablilbbbihaaWArr
import Derived.Test.YtkdablilbbbihaaWZeros
import Derived.Test.YtkdablilbbbihaaWFoot
import Derived.Test.YtkdablilbbbihaaWKept
import Derived.Test.YtkdablilbbbihaaWShare
import Derived.Test.YtkdablilbbbihaaWN
import Derived.Test.YtkdablilbbbihaaWFootNe
import Derived.Test.YtkdablilbbbihaaWAt
import Derived.Test.YtkdablilbbbihaaWEqStruct
import Derived.Test.YtkdablilbbbihaaWRepsOne
import Derived.Test.YtkdablilbbbihaaWInv
import Derived.Test.YtkdablilbbbihaaWInvWords
import Derived.Test.YtkdablilbbbihaaWGuard
import Derived.Test.YtkdablilbbbihaaWNEv
import Derived.Test.YtkdablilbbbihaaWMore
namespace Go.Proofs.Ytkdablilbbbihaa.PFnExactPlaceOf
open Go.RowKit Go.Proofs.YtkdablilbbbihaaW.PrintWords Go.Proofs.YtkdablilbbbihaaW.PrintLast Go.Proofs.YtkdablilbbbihaaW.PrintMore
attribute [local go_sem] max2_int min2_int max_two min_two max_three min_three max_four min_four   -- for this text's walks alone
set_option linter.unusedVariables false
set_option linter.unusedSimpArgs false



def errW : Option Int → Value
  | none => .nilIface
  | some c => .iface 0 (.int .i64 c)
theorem errW_none : errW none = .nilIface := rfl
theorem errW_some (c : Int) : errW (some c) = .iface 0 (.int .i64 c) := rfl

theorem info3 : (Try.prog.info? 3).map (fun i => (i.zero, i.size, i.bytes)) = some (some (.int .i64 0), 1, 8) := by kernel_rfl
-- the values' own types

end Go.Proofs.Ytkdablilbbbihaa.PFnExactPlaceOf
