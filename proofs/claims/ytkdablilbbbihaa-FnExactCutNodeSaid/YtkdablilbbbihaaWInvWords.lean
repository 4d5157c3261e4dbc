/- Of the words that the kit's print laid for this seat, those that this claim names: chosen by a program of this session (wip/prune.py); no condition. -/
import Derived.Test.YtkdablilbbbihaaWInv
import Derived.Test.YtkdablilbbbihaaWFootNe
namespace Go.Proofs.YtkdablilbbbihaaW.PrintWords
open Go.RowKit
end Go.Proofs.YtkdablilbbbihaaW.PrintWords
namespace Go.Proofs.YtkdablilbbbihaaW.PrintLast
section
variable {ops : Array Oper} {a : Act} {o og : Oper} {g : Nat} {t : Tmp} {u : Bool}
end
end Go.Proofs.YtkdablilbbbihaaW.PrintLast
