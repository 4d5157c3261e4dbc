/- Of the words that the kit's print laid for this seat, those that this claim names: chosen by a program of this session (wip/prune.py); no condition. -/
import Derived.Test.YtlelpomnblaciaaWInv
import Derived.Test.YtlelpomnblaciaaWFootNe
namespace Go.Proofs.YtlelpomnblaciaaW.PrintWords
open Go.RowKit
end Go.Proofs.YtlelpomnblaciaaW.PrintWords
namespace Go.Proofs.YtlelpomnblaciaaW.PrintLast
section
variable {ops : Array Oper} {a : Act} {o og : Oper} {g : Nat} {t : Tmp} {u : Bool}
end
end Go.Proofs.YtlelpomnblaciaaW.PrintLast
