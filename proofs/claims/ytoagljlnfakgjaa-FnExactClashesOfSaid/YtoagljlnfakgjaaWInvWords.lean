/- Of the words that the kit's print laid for this seat, those that this claim names: chosen by a program of this session (wip/prune.py); no condition. -/
import Derived.Test.YtoagljlnfakgjaaWInv
import Derived.Test.YtoagljlnfakgjaaWFootNe
namespace Go.Proofs.YtoagljlnfakgjaaW.PrintWords
open Go.RowKit
end Go.Proofs.YtoagljlnfakgjaaW.PrintWords
namespace Go.Proofs.YtoagljlnfakgjaaW.PrintLast
section
variable {ops : Array Oper} {a : Act} {o og : Oper} {g : Nat} {t : Tmp} {u : Bool}
end
end Go.Proofs.YtoagljlnfakgjaaW.PrintLast
