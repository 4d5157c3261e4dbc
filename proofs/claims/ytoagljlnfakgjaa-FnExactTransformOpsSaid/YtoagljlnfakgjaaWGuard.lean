/- Of the words that the kit's print laid for this seat, those that this claim names: chosen by a program of this session (wip/prune.py); no condition. -/
import Derived.Test.YtoagljlnfakgjaaWWords
/-! ### 58. A guarded operation whose guard is known to want it: the same goal without the guard -/
namespace Go.Proofs.YtoagljlnfakgjaaW.PrintWords
open Go.RowKit
section
variable {P : Program} {ops : Array Oper} {rest : List Oper} {o : Oper} {a : Act} {Q : Exit → Act → World → Prop} {W : World}
end
end Go.Proofs.YtoagljlnfakgjaaW.PrintWords
