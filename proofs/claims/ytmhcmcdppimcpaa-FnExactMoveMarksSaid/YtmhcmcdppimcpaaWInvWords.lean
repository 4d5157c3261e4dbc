/- Of the words that the kit's print laid for this seat, those that this claim names: chosen by a program of this session (wip/prune.py); no condition. -/
import Derived.Test.YtmhcmcdppimcpaaWInv
import Derived.Test.YtmhcmcdppimcpaaWFootNe
namespace Go.Proofs.YtmhcmcdppimcpaaW.PrintWords
open Go.RowKit
end Go.Proofs.YtmhcmcdppimcpaaW.PrintWords
namespace Go.Proofs.YtmhcmcdppimcpaaW.PrintLast
section
variable {ops : Array Oper} {a : Act} {o og : Oper} {g : Nat} {t : Tmp} {u : Bool}
end
end Go.Proofs.YtmhcmcdppimcpaaW.PrintLast
