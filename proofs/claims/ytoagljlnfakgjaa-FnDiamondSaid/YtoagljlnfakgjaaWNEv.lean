/- Of the words that the kit's print laid for this seat, those that this claim names: chosen by a program of this session (wip/prune.py); no condition. -/
import Derived.Test.YtoagljlnfakgjaaWN
namespace Go.Proofs.YtoagljlnfakgjaaW.PrintWords
open Go.RowKit
namespace Kd
section
variable {α : Type} {d : Kd α} {e base n cap g : Nat} {ok ok' okp : Nat → Prop} {w w1 W : World} {v v1 : Value} {xs ys : List α}
end
section
variable {P : Program} {ops : Array Oper} {rest : List Oper} {o : Oper} {a : Act} {Q : Exit → Act → World → Prop} {Kc : Act → World → Prop} {α : Type}
end
end Kd
end Go.Proofs.YtoagljlnfakgjaaW.PrintWords
