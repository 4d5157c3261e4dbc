/- Of the words that the kit's print laid for this seat, those that this claim names: chosen by a program of this session (wip/prune.py); no condition. -/
import Derived.Test.YtoagljlnfakgjaaWTab
namespace Go.Proofs.YtoagljlnfakgjaaW.PrintLast
def up (b : Nat → Bool) (i : Nat) : Nat → Bool := fun j => if j = i then true else b j
section
variable {P : Program} {ops : Array Oper} {Q : Exit → Act → World → Prop} {md : Region.Mode} {T : Bool × List (List Nat × List Nat)} {B : List Nat} {O : List Nat} {b : Nat → Bool} {i j n : Nat}
end
end Go.Proofs.YtoagljlnfakgjaaW.PrintLast
