/-
  No cell of these rows narrows 'for every input' (looked for: loops, veiled, ifaces, maps, wideKeys, modest, calm, conditions, laid).
  DERIVED. THE GIVEN ROWS OF THIS SEAT. 3 by the template 'for every input the law returns true; each argument reads behind the call as it read before'; 0 by the template 'total and deterministic' (their statements: YtjiidokpmhabgaaTotals.lean).
  GIVEN WITH THE SEED: the statements are not yours to turn. If you find one false, say at which input.
  Laid BY PROGRAM, IN A SANDBOX (cutbox-rows.mjs): the forced cells as the released guide's own fill.sh prints them over the translation 8b48ae6483570d93… (all of the seat's roots in one cut). By AI agents, Wed Nov 11 2026. No macro, syntax, notation, axiom, sorry.
-/
import Derived.Test.YtjiidokpmhabgaaChecked
import GoSem.Claim
import GoSem.ClaimJoined
import GoSem.ClaimMapViews
import Derived.JoinedTies
import Derived.KernelRfl
namespace Go.Proofs.Ytjiidokpmhabgaa
/- THE CELL 'sum', in the pinned program and in every row, IS THE sha256 OF THE DUMP (.gsa) THAT YtjiidokpmhabgaaProg.lean LOADS. Nothing in Lean hashes anything: it is a label: what it is worth is what the hold of that sum in a sandbox is worth. -/
noncomputable def Try.pinned : Pinned := { name := "ytjiidokpmhabgaa", sum := "8b48ae6483570d93ca582c27483e2035f36b0e3d8e55c611dbfb7b2e3c4ee398", checked := Try.checked }
namespace Rows
def none {H : Type} : Left H := { results := [], args := [] }

/-- 'laws.FnExactGoodExpr': WHATEVER THE INPUT: true; the input reads as it did. -/
def fnExactGoodExprSpec : ChangeSpec := { name := "fnExactGoodExpr", fn := fun _ => fun
  | [d] => { results := [.lit (.bool true)], args := [d] }
  | _ => none }
def fnExactGoodExprRow : OpenClaim := { program := "ytjiidokpmhabgaa", sum := "8b48ae6483570d93ca582c27483e2035f36b0e3d8e55c611dbfb7b2e3c4ee398", func := "loop.example/g00253/laws.FnExactGoodExpr", spec := "fnExactGoodExpr", inPlace := ["internal/bytealg.IndexByteString"], recurses := true, apart := false }
def FnExactGoodExprSaid : Prop := fnExactGoodExprRow.holds Try.pinned (OpenSpec.ofChange fnExactGoodExprSpec)

/-- ITS FALSE NEIGHBOUR: 'it returns false'. Refute it at one input. -/
def fnExactGoodExprWrong : ChangeSpec := { name := "fnExactGoodExpr", fn := fun _ => fun
  | [d] => { results := [.lit (.bool false)], args := [d] }
  | _ => none }
def FnExactGoodExprWrongFalsely : Prop := fnExactGoodExprRow.holds Try.pinned (OpenSpec.ofChange fnExactGoodExprWrong)

/-- 'laws.FnExactRunStates': WHATEVER THE INPUT: true; the input reads as it did. -/
def fnExactRunStatesSpec : ChangeSpec := { name := "fnExactRunStates", fn := fun _ => fun
  | [d1, d2] => { results := [.lit (.bool true)], args := [d1, d2] }
  | _ => none }
def fnExactRunStatesRow : OpenClaim := { program := "ytjiidokpmhabgaa", sum := "8b48ae6483570d93ca582c27483e2035f36b0e3d8e55c611dbfb7b2e3c4ee398", func := "loop.example/g00253/laws.FnExactRunStates", spec := "fnExactRunStates", inPlace := ["internal/bytealg.IndexByteString"], unfollowed := true, recurses := true, apart := false }
def FnExactRunStatesSaid : Prop := fnExactRunStatesRow.holds Try.pinned (OpenSpec.ofChange fnExactRunStatesSpec)

/-- ITS FALSE NEIGHBOUR: 'it returns false'. Refute it at one input. -/
def fnExactRunStatesWrong : ChangeSpec := { name := "fnExactRunStates", fn := fun _ => fun
  | [d1, d2] => { results := [.lit (.bool false)], args := [d1, d2] }
  | _ => none }
def FnExactRunStatesWrongFalsely : Prop := fnExactRunStatesRow.holds Try.pinned (OpenSpec.ofChange fnExactRunStatesWrong)

/-- 'laws.FnExactMatchExpr': WHATEVER THE INPUT: true; the input reads as it did. -/
def fnExactMatchExprSpec : ChangeSpec := { name := "fnExactMatchExpr", fn := fun _ => fun
  | [d1, d2] => { results := [.lit (.bool true)], args := [d1, d2] }
  | _ => none }
def fnExactMatchExprRow : OpenClaim := { program := "ytjiidokpmhabgaa", sum := "8b48ae6483570d93ca582c27483e2035f36b0e3d8e55c611dbfb7b2e3c4ee398", func := "loop.example/g00253/laws.FnExactMatchExpr", spec := "fnExactMatchExpr", inPlace := ["internal/bytealg.IndexByteString"], recurses := true, apart := false }
def FnExactMatchExprSaid : Prop := fnExactMatchExprRow.holds Try.pinned (OpenSpec.ofChange fnExactMatchExprSpec)

/-- ITS FALSE NEIGHBOUR: 'it returns false'. Refute it at one input. -/
def fnExactMatchExprWrong : ChangeSpec := { name := "fnExactMatchExpr", fn := fun _ => fun
  | [d1, d2] => { results := [.lit (.bool false)], args := [d1, d2] }
  | _ => none }
def FnExactMatchExprWrongFalsely : Prop := fnExactMatchExprRow.holds Try.pinned (OpenSpec.ofChange fnExactMatchExprWrong)

/- THE SECOND FORM. 'bulk': how many values and letters a reading holds, each counted each time it is reached (what is shared counts as often as it is met; a slice's spare places count too). A statement '..UptoSaid' is the law's where the arguments, and the package variables that the reading takes, are together of bulk at most 1048576: NARROWER than '..Said'. Prove '..Said' where nothing that the law and all that it calls make is longer than what came in: it says more and counts as full. Else prove '..UptoSaid'. A law counts once. -/
mutual
def uptoBulk {H : Type} : DataW H → Nat
  | .lit (.string bytes) => bytes.length + 1
  | .lit _ => 1
  | .nil => 1
  | .ptr d => uptoBulk d + 1
  | .slice elems spare => uptoBulkAll elems + uptoBulkAll spare + 1
  | .agg parts => uptoBulkAll parts + 1
  | .iface _ d => uptoBulk d + 1
  | .map entries => uptoBulkEntries entries + 1
  | .held _ => 1
def uptoBulkAll {H : Type} : List (DataW H) → Nat
  | [] => 0
  | d :: r => uptoBulk d + uptoBulkAll r
def uptoBulkEntries {H : Type} : List (Lit × DataW H) → Nat
  | [] => 0
  | x :: r => uptoBulkEntry x + uptoBulkEntries r
def uptoBulkEntry {H : Type} : Lit × DataW H → Nat
  | (.string bytes, d) => bytes.length + uptoBulk d + 1
  | (_, d) => uptoBulk d + 1
 end
def uptoSmall : (H : Type) → List (DataW H) → Bool := fun _ ds => decide (uptoBulkAll ds ≤ 1048576)
def OpenSpec.upto (s : _root_.Go.ChangeSpec) : _root_.Go.OpenSpec := { _root_.Go.OpenSpec.ofChange s with cond := some uptoSmall }

/-- 'laws.FnExactGoodExpr', WHERE WHAT IT READS IS OF BULK AT MOST 1048576: true; the input reads as it did. -/
def fnExactGoodExprUptoRow : OpenClaim := { program := "ytjiidokpmhabgaa", sum := "8b48ae6483570d93ca582c27483e2035f36b0e3d8e55c611dbfb7b2e3c4ee398", func := "loop.example/g00253/laws.FnExactGoodExpr", spec := "fnExactGoodExpr", inPlace := ["internal/bytealg.IndexByteString"], recurses := true, apart := false, narrowed := true }
def FnExactGoodExprUptoSaid : Prop := fnExactGoodExprUptoRow.holds Try.pinned (OpenSpec.upto fnExactGoodExprSpec)

/-- 'laws.FnExactRunStates', WHERE WHAT IT READS IS OF BULK AT MOST 1048576: true; the input reads as it did. -/
def fnExactRunStatesUptoRow : OpenClaim := { program := "ytjiidokpmhabgaa", sum := "8b48ae6483570d93ca582c27483e2035f36b0e3d8e55c611dbfb7b2e3c4ee398", func := "loop.example/g00253/laws.FnExactRunStates", spec := "fnExactRunStates", inPlace := ["internal/bytealg.IndexByteString"], unfollowed := true, recurses := true, apart := false, narrowed := true }
def FnExactRunStatesUptoSaid : Prop := fnExactRunStatesUptoRow.holds Try.pinned (OpenSpec.upto fnExactRunStatesSpec)

/-- 'laws.FnExactMatchExpr', WHERE WHAT IT READS IS OF BULK AT MOST 1048576: true; the input reads as it did. -/
def fnExactMatchExprUptoRow : OpenClaim := { program := "ytjiidokpmhabgaa", sum := "8b48ae6483570d93ca582c27483e2035f36b0e3d8e55c611dbfb7b2e3c4ee398", func := "loop.example/g00253/laws.FnExactMatchExpr", spec := "fnExactMatchExpr", inPlace := ["internal/bytealg.IndexByteString"], recurses := true, apart := false, narrowed := true }
def FnExactMatchExprUptoSaid : Prop := fnExactMatchExprUptoRow.holds Try.pinned (OpenSpec.upto fnExactMatchExprSpec)

end Rows
end Go.Proofs.Ytjiidokpmhabgaa
