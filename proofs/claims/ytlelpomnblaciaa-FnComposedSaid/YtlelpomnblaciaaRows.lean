/-
  No cell of these rows narrows 'for every input' (looked for: loops, veiled, ifaces, maps, wideKeys, modest, calm, conditions, laid).
  DERIVED. THE GIVEN ROWS OF THIS SEAT. 11 by the template 'for every input the law returns true; each argument reads behind the call as it read before'; 0 by the template 'total and deterministic' (their statements: YtlelpomnblaciaaTotals.lean).
  GIVEN WITH THE SEED: the statements are not yours to turn. If you find one false, say at which input.
  Laid BY PROGRAM, IN A SANDBOX (cutbox-rows.mjs): the forced cells as the released guide's own fill.sh prints them over the translation 7f87b0b82943ee8d… (all of the seat's roots in one cut). By AI agents, Wed Nov 11 2026. No macro, syntax, notation, axiom, sorry.
-/
import Derived.Test.YtlelpomnblaciaaChecked
import GoSem.Claim
import GoSem.ClaimJoined
import GoSem.ClaimMapViews
import Derived.JoinedTies
import Derived.KernelRfl
namespace Go.Proofs.Ytlelpomnblaciaa
/- THE CELL 'sum', in the pinned program and in every row, IS THE sha256 OF THE DUMP (.gsa) THAT YtlelpomnblaciaaProg.lean LOADS. Nothing in Lean hashes anything: it is a label: what it is worth is what the hold of that sum in a sandbox is worth. -/
noncomputable def Try.pinned : Pinned := { name := "ytlelpomnblaciaa", sum := "7f87b0b82943ee8d4d9ad501a09610cb59ae13342810519e6b6aa01f93ba0362", checked := Try.checked }
namespace Rows
def none {H : Type} : Left H := { results := [], args := [] }

/-- 'laws.FnExactKeepAll': WHATEVER THE INPUT: true; the input reads as it did. -/
def fnExactKeepAllSpec : ChangeSpec := { name := "fnExactKeepAll", fn := fun _ => fun
  | [d] => { results := [.lit (.bool true)], args := [d] }
  | _ => none }
def fnExactKeepAllRow : OpenClaim := { program := "ytlelpomnblaciaa", sum := "7f87b0b82943ee8d4d9ad501a09610cb59ae13342810519e6b6aa01f93ba0362", func := "loop.example/g00253/laws.FnExactKeepAll", spec := "fnExactKeepAll", apart := false }
def FnExactKeepAllSaid : Prop := fnExactKeepAllRow.holds Try.pinned (OpenSpec.ofChange fnExactKeepAllSpec)

/-- ITS FALSE NEIGHBOUR: 'it returns false'. Refute it at one input. -/
def fnExactKeepAllWrong : ChangeSpec := { name := "fnExactKeepAll", fn := fun _ => fun
  | [d] => { results := [.lit (.bool false)], args := [d] }
  | _ => none }
def FnExactKeepAllWrongFalsely : Prop := fnExactKeepAllRow.holds Try.pinned (OpenSpec.ofChange fnExactKeepAllWrong)

/-- 'laws.FnExactGoodOp': WHATEVER THE INPUT: true; the input reads as it did. -/
def fnExactGoodOpSpec : ChangeSpec := { name := "fnExactGoodOp", fn := fun _ => fun
  | [d] => { results := [.lit (.bool true)], args := [d] }
  | _ => none }
def fnExactGoodOpRow : OpenClaim := { program := "ytlelpomnblaciaa", sum := "7f87b0b82943ee8d4d9ad501a09610cb59ae13342810519e6b6aa01f93ba0362", func := "loop.example/g00253/laws.FnExactGoodOp", spec := "fnExactGoodOp", unfollowed := true, recurses := true, apart := false }
def FnExactGoodOpSaid : Prop := fnExactGoodOpRow.holds Try.pinned (OpenSpec.ofChange fnExactGoodOpSpec)

/-- ITS FALSE NEIGHBOUR: 'it returns false'. Refute it at one input. -/
def fnExactGoodOpWrong : ChangeSpec := { name := "fnExactGoodOp", fn := fun _ => fun
  | [d] => { results := [.lit (.bool false)], args := [d] }
  | _ => none }
def FnExactGoodOpWrongFalsely : Prop := fnExactGoodOpRow.holds Try.pinned (OpenSpec.ofChange fnExactGoodOpWrong)

/-- 'laws.FnExactSizesOf': WHATEVER THE INPUT: true; the input reads as it did. -/
def fnExactSizesOfSpec : ChangeSpec := { name := "fnExactSizesOf", fn := fun _ => fun
  | [d] => { results := [.lit (.bool true)], args := [d] }
  | _ => none }
def fnExactSizesOfRow : OpenClaim := { program := "ytlelpomnblaciaa", sum := "7f87b0b82943ee8d4d9ad501a09610cb59ae13342810519e6b6aa01f93ba0362", func := "loop.example/g00253/laws.FnExactSizesOf", spec := "fnExactSizesOf", unfollowed := true, recurses := true, apart := false }
def FnExactSizesOfSaid : Prop := fnExactSizesOfRow.holds Try.pinned (OpenSpec.ofChange fnExactSizesOfSpec)

/-- ITS FALSE NEIGHBOUR: 'it returns false'. Refute it at one input. -/
def fnExactSizesOfWrong : ChangeSpec := { name := "fnExactSizesOf", fn := fun _ => fun
  | [d] => { results := [.lit (.bool false)], args := [d] }
  | _ => none }
def FnExactSizesOfWrongFalsely : Prop := fnExactSizesOfRow.holds Try.pinned (OpenSpec.ofChange fnExactSizesOfWrong)

/-- 'laws.FnExactApplyOp': WHATEVER THE INPUT: true; the input reads as it did. -/
def fnExactApplyOpSpec : ChangeSpec := { name := "fnExactApplyOp", fn := fun _ => fun
  | [d1, d2] => { results := [.lit (.bool true)], args := [d1, d2] }
  | _ => none }
def fnExactApplyOpRow : OpenClaim := { program := "ytlelpomnblaciaa", sum := "7f87b0b82943ee8d4d9ad501a09610cb59ae13342810519e6b6aa01f93ba0362", func := "loop.example/g00253/laws.FnExactApplyOp", spec := "fnExactApplyOp", unfollowed := true, recurses := true, apart := false }
def FnExactApplyOpSaid : Prop := fnExactApplyOpRow.holds Try.pinned (OpenSpec.ofChange fnExactApplyOpSpec)

/-- ITS FALSE NEIGHBOUR: 'it returns false'. Refute it at one input. -/
def fnExactApplyOpWrong : ChangeSpec := { name := "fnExactApplyOp", fn := fun _ => fun
  | [d1, d2] => { results := [.lit (.bool false)], args := [d1, d2] }
  | _ => none }
def FnExactApplyOpWrongFalsely : Prop := fnExactApplyOpRow.holds Try.pinned (OpenSpec.ofChange fnExactApplyOpWrong)

/-- 'laws.FnExactSpliceOp': WHATEVER THE INPUT: true; the input reads as it did. -/
def fnExactSpliceOpSpec : ChangeSpec := { name := "fnExactSpliceOp", fn := fun _ => fun
  | [d1, d2, d3, d4] => { results := [.lit (.bool true)], args := [d1, d2, d3, d4] }
  | _ => none }
def fnExactSpliceOpRow : OpenClaim := { program := "ytlelpomnblaciaa", sum := "7f87b0b82943ee8d4d9ad501a09610cb59ae13342810519e6b6aa01f93ba0362", func := "loop.example/g00253/laws.FnExactSpliceOp", spec := "fnExactSpliceOp", unfollowed := true, recurses := true, apart := false }
def FnExactSpliceOpSaid : Prop := fnExactSpliceOpRow.holds Try.pinned (OpenSpec.ofChange fnExactSpliceOpSpec)

/-- ITS FALSE NEIGHBOUR: 'it returns false'. Refute it at one input. -/
def fnExactSpliceOpWrong : ChangeSpec := { name := "fnExactSpliceOp", fn := fun _ => fun
  | [d1, d2, d3, d4] => { results := [.lit (.bool false)], args := [d1, d2, d3, d4] }
  | _ => none }
def FnExactSpliceOpWrongFalsely : Prop := fnExactSpliceOpRow.holds Try.pinned (OpenSpec.ofChange fnExactSpliceOpWrong)

/-- 'laws.FnExactInvertOp': WHATEVER THE INPUT: true; the input reads as it did. -/
def fnExactInvertOpSpec : ChangeSpec := { name := "fnExactInvertOp", fn := fun _ => fun
  | [d] => { results := [.lit (.bool true)], args := [d] }
  | _ => none }
def fnExactInvertOpRow : OpenClaim := { program := "ytlelpomnblaciaa", sum := "7f87b0b82943ee8d4d9ad501a09610cb59ae13342810519e6b6aa01f93ba0362", func := "loop.example/g00253/laws.FnExactInvertOp", spec := "fnExactInvertOp", unfollowed := true, recurses := true, apart := false }
def FnExactInvertOpSaid : Prop := fnExactInvertOpRow.holds Try.pinned (OpenSpec.ofChange fnExactInvertOpSpec)

/-- ITS FALSE NEIGHBOUR: 'it returns false'. Refute it at one input. -/
def fnExactInvertOpWrong : ChangeSpec := { name := "fnExactInvertOp", fn := fun _ => fun
  | [d] => { results := [.lit (.bool false)], args := [d] }
  | _ => none }
def FnExactInvertOpWrongFalsely : Prop := fnExactInvertOpRow.holds Try.pinned (OpenSpec.ofChange fnExactInvertOpWrong)

/-- 'laws.FnExactNormalOp': WHATEVER THE INPUT: true; the input reads as it did. -/
def fnExactNormalOpSpec : ChangeSpec := { name := "fnExactNormalOp", fn := fun _ => fun
  | [d] => { results := [.lit (.bool true)], args := [d] }
  | _ => none }
def fnExactNormalOpRow : OpenClaim := { program := "ytlelpomnblaciaa", sum := "7f87b0b82943ee8d4d9ad501a09610cb59ae13342810519e6b6aa01f93ba0362", func := "loop.example/g00253/laws.FnExactNormalOp", spec := "fnExactNormalOp", unfollowed := true, recurses := true, apart := false }
def FnExactNormalOpSaid : Prop := fnExactNormalOpRow.holds Try.pinned (OpenSpec.ofChange fnExactNormalOpSpec)

/-- ITS FALSE NEIGHBOUR: 'it returns false'. Refute it at one input. -/
def fnExactNormalOpWrong : ChangeSpec := { name := "fnExactNormalOp", fn := fun _ => fun
  | [d] => { results := [.lit (.bool false)], args := [d] }
  | _ => none }
def FnExactNormalOpWrongFalsely : Prop := fnExactNormalOpRow.holds Try.pinned (OpenSpec.ofChange fnExactNormalOpWrong)

/-- 'laws.FnExactComposeOps': WHATEVER THE INPUT: true; the input reads as it did. -/
def fnExactComposeOpsSpec : ChangeSpec := { name := "fnExactComposeOps", fn := fun _ => fun
  | [d1, d2] => { results := [.lit (.bool true)], args := [d1, d2] }
  | _ => none }
def fnExactComposeOpsRow : OpenClaim := { program := "ytlelpomnblaciaa", sum := "7f87b0b82943ee8d4d9ad501a09610cb59ae13342810519e6b6aa01f93ba0362", func := "loop.example/g00253/laws.FnExactComposeOps", spec := "fnExactComposeOps", unfollowed := true, recurses := true, apart := false }
def FnExactComposeOpsSaid : Prop := fnExactComposeOpsRow.holds Try.pinned (OpenSpec.ofChange fnExactComposeOpsSpec)

/-- ITS FALSE NEIGHBOUR: 'it returns false'. Refute it at one input. -/
def fnExactComposeOpsWrong : ChangeSpec := { name := "fnExactComposeOps", fn := fun _ => fun
  | [d1, d2] => { results := [.lit (.bool false)], args := [d1, d2] }
  | _ => none }
def FnExactComposeOpsWrongFalsely : Prop := fnExactComposeOpsRow.holds Try.pinned (OpenSpec.ofChange fnExactComposeOpsWrong)

/-- 'laws.FnInverted': WHATEVER THE INPUT: true; the input reads as it did. -/
def fnInvertedSpec : ChangeSpec := { name := "fnInverted", fn := fun _ => fun
  | [d] => { results := [.lit (.bool true)], args := [d] }
  | _ => none }
def fnInvertedRow : OpenClaim := { program := "ytlelpomnblaciaa", sum := "7f87b0b82943ee8d4d9ad501a09610cb59ae13342810519e6b6aa01f93ba0362", func := "loop.example/g00253/laws.FnInverted", spec := "fnInverted", unfollowed := true, recurses := true, apart := false }
def FnInvertedSaid : Prop := fnInvertedRow.holds Try.pinned (OpenSpec.ofChange fnInvertedSpec)

/-- ITS FALSE NEIGHBOUR: 'it returns false'. Refute it at one input. -/
def fnInvertedWrong : ChangeSpec := { name := "fnInverted", fn := fun _ => fun
  | [d] => { results := [.lit (.bool false)], args := [d] }
  | _ => none }
def FnInvertedWrongFalsely : Prop := fnInvertedRow.holds Try.pinned (OpenSpec.ofChange fnInvertedWrong)

/-- 'laws.FnNormal': WHATEVER THE INPUT: true; the input reads as it did. -/
def fnNormalSpec : ChangeSpec := { name := "fnNormal", fn := fun _ => fun
  | [d1, d2] => { results := [.lit (.bool true)], args := [d1, d2] }
  | _ => none }
def fnNormalRow : OpenClaim := { program := "ytlelpomnblaciaa", sum := "7f87b0b82943ee8d4d9ad501a09610cb59ae13342810519e6b6aa01f93ba0362", func := "loop.example/g00253/laws.FnNormal", spec := "fnNormal", unfollowed := true, recurses := true, apart := false }
def FnNormalSaid : Prop := fnNormalRow.holds Try.pinned (OpenSpec.ofChange fnNormalSpec)

/-- ITS FALSE NEIGHBOUR: 'it returns false'. Refute it at one input. -/
def fnNormalWrong : ChangeSpec := { name := "fnNormal", fn := fun _ => fun
  | [d1, d2] => { results := [.lit (.bool false)], args := [d1, d2] }
  | _ => none }
def FnNormalWrongFalsely : Prop := fnNormalRow.holds Try.pinned (OpenSpec.ofChange fnNormalWrong)

/-- 'laws.FnComposed': WHATEVER THE INPUT: true; the input reads as it did. -/
def fnComposedSpec : ChangeSpec := { name := "fnComposed", fn := fun _ => fun
  | [d1, d2] => { results := [.lit (.bool true)], args := [d1, d2] }
  | _ => none }
def fnComposedRow : OpenClaim := { program := "ytlelpomnblaciaa", sum := "7f87b0b82943ee8d4d9ad501a09610cb59ae13342810519e6b6aa01f93ba0362", func := "loop.example/g00253/laws.FnComposed", spec := "fnComposed", unfollowed := true, recurses := true, apart := false }
def FnComposedSaid : Prop := fnComposedRow.holds Try.pinned (OpenSpec.ofChange fnComposedSpec)

/-- ITS FALSE NEIGHBOUR: 'it returns false'. Refute it at one input. -/
def fnComposedWrong : ChangeSpec := { name := "fnComposed", fn := fun _ => fun
  | [d1, d2] => { results := [.lit (.bool false)], args := [d1, d2] }
  | _ => none }
def FnComposedWrongFalsely : Prop := fnComposedRow.holds Try.pinned (OpenSpec.ofChange fnComposedWrong)

/- THE SECOND FORM. 'bulk': how many values and letters a reading holds, each counted each time it is reached (what is shared counts as often as it is met; a slice's spare places count too). A statement '..UptoSaid' is the law's where the arguments, and the package variables that the reading takes, are together of bulk at most 1048576: NARROWER than '..Said'. Prove '..Said' where nothing that the law and all that it calls make is longer than what came in: it says more and counts as full. Else prove '..UptoSaid'. A law counts once. -/
mutual
def uptoBulk {H : Type} : DataW H → Nat
  | .lit (.string bytes) => bytes.length + 1
  | .lit _ => 1
  | .nil => 1
  | .ptr d => uptoBulk d + 1
  | .slice elems spare => uptoBulkAll elems + uptoBulkAll spare + 1
  | .agg parts => uptoBulkAll parts + 1
  | .iface _ d => uptoBulk d + 1
  | .map entries => uptoBulkEntries entries + 1
  | .held _ => 1
def uptoBulkAll {H : Type} : List (DataW H) → Nat
  | [] => 0
  | d :: r => uptoBulk d + uptoBulkAll r
def uptoBulkEntries {H : Type} : List (Lit × DataW H) → Nat
  | [] => 0
  | x :: r => uptoBulkEntry x + uptoBulkEntries r
def uptoBulkEntry {H : Type} : Lit × DataW H → Nat
  | (.string bytes, d) => bytes.length + uptoBulk d + 1
  | (_, d) => uptoBulk d + 1
 end
def uptoSmall : (H : Type) → List (DataW H) → Bool := fun _ ds => decide (uptoBulkAll ds ≤ 1048576)
def OpenSpec.upto (s : _root_.Go.ChangeSpec) : _root_.Go.OpenSpec := { _root_.Go.OpenSpec.ofChange s with cond := some uptoSmall }

/-- 'laws.FnExactKeepAll', WHERE WHAT IT READS IS OF BULK AT MOST 1048576: true; the input reads as it did. -/
def fnExactKeepAllUptoRow : OpenClaim := { program := "ytlelpomnblaciaa", sum := "7f87b0b82943ee8d4d9ad501a09610cb59ae13342810519e6b6aa01f93ba0362", func := "loop.example/g00253/laws.FnExactKeepAll", spec := "fnExactKeepAll", apart := false, narrowed := true }
def FnExactKeepAllUptoSaid : Prop := fnExactKeepAllUptoRow.holds Try.pinned (OpenSpec.upto fnExactKeepAllSpec)

/-- 'laws.FnExactGoodOp', WHERE WHAT IT READS IS OF BULK AT MOST 1048576: true; the input reads as it did. -/
def fnExactGoodOpUptoRow : OpenClaim := { program := "ytlelpomnblaciaa", sum := "7f87b0b82943ee8d4d9ad501a09610cb59ae13342810519e6b6aa01f93ba0362", func := "loop.example/g00253/laws.FnExactGoodOp", spec := "fnExactGoodOp", unfollowed := true, recurses := true, apart := false, narrowed := true }
def FnExactGoodOpUptoSaid : Prop := fnExactGoodOpUptoRow.holds Try.pinned (OpenSpec.upto fnExactGoodOpSpec)

/-- 'laws.FnExactSizesOf', WHERE WHAT IT READS IS OF BULK AT MOST 1048576: true; the input reads as it did. -/
def fnExactSizesOfUptoRow : OpenClaim := { program := "ytlelpomnblaciaa", sum := "7f87b0b82943ee8d4d9ad501a09610cb59ae13342810519e6b6aa01f93ba0362", func := "loop.example/g00253/laws.FnExactSizesOf", spec := "fnExactSizesOf", unfollowed := true, recurses := true, apart := false, narrowed := true }
def FnExactSizesOfUptoSaid : Prop := fnExactSizesOfUptoRow.holds Try.pinned (OpenSpec.upto fnExactSizesOfSpec)

/-- 'laws.FnExactApplyOp', WHERE WHAT IT READS IS OF BULK AT MOST 1048576: true; the input reads as it did. -/
def fnExactApplyOpUptoRow : OpenClaim := { program := "ytlelpomnblaciaa", sum := "7f87b0b82943ee8d4d9ad501a09610cb59ae13342810519e6b6aa01f93ba0362", func := "loop.example/g00253/laws.FnExactApplyOp", spec := "fnExactApplyOp", unfollowed := true, recurses := true, apart := false, narrowed := true }
def FnExactApplyOpUptoSaid : Prop := fnExactApplyOpUptoRow.holds Try.pinned (OpenSpec.upto fnExactApplyOpSpec)

/-- 'laws.FnExactSpliceOp', WHERE WHAT IT READS IS OF BULK AT MOST 1048576: true; the input reads as it did. -/
def fnExactSpliceOpUptoRow : OpenClaim := { program := "ytlelpomnblaciaa", sum := "7f87b0b82943ee8d4d9ad501a09610cb59ae13342810519e6b6aa01f93ba0362", func := "loop.example/g00253/laws.FnExactSpliceOp", spec := "fnExactSpliceOp", unfollowed := true, recurses := true, apart := false, narrowed := true }
def FnExactSpliceOpUptoSaid : Prop := fnExactSpliceOpUptoRow.holds Try.pinned (OpenSpec.upto fnExactSpliceOpSpec)

/-- 'laws.FnExactInvertOp', WHERE WHAT IT READS IS OF BULK AT MOST 1048576: true; the input reads as it did. -/
def fnExactInvertOpUptoRow : OpenClaim := { program := "ytlelpomnblaciaa", sum := "7f87b0b82943ee8d4d9ad501a09610cb59ae13342810519e6b6aa01f93ba0362", func := "loop.example/g00253/laws.FnExactInvertOp", spec := "fnExactInvertOp", unfollowed := true, recurses := true, apart := false, narrowed := true }
def FnExactInvertOpUptoSaid : Prop := fnExactInvertOpUptoRow.holds Try.pinned (OpenSpec.upto fnExactInvertOpSpec)

/-- 'laws.FnExactNormalOp', WHERE WHAT IT READS IS OF BULK AT MOST 1048576: true; the input reads as it did. -/
def fnExactNormalOpUptoRow : OpenClaim := { program := "ytlelpomnblaciaa", sum := "7f87b0b82943ee8d4d9ad501a09610cb59ae13342810519e6b6aa01f93ba0362", func := "loop.example/g00253/laws.FnExactNormalOp", spec := "fnExactNormalOp", unfollowed := true, recurses := true, apart := false, narrowed := true }
def FnExactNormalOpUptoSaid : Prop := fnExactNormalOpUptoRow.holds Try.pinned (OpenSpec.upto fnExactNormalOpSpec)

/-- 'laws.FnExactComposeOps', WHERE WHAT IT READS IS OF BULK AT MOST 1048576: true; the input reads as it did. -/
def fnExactComposeOpsUptoRow : OpenClaim := { program := "ytlelpomnblaciaa", sum := "7f87b0b82943ee8d4d9ad501a09610cb59ae13342810519e6b6aa01f93ba0362", func := "loop.example/g00253/laws.FnExactComposeOps", spec := "fnExactComposeOps", unfollowed := true, recurses := true, apart := false, narrowed := true }
def FnExactComposeOpsUptoSaid : Prop := fnExactComposeOpsUptoRow.holds Try.pinned (OpenSpec.upto fnExactComposeOpsSpec)

/-- 'laws.FnInverted', WHERE WHAT IT READS IS OF BULK AT MOST 1048576: true; the input reads as it did. -/
def fnInvertedUptoRow : OpenClaim := { program := "ytlelpomnblaciaa", sum := "7f87b0b82943ee8d4d9ad501a09610cb59ae13342810519e6b6aa01f93ba0362", func := "loop.example/g00253/laws.FnInverted", spec := "fnInverted", unfollowed := true, recurses := true, apart := false, narrowed := true }
def FnInvertedUptoSaid : Prop := fnInvertedUptoRow.holds Try.pinned (OpenSpec.upto fnInvertedSpec)

/-- 'laws.FnNormal', WHERE WHAT IT READS IS OF BULK AT MOST 1048576: true; the input reads as it did. -/
def fnNormalUptoRow : OpenClaim := { program := "ytlelpomnblaciaa", sum := "7f87b0b82943ee8d4d9ad501a09610cb59ae13342810519e6b6aa01f93ba0362", func := "loop.example/g00253/laws.FnNormal", spec := "fnNormal", unfollowed := true, recurses := true, apart := false, narrowed := true }
def FnNormalUptoSaid : Prop := fnNormalUptoRow.holds Try.pinned (OpenSpec.upto fnNormalSpec)

/-- 'laws.FnComposed', WHERE WHAT IT READS IS OF BULK AT MOST 1048576: true; the input reads as it did. -/
def fnComposedUptoRow : OpenClaim := { program := "ytlelpomnblaciaa", sum := "7f87b0b82943ee8d4d9ad501a09610cb59ae13342810519e6b6aa01f93ba0362", func := "loop.example/g00253/laws.FnComposed", spec := "fnComposed", unfollowed := true, recurses := true, apart := false, narrowed := true }
def FnComposedUptoSaid : Prop := fnComposedUptoRow.holds Try.pinned (OpenSpec.upto fnComposedSpec)

end Rows
end Go.Proofs.Ytlelpomnblaciaa
