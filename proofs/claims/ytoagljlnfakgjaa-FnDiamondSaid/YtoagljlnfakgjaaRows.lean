/-
  No cell of these rows narrows 'for every input' (looked for: loops, veiled, ifaces, maps, wideKeys, modest, calm, conditions, laid).
  DERIVED. THE GIVEN ROWS OF THIS SEAT. 6 by the template 'for every input the law returns true; each argument reads behind the call as it read before'; 0 by the template 'total and deterministic' (their statements: YtoagljlnfakgjaaTotals.lean).
  GIVEN WITH THE SEED: the statements are not yours to turn. If you find one false, say at which input.
  Laid BY PROGRAM, IN A SANDBOX (cutbox-rows.mjs): the forced cells as the released guide's own fill.sh prints them over the translation d1d6ea4191c44c9b… (all of the seat's roots in one cut). By AI agents, Wed Nov 11 2026. No macro, syntax, notation, axiom, sorry.
-/
import Derived.Test.YtoagljlnfakgjaaChecked
import GoSem.Claim
import GoSem.ClaimJoined
import GoSem.ClaimMapViews
import Derived.JoinedTies
import Derived.KernelRfl
namespace Go.Proofs.Ytoagljlnfakgjaa
/- THE CELL 'sum', in the pinned program and in every row, IS THE sha256 OF THE DUMP (.gsa) THAT YtoagljlnfakgjaaProg.lean LOADS. Nothing in Lean hashes anything: it is a label: what it is worth is what the hold of that sum in a sandbox is worth. -/
noncomputable def Try.pinned : Pinned := { name := "ytoagljlnfakgjaa", sum := "d1d6ea4191c44c9b5a0bc18a9d1a82b464b154b2818f4a1e7542c7d6dee4a09e", checked := Try.checked }
namespace Rows
def none {H : Type} : Left H := { results := [], args := [] }

/-- 'laws.FnExactSameTexts': WHATEVER THE INPUT: true; the input reads as it did. -/
def fnExactSameTextsSpec : ChangeSpec := { name := "fnExactSameTexts", fn := fun _ => fun
  | [d1, d2] => { results := [.lit (.bool true)], args := [d1, d2] }
  | _ => none }
def fnExactSameTextsRow : OpenClaim := { program := "ytoagljlnfakgjaa", sum := "d1d6ea4191c44c9b5a0bc18a9d1a82b464b154b2818f4a1e7542c7d6dee4a09e", func := "loop.example/g00253/laws.FnExactSameTexts", spec := "fnExactSameTexts", unfollowed := true, recurses := true, apart := false }
def FnExactSameTextsSaid : Prop := fnExactSameTextsRow.holds Try.pinned (OpenSpec.ofChange fnExactSameTextsSpec)

/-- ITS FALSE NEIGHBOUR: 'it returns false'. Refute it at one input. -/
def fnExactSameTextsWrong : ChangeSpec := { name := "fnExactSameTexts", fn := fun _ => fun
  | [d1, d2] => { results := [.lit (.bool false)], args := [d1, d2] }
  | _ => none }
def FnExactSameTextsWrongFalsely : Prop := fnExactSameTextsRow.holds Try.pinned (OpenSpec.ofChange fnExactSameTextsWrong)

/-- 'laws.FnExactClashesOf': WHATEVER THE INPUT: true; the input reads as it did. -/
def fnExactClashesOfSpec : ChangeSpec := { name := "fnExactClashesOf", fn := fun _ => fun
  | [d1, d2] => { results := [.lit (.bool true)], args := [d1, d2] }
  | _ => none }
def fnExactClashesOfRow : OpenClaim := { program := "ytoagljlnfakgjaa", sum := "d1d6ea4191c44c9b5a0bc18a9d1a82b464b154b2818f4a1e7542c7d6dee4a09e", func := "loop.example/g00253/laws.FnExactClashesOf", spec := "fnExactClashesOf", unfollowed := true, recurses := true, apart := false }
def FnExactClashesOfSaid : Prop := fnExactClashesOfRow.holds Try.pinned (OpenSpec.ofChange fnExactClashesOfSpec)

/-- ITS FALSE NEIGHBOUR: 'it returns false'. Refute it at one input. -/
def fnExactClashesOfWrong : ChangeSpec := { name := "fnExactClashesOf", fn := fun _ => fun
  | [d1, d2] => { results := [.lit (.bool false)], args := [d1, d2] }
  | _ => none }
def FnExactClashesOfWrongFalsely : Prop := fnExactClashesOfRow.holds Try.pinned (OpenSpec.ofChange fnExactClashesOfWrong)

/-- 'laws.FnExactTransformOps': WHATEVER THE INPUT: true; the input reads as it did. -/
def fnExactTransformOpsSpec : ChangeSpec := { name := "fnExactTransformOps", fn := fun _ => fun
  | [d1, d2] => { results := [.lit (.bool true)], args := [d1, d2] }
  | _ => none }
def fnExactTransformOpsRow : OpenClaim := { program := "ytoagljlnfakgjaa", sum := "d1d6ea4191c44c9b5a0bc18a9d1a82b464b154b2818f4a1e7542c7d6dee4a09e", func := "loop.example/g00253/laws.FnExactTransformOps", spec := "fnExactTransformOps", unfollowed := true, recurses := true, apart := false }
def FnExactTransformOpsSaid : Prop := fnExactTransformOpsRow.holds Try.pinned (OpenSpec.ofChange fnExactTransformOpsSpec)

/-- ITS FALSE NEIGHBOUR: 'it returns false'. Refute it at one input. -/
def fnExactTransformOpsWrong : ChangeSpec := { name := "fnExactTransformOps", fn := fun _ => fun
  | [d1, d2] => { results := [.lit (.bool false)], args := [d1, d2] }
  | _ => none }
def FnExactTransformOpsWrongFalsely : Prop := fnExactTransformOpsRow.holds Try.pinned (OpenSpec.ofChange fnExactTransformOpsWrong)

/-- 'laws.FnExactTransformOver': WHATEVER THE INPUT: true; the input reads as it did. -/
def fnExactTransformOverSpec : ChangeSpec := { name := "fnExactTransformOver", fn := fun _ => fun
  | [d1, d2] => { results := [.lit (.bool true)], args := [d1, d2] }
  | _ => none }
def fnExactTransformOverRow : OpenClaim := { program := "ytoagljlnfakgjaa", sum := "d1d6ea4191c44c9b5a0bc18a9d1a82b464b154b2818f4a1e7542c7d6dee4a09e", func := "loop.example/g00253/laws.FnExactTransformOver", spec := "fnExactTransformOver", unfollowed := true, recurses := true, apart := false }
def FnExactTransformOverSaid : Prop := fnExactTransformOverRow.holds Try.pinned (OpenSpec.ofChange fnExactTransformOverSpec)

/-- ITS FALSE NEIGHBOUR: 'it returns false'. Refute it at one input. -/
def fnExactTransformOverWrong : ChangeSpec := { name := "fnExactTransformOver", fn := fun _ => fun
  | [d1, d2] => { results := [.lit (.bool false)], args := [d1, d2] }
  | _ => none }
def FnExactTransformOverWrongFalsely : Prop := fnExactTransformOverRow.holds Try.pinned (OpenSpec.ofChange fnExactTransformOverWrong)

/-- 'laws.FnDiamond': WHATEVER THE INPUT: true; the input reads as it did. -/
def fnDiamondSpec : ChangeSpec := { name := "fnDiamond", fn := fun _ => fun
  | [d] => { results := [.lit (.bool true)], args := [d] }
  | _ => none }
def fnDiamondRow : OpenClaim := { program := "ytoagljlnfakgjaa", sum := "d1d6ea4191c44c9b5a0bc18a9d1a82b464b154b2818f4a1e7542c7d6dee4a09e", func := "loop.example/g00253/laws.FnDiamond", spec := "fnDiamond", unfollowed := true, recurses := true, apart := false }
def FnDiamondSaid : Prop := fnDiamondRow.holds Try.pinned (OpenSpec.ofChange fnDiamondSpec)

/-- ITS FALSE NEIGHBOUR: 'it returns false'. Refute it at one input. -/
def fnDiamondWrong : ChangeSpec := { name := "fnDiamond", fn := fun _ => fun
  | [d] => { results := [.lit (.bool false)], args := [d] }
  | _ => none }
def FnDiamondWrongFalsely : Prop := fnDiamondRow.holds Try.pinned (OpenSpec.ofChange fnDiamondWrong)

/-- 'laws.FnOver': WHATEVER THE INPUT: true; the input reads as it did. -/
def fnOverSpec : ChangeSpec := { name := "fnOver", fn := fun _ => fun
  | [d] => { results := [.lit (.bool true)], args := [d] }
  | _ => none }
def fnOverRow : OpenClaim := { program := "ytoagljlnfakgjaa", sum := "d1d6ea4191c44c9b5a0bc18a9d1a82b464b154b2818f4a1e7542c7d6dee4a09e", func := "loop.example/g00253/laws.FnOver", spec := "fnOver", unfollowed := true, recurses := true, apart := false }
def FnOverSaid : Prop := fnOverRow.holds Try.pinned (OpenSpec.ofChange fnOverSpec)

/-- ITS FALSE NEIGHBOUR: 'it returns false'. Refute it at one input. -/
def fnOverWrong : ChangeSpec := { name := "fnOver", fn := fun _ => fun
  | [d] => { results := [.lit (.bool false)], args := [d] }
  | _ => none }
def FnOverWrongFalsely : Prop := fnOverRow.holds Try.pinned (OpenSpec.ofChange fnOverWrong)

/- THE SECOND FORM. 'bulk': how many values and letters a reading holds, each counted each time it is reached (what is shared counts as often as it is met; a slice's spare places count too). A statement '..UptoSaid' is the law's where the arguments, and the package variables that the reading takes, are together of bulk at most 1048576: NARROWER than '..Said'. Prove '..Said' where nothing that the law and all that it calls make is longer than what came in: it says more and counts as full. Else prove '..UptoSaid'. A law counts once. -/
mutual
def uptoBulk {H : Type} : DataW H → Nat
  | .lit (.string bytes) => bytes.length + 1
  | .lit _ => 1
  | .nil => 1
  | .ptr d => uptoBulk d + 1
  | .slice elems spare => uptoBulkAll elems + uptoBulkAll spare + 1
  | .agg parts => uptoBulkAll parts + 1
  | .iface _ d => uptoBulk d + 1
  | .map entries => uptoBulkEntries entries + 1
  | .held _ => 1
def uptoBulkAll {H : Type} : List (DataW H) → Nat
  | [] => 0
  | d :: r => uptoBulk d + uptoBulkAll r
def uptoBulkEntries {H : Type} : List (Lit × DataW H) → Nat
  | [] => 0
  | x :: r => uptoBulkEntry x + uptoBulkEntries r
def uptoBulkEntry {H : Type} : Lit × DataW H → Nat
  | (.string bytes, d) => bytes.length + uptoBulk d + 1
  | (_, d) => uptoBulk d + 1
 end
def uptoSmall : (H : Type) → List (DataW H) → Bool := fun _ ds => decide (uptoBulkAll ds ≤ 1048576)
def OpenSpec.upto (s : _root_.Go.ChangeSpec) : _root_.Go.OpenSpec := { _root_.Go.OpenSpec.ofChange s with cond := some uptoSmall }

/-- 'laws.FnExactSameTexts', WHERE WHAT IT READS IS OF BULK AT MOST 1048576: true; the input reads as it did. -/
def fnExactSameTextsUptoRow : OpenClaim := { program := "ytoagljlnfakgjaa", sum := "d1d6ea4191c44c9b5a0bc18a9d1a82b464b154b2818f4a1e7542c7d6dee4a09e", func := "loop.example/g00253/laws.FnExactSameTexts", spec := "fnExactSameTexts", unfollowed := true, recurses := true, apart := false, narrowed := true }
def FnExactSameTextsUptoSaid : Prop := fnExactSameTextsUptoRow.holds Try.pinned (OpenSpec.upto fnExactSameTextsSpec)

/-- 'laws.FnExactClashesOf', WHERE WHAT IT READS IS OF BULK AT MOST 1048576: true; the input reads as it did. -/
def fnExactClashesOfUptoRow : OpenClaim := { program := "ytoagljlnfakgjaa", sum := "d1d6ea4191c44c9b5a0bc18a9d1a82b464b154b2818f4a1e7542c7d6dee4a09e", func := "loop.example/g00253/laws.FnExactClashesOf", spec := "fnExactClashesOf", unfollowed := true, recurses := true, apart := false, narrowed := true }
def FnExactClashesOfUptoSaid : Prop := fnExactClashesOfUptoRow.holds Try.pinned (OpenSpec.upto fnExactClashesOfSpec)

/-- 'laws.FnExactTransformOps', WHERE WHAT IT READS IS OF BULK AT MOST 1048576: true; the input reads as it did. -/
def fnExactTransformOpsUptoRow : OpenClaim := { program := "ytoagljlnfakgjaa", sum := "d1d6ea4191c44c9b5a0bc18a9d1a82b464b154b2818f4a1e7542c7d6dee4a09e", func := "loop.example/g00253/laws.FnExactTransformOps", spec := "fnExactTransformOps", unfollowed := true, recurses := true, apart := false, narrowed := true }
def FnExactTransformOpsUptoSaid : Prop := fnExactTransformOpsUptoRow.holds Try.pinned (OpenSpec.upto fnExactTransformOpsSpec)

/-- 'laws.FnExactTransformOver', WHERE WHAT IT READS IS OF BULK AT MOST 1048576: true; the input reads as it did. -/
def fnExactTransformOverUptoRow : OpenClaim := { program := "ytoagljlnfakgjaa", sum := "d1d6ea4191c44c9b5a0bc18a9d1a82b464b154b2818f4a1e7542c7d6dee4a09e", func := "loop.example/g00253/laws.FnExactTransformOver", spec := "fnExactTransformOver", unfollowed := true, recurses := true, apart := false, narrowed := true }
def FnExactTransformOverUptoSaid : Prop := fnExactTransformOverUptoRow.holds Try.pinned (OpenSpec.upto fnExactTransformOverSpec)

/-- 'laws.FnDiamond', WHERE WHAT IT READS IS OF BULK AT MOST 1048576: true; the input reads as it did. -/
def fnDiamondUptoRow : OpenClaim := { program := "ytoagljlnfakgjaa", sum := "d1d6ea4191c44c9b5a0bc18a9d1a82b464b154b2818f4a1e7542c7d6dee4a09e", func := "loop.example/g00253/laws.FnDiamond", spec := "fnDiamond", unfollowed := true, recurses := true, apart := false, narrowed := true }
def FnDiamondUptoSaid : Prop := fnDiamondUptoRow.holds Try.pinned (OpenSpec.upto fnDiamondSpec)

/-- 'laws.FnOver', WHERE WHAT IT READS IS OF BULK AT MOST 1048576: true; the input reads as it did. -/
def fnOverUptoRow : OpenClaim := { program := "ytoagljlnfakgjaa", sum := "d1d6ea4191c44c9b5a0bc18a9d1a82b464b154b2818f4a1e7542c7d6dee4a09e", func := "loop.example/g00253/laws.FnOver", spec := "fnOver", unfollowed := true, recurses := true, apart := false, narrowed := true }
def FnOverUptoSaid : Prop := fnOverUptoRow.holds Try.pinned (OpenSpec.upto fnOverSpec)

end Rows
end Go.Proofs.Ytoagljlnfakgjaa
