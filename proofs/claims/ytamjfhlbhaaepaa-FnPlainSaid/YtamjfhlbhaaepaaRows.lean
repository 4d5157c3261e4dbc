/-
  No cell of these rows narrows 'for every input' (looked for: loops, veiled, ifaces, maps, wideKeys, modest, calm, conditions, laid).
  DERIVED. THE GIVEN ROWS OF THIS SEAT. 12 by the template 'for every input the law returns true; each argument reads behind the call as it read before'; 0 by the template 'total and deterministic' (their statements: YtamjfhlbhaaepaaTotals.lean).
  GIVEN WITH THE SEED: the statements are not yours to turn. If you find one false, say at which input.
  Laid BY PROGRAM, IN A SANDBOX (cutbox-rows.mjs): the forced cells as the released guide's own fill.sh prints them over the translation 1040a102c5fef405… (all of the seat's roots in one cut). By AI agents, Wed Nov 11 2026. No macro, syntax, notation, axiom, sorry.
-/
import Derived.Test.YtamjfhlbhaaepaaChecked
import GoSem.Claim
import GoSem.ClaimJoined
import GoSem.ClaimMapViews
import Derived.JoinedTies
import Derived.KernelRfl
namespace Go.Proofs.Ytamjfhlbhaaepaa
/- THE CELL 'sum', in the pinned program and in every row, IS THE sha256 OF THE DUMP (.gsa) THAT YtamjfhlbhaaepaaProg.lean LOADS. Nothing in Lean hashes anything: it is a label: what it is worth is what the hold of that sum in a sandbox is worth. -/
noncomputable def Try.pinned : Pinned := { name := "ytamjfhlbhaaepaa", sum := "1040a102c5fef405f4f6f992669d87c78951350f40803693197d06f72b5531ba", checked := Try.checked }
namespace Rows
def none {H : Type} : Left H := { results := [], args := [] }

/-- 'laws.FnExactConstants': WHATEVER THE INPUT: true; the input reads as it did. -/
def fnExactConstantsSpec : ChangeSpec := { name := "fnExactConstants", fn := fun _ => fun
  | [] => { results := [.lit (.bool true)], args := [] }
  | _ => none }
def fnExactConstantsRow : OpenClaim := { program := "ytamjfhlbhaaepaa", sum := "1040a102c5fef405f4f6f992669d87c78951350f40803693197d06f72b5531ba", func := "loop.example/g00253/laws.FnExactConstants", spec := "fnExactConstants", apart := false }
def FnExactConstantsSaid : Prop := fnExactConstantsRow.holds Try.pinned (OpenSpec.ofChange fnExactConstantsSpec)

/-- ITS FALSE NEIGHBOUR: 'it returns false'. Refute it at one input. -/
def fnExactConstantsWrong : ChangeSpec := { name := "fnExactConstants", fn := fun _ => fun
  | [] => { results := [.lit (.bool false)], args := [] }
  | _ => none }
def FnExactConstantsWrongFalsely : Prop := fnExactConstantsRow.holds Try.pinned (OpenSpec.ofChange fnExactConstantsWrong)

/-- 'laws.FnExactGoodText': WHATEVER THE INPUT: true; the input reads as it did. -/
def fnExactGoodTextSpec : ChangeSpec := { name := "fnExactGoodText", fn := fun _ => fun
  | [d] => { results := [.lit (.bool true)], args := [d] }
  | _ => none }
def fnExactGoodTextRow : OpenClaim := { program := "ytamjfhlbhaaepaa", sum := "1040a102c5fef405f4f6f992669d87c78951350f40803693197d06f72b5531ba", func := "loop.example/g00253/laws.FnExactGoodText", spec := "fnExactGoodText", apart := false }
def FnExactGoodTextSaid : Prop := fnExactGoodTextRow.holds Try.pinned (OpenSpec.ofChange fnExactGoodTextSpec)

/-- ITS FALSE NEIGHBOUR: 'it returns false'. Refute it at one input. -/
def fnExactGoodTextWrong : ChangeSpec := { name := "fnExactGoodText", fn := fun _ => fun
  | [d] => { results := [.lit (.bool false)], args := [d] }
  | _ => none }
def FnExactGoodTextWrongFalsely : Prop := fnExactGoodTextRow.holds Try.pinned (OpenSpec.ofChange fnExactGoodTextWrong)

/-- 'laws.FnExactGoodDoc': WHATEVER THE INPUT: true; the input reads as it did. -/
def fnExactGoodDocSpec : ChangeSpec := { name := "fnExactGoodDoc", fn := fun _ => fun
  | [d] => { results := [.lit (.bool true)], args := [d] }
  | _ => none }
def fnExactGoodDocRow : OpenClaim := { program := "ytamjfhlbhaaepaa", sum := "1040a102c5fef405f4f6f992669d87c78951350f40803693197d06f72b5531ba", func := "loop.example/g00253/laws.FnExactGoodDoc", spec := "fnExactGoodDoc", apart := false }
def FnExactGoodDocSaid : Prop := fnExactGoodDocRow.holds Try.pinned (OpenSpec.ofChange fnExactGoodDocSpec)

/-- ITS FALSE NEIGHBOUR: 'it returns false'. Refute it at one input. -/
def fnExactGoodDocWrong : ChangeSpec := { name := "fnExactGoodDoc", fn := fun _ => fun
  | [d] => { results := [.lit (.bool false)], args := [d] }
  | _ => none }
def FnExactGoodDocWrongFalsely : Prop := fnExactGoodDocRow.holds Try.pinned (OpenSpec.ofChange fnExactGoodDocWrong)

/-- 'laws.FnExactOutlineOf': WHATEVER THE INPUT: true; the input reads as it did. -/
def fnExactOutlineOfSpec : ChangeSpec := { name := "fnExactOutlineOf", fn := fun _ => fun
  | [d] => { results := [.lit (.bool true)], args := [d] }
  | _ => none }
def fnExactOutlineOfRow : OpenClaim := { program := "ytamjfhlbhaaepaa", sum := "1040a102c5fef405f4f6f992669d87c78951350f40803693197d06f72b5531ba", func := "loop.example/g00253/laws.FnExactOutlineOf", spec := "fnExactOutlineOf", inPlace := ["internal/abi.NoEscape"], unfollowed := true, recurses := true, apart := false }
def FnExactOutlineOfSaid : Prop := fnExactOutlineOfRow.holds Try.pinned (OpenSpec.ofChange fnExactOutlineOfSpec)

/-- ITS FALSE NEIGHBOUR: 'it returns false'. Refute it at one input. -/
def fnExactOutlineOfWrong : ChangeSpec := { name := "fnExactOutlineOf", fn := fun _ => fun
  | [d] => { results := [.lit (.bool false)], args := [d] }
  | _ => none }
def FnExactOutlineOfWrongFalsely : Prop := fnExactOutlineOfRow.holds Try.pinned (OpenSpec.ofChange fnExactOutlineOfWrong)

/-- 'laws.FnExactPlainOf': WHATEVER THE INPUT: true; the input reads as it did. -/
def fnExactPlainOfSpec : ChangeSpec := { name := "fnExactPlainOf", fn := fun _ => fun
  | [d] => { results := [.lit (.bool true)], args := [d] }
  | _ => none }
def fnExactPlainOfRow : OpenClaim := { program := "ytamjfhlbhaaepaa", sum := "1040a102c5fef405f4f6f992669d87c78951350f40803693197d06f72b5531ba", func := "loop.example/g00253/laws.FnExactPlainOf", spec := "fnExactPlainOf", inPlace := ["internal/abi.NoEscape"], unfollowed := true, recurses := true, apart := false }
def FnExactPlainOfSaid : Prop := fnExactPlainOfRow.holds Try.pinned (OpenSpec.ofChange fnExactPlainOfSpec)

/-- ITS FALSE NEIGHBOUR: 'it returns false'. Refute it at one input. -/
def fnExactPlainOfWrong : ChangeSpec := { name := "fnExactPlainOf", fn := fun _ => fun
  | [d] => { results := [.lit (.bool false)], args := [d] }
  | _ => none }
def FnExactPlainOfWrongFalsely : Prop := fnExactPlainOfRow.holds Try.pinned (OpenSpec.ofChange fnExactPlainOfWrong)

/-- 'laws.FnExactSafePlace': WHATEVER THE INPUT: true; the input reads as it did. -/
def fnExactSafePlaceSpec : ChangeSpec := { name := "fnExactSafePlace", fn := fun _ => fun
  | [d1, d2, d3] => { results := [.lit (.bool true)], args := [d1, d2, d3] }
  | _ => none }
def fnExactSafePlaceRow : OpenClaim := { program := "ytamjfhlbhaaepaa", sum := "1040a102c5fef405f4f6f992669d87c78951350f40803693197d06f72b5531ba", func := "loop.example/g00253/laws.FnExactSafePlace", spec := "fnExactSafePlace", apart := false }
def FnExactSafePlaceSaid : Prop := fnExactSafePlaceRow.holds Try.pinned (OpenSpec.ofChange fnExactSafePlaceSpec)

/-- ITS FALSE NEIGHBOUR: 'it returns false'. Refute it at one input. -/
def fnExactSafePlaceWrong : ChangeSpec := { name := "fnExactSafePlace", fn := fun _ => fun
  | [d1, d2, d3] => { results := [.lit (.bool false)], args := [d1, d2, d3] }
  | _ => none }
def FnExactSafePlaceWrongFalsely : Prop := fnExactSafePlaceRow.holds Try.pinned (OpenSpec.ofChange fnExactSafePlaceWrong)

/-- 'laws.FnExactMatchOf': WHATEVER THE INPUT: true; the input reads as it did. -/
def fnExactMatchOfSpec : ChangeSpec := { name := "fnExactMatchOf", fn := fun _ => fun
  | [d1, d2] => { results := [.lit (.bool true)], args := [d1, d2] }
  | _ => none }
def fnExactMatchOfRow : OpenClaim := { program := "ytamjfhlbhaaepaa", sum := "1040a102c5fef405f4f6f992669d87c78951350f40803693197d06f72b5531ba", func := "loop.example/g00253/laws.FnExactMatchOf", spec := "fnExactMatchOf", apart := false }
def FnExactMatchOfSaid : Prop := fnExactMatchOfRow.holds Try.pinned (OpenSpec.ofChange fnExactMatchOfSpec)

/-- ITS FALSE NEIGHBOUR: 'it returns false'. Refute it at one input. -/
def fnExactMatchOfWrong : ChangeSpec := { name := "fnExactMatchOf", fn := fun _ => fun
  | [d1, d2] => { results := [.lit (.bool false)], args := [d1, d2] }
  | _ => none }
def FnExactMatchOfWrongFalsely : Prop := fnExactMatchOfRow.holds Try.pinned (OpenSpec.ofChange fnExactMatchOfWrong)

/-- 'laws.FnExactDepthAt': WHATEVER THE INPUT: true; the input reads as it did. -/
def fnExactDepthAtSpec : ChangeSpec := { name := "fnExactDepthAt", fn := fun _ => fun
  | [d1, d2] => { results := [.lit (.bool true)], args := [d1, d2] }
  | _ => none }
def fnExactDepthAtRow : OpenClaim := { program := "ytamjfhlbhaaepaa", sum := "1040a102c5fef405f4f6f992669d87c78951350f40803693197d06f72b5531ba", func := "loop.example/g00253/laws.FnExactDepthAt", spec := "fnExactDepthAt", apart := false }
def FnExactDepthAtSaid : Prop := fnExactDepthAtRow.holds Try.pinned (OpenSpec.ofChange fnExactDepthAtSpec)

/-- ITS FALSE NEIGHBOUR: 'it returns false'. Refute it at one input. -/
def fnExactDepthAtWrong : ChangeSpec := { name := "fnExactDepthAt", fn := fun _ => fun
  | [d1, d2] => { results := [.lit (.bool false)], args := [d1, d2] }
  | _ => none }
def FnExactDepthAtWrongFalsely : Prop := fnExactDepthAtRow.holds Try.pinned (OpenSpec.ofChange fnExactDepthAtWrong)

/-- 'laws.FnExactInnerOf': WHATEVER THE INPUT: true; the input reads as it did. -/
def fnExactInnerOfSpec : ChangeSpec := { name := "fnExactInnerOf", fn := fun _ => fun
  | [d1, d2] => { results := [.lit (.bool true)], args := [d1, d2] }
  | _ => none }
def fnExactInnerOfRow : OpenClaim := { program := "ytamjfhlbhaaepaa", sum := "1040a102c5fef405f4f6f992669d87c78951350f40803693197d06f72b5531ba", func := "loop.example/g00253/laws.FnExactInnerOf", spec := "fnExactInnerOf", apart := false }
def FnExactInnerOfSaid : Prop := fnExactInnerOfRow.holds Try.pinned (OpenSpec.ofChange fnExactInnerOfSpec)

/-- ITS FALSE NEIGHBOUR: 'it returns false'. Refute it at one input. -/
def fnExactInnerOfWrong : ChangeSpec := { name := "fnExactInnerOf", fn := fun _ => fun
  | [d1, d2] => { results := [.lit (.bool false)], args := [d1, d2] }
  | _ => none }
def FnExactInnerOfWrongFalsely : Prop := fnExactInnerOfRow.holds Try.pinned (OpenSpec.ofChange fnExactInnerOfWrong)

/-- 'laws.FnExactCountOf': WHATEVER THE INPUT: true; the input reads as it did. -/
def fnExactCountOfSpec : ChangeSpec := { name := "fnExactCountOf", fn := fun _ => fun
  | [d1, d2] => { results := [.lit (.bool true)], args := [d1, d2] }
  | _ => none }
def fnExactCountOfRow : OpenClaim := { program := "ytamjfhlbhaaepaa", sum := "1040a102c5fef405f4f6f992669d87c78951350f40803693197d06f72b5531ba", func := "loop.example/g00253/laws.FnExactCountOf", spec := "fnExactCountOf", inPlace := ["internal/bytealg.CountString", "internal/bytealg.IndexByteString", "internal/bytealg.IndexString"], named := ["internal/bytealg.MaxLen"], apart := false }
def FnExactCountOfSaid : Prop := fnExactCountOfRow.holds Try.pinned (OpenSpec.ofChange fnExactCountOfSpec)

/-- ITS FALSE NEIGHBOUR: 'it returns false'. Refute it at one input. -/
def fnExactCountOfWrong : ChangeSpec := { name := "fnExactCountOf", fn := fun _ => fun
  | [d1, d2] => { results := [.lit (.bool false)], args := [d1, d2] }
  | _ => none }
def FnExactCountOfWrongFalsely : Prop := fnExactCountOfRow.holds Try.pinned (OpenSpec.ofChange fnExactCountOfWrong)

/-- 'laws.FnDocs': WHATEVER THE INPUT: true; the input reads as it did. -/
def fnDocsSpec : ChangeSpec := { name := "fnDocs", fn := fun _ => fun
  | [d] => { results := [.lit (.bool true)], args := [d] }
  | _ => none }
def fnDocsRow : OpenClaim := { program := "ytamjfhlbhaaepaa", sum := "1040a102c5fef405f4f6f992669d87c78951350f40803693197d06f72b5531ba", func := "loop.example/g00253/laws.FnDocs", spec := "fnDocs", recurses := true, apart := false }
def FnDocsSaid : Prop := fnDocsRow.holds Try.pinned (OpenSpec.ofChange fnDocsSpec)

/-- ITS FALSE NEIGHBOUR: 'it returns false'. Refute it at one input. -/
def fnDocsWrong : ChangeSpec := { name := "fnDocs", fn := fun _ => fun
  | [d] => { results := [.lit (.bool false)], args := [d] }
  | _ => none }
def FnDocsWrongFalsely : Prop := fnDocsRow.holds Try.pinned (OpenSpec.ofChange fnDocsWrong)

/-- 'laws.FnPlain': WHATEVER THE INPUT: true; the input reads as it did. -/
def fnPlainSpec : ChangeSpec := { name := "fnPlain", fn := fun _ => fun
  | [d1, d2] => { results := [.lit (.bool true)], args := [d1, d2] }
  | _ => none }
def fnPlainRow : OpenClaim := { program := "ytamjfhlbhaaepaa", sum := "1040a102c5fef405f4f6f992669d87c78951350f40803693197d06f72b5531ba", func := "loop.example/g00253/laws.FnPlain", spec := "fnPlain", inPlace := ["internal/abi.NoEscape", "internal/bytealg.CountString", "internal/bytealg.IndexByteString", "internal/bytealg.IndexString"], unfollowed := true, recurses := true, named := ["internal/bytealg.MaxLen"], apart := false }
def FnPlainSaid : Prop := fnPlainRow.holds Try.pinned (OpenSpec.ofChange fnPlainSpec)

/-- ITS FALSE NEIGHBOUR: 'it returns false'. Refute it at one input. -/
def fnPlainWrong : ChangeSpec := { name := "fnPlain", fn := fun _ => fun
  | [d1, d2] => { results := [.lit (.bool false)], args := [d1, d2] }
  | _ => none }
def FnPlainWrongFalsely : Prop := fnPlainRow.holds Try.pinned (OpenSpec.ofChange fnPlainWrong)

/- THE SECOND FORM. 'bulk': how many values and letters a reading holds, each counted each time it is reached (what is shared counts as often as it is met; a slice's spare places count too). A statement '..UptoSaid' is the law's where the arguments, and the package variables that the reading takes, are together of bulk at most 1048576: NARROWER than '..Said'. Prove '..Said' where nothing that the law and all that it calls make is longer than what came in: it says more and counts as full. Else prove '..UptoSaid'. A law counts once. -/
mutual
def uptoBulk {H : Type} : DataW H → Nat
  | .lit (.string bytes) => bytes.length + 1
  | .lit _ => 1
  | .nil => 1
  | .ptr d => uptoBulk d + 1
  | .slice elems spare => uptoBulkAll elems + uptoBulkAll spare + 1
  | .agg parts => uptoBulkAll parts + 1
  | .iface _ d => uptoBulk d + 1
  | .map entries => uptoBulkEntries entries + 1
  | .held _ => 1
def uptoBulkAll {H : Type} : List (DataW H) → Nat
  | [] => 0
  | d :: r => uptoBulk d + uptoBulkAll r
def uptoBulkEntries {H : Type} : List (Lit × DataW H) → Nat
  | [] => 0
  | x :: r => uptoBulkEntry x + uptoBulkEntries r
def uptoBulkEntry {H : Type} : Lit × DataW H → Nat
  | (.string bytes, d) => bytes.length + uptoBulk d + 1
  | (_, d) => uptoBulk d + 1
 end
def uptoSmall : (H : Type) → List (DataW H) → Bool := fun _ ds => decide (uptoBulkAll ds ≤ 1048576)
def OpenSpec.upto (s : _root_.Go.ChangeSpec) : _root_.Go.OpenSpec := { _root_.Go.OpenSpec.ofChange s with cond := some uptoSmall }

/-- 'laws.FnExactConstants', WHERE WHAT IT READS IS OF BULK AT MOST 1048576: true; the input reads as it did. -/
def fnExactConstantsUptoRow : OpenClaim := { program := "ytamjfhlbhaaepaa", sum := "1040a102c5fef405f4f6f992669d87c78951350f40803693197d06f72b5531ba", func := "loop.example/g00253/laws.FnExactConstants", spec := "fnExactConstants", apart := false, narrowed := true }
def FnExactConstantsUptoSaid : Prop := fnExactConstantsUptoRow.holds Try.pinned (OpenSpec.upto fnExactConstantsSpec)

/-- 'laws.FnExactGoodText', WHERE WHAT IT READS IS OF BULK AT MOST 1048576: true; the input reads as it did. -/
def fnExactGoodTextUptoRow : OpenClaim := { program := "ytamjfhlbhaaepaa", sum := "1040a102c5fef405f4f6f992669d87c78951350f40803693197d06f72b5531ba", func := "loop.example/g00253/laws.FnExactGoodText", spec := "fnExactGoodText", apart := false, narrowed := true }
def FnExactGoodTextUptoSaid : Prop := fnExactGoodTextUptoRow.holds Try.pinned (OpenSpec.upto fnExactGoodTextSpec)

/-- 'laws.FnExactGoodDoc', WHERE WHAT IT READS IS OF BULK AT MOST 1048576: true; the input reads as it did. -/
def fnExactGoodDocUptoRow : OpenClaim := { program := "ytamjfhlbhaaepaa", sum := "1040a102c5fef405f4f6f992669d87c78951350f40803693197d06f72b5531ba", func := "loop.example/g00253/laws.FnExactGoodDoc", spec := "fnExactGoodDoc", apart := false, narrowed := true }
def FnExactGoodDocUptoSaid : Prop := fnExactGoodDocUptoRow.holds Try.pinned (OpenSpec.upto fnExactGoodDocSpec)

/-- 'laws.FnExactOutlineOf', WHERE WHAT IT READS IS OF BULK AT MOST 1048576: true; the input reads as it did. -/
def fnExactOutlineOfUptoRow : OpenClaim := { program := "ytamjfhlbhaaepaa", sum := "1040a102c5fef405f4f6f992669d87c78951350f40803693197d06f72b5531ba", func := "loop.example/g00253/laws.FnExactOutlineOf", spec := "fnExactOutlineOf", inPlace := ["internal/abi.NoEscape"], unfollowed := true, recurses := true, apart := false, narrowed := true }
def FnExactOutlineOfUptoSaid : Prop := fnExactOutlineOfUptoRow.holds Try.pinned (OpenSpec.upto fnExactOutlineOfSpec)

/-- 'laws.FnExactPlainOf', WHERE WHAT IT READS IS OF BULK AT MOST 1048576: true; the input reads as it did. -/
def fnExactPlainOfUptoRow : OpenClaim := { program := "ytamjfhlbhaaepaa", sum := "1040a102c5fef405f4f6f992669d87c78951350f40803693197d06f72b5531ba", func := "loop.example/g00253/laws.FnExactPlainOf", spec := "fnExactPlainOf", inPlace := ["internal/abi.NoEscape"], unfollowed := true, recurses := true, apart := false, narrowed := true }
def FnExactPlainOfUptoSaid : Prop := fnExactPlainOfUptoRow.holds Try.pinned (OpenSpec.upto fnExactPlainOfSpec)

/-- 'laws.FnExactSafePlace', WHERE WHAT IT READS IS OF BULK AT MOST 1048576: true; the input reads as it did. -/
def fnExactSafePlaceUptoRow : OpenClaim := { program := "ytamjfhlbhaaepaa", sum := "1040a102c5fef405f4f6f992669d87c78951350f40803693197d06f72b5531ba", func := "loop.example/g00253/laws.FnExactSafePlace", spec := "fnExactSafePlace", apart := false, narrowed := true }
def FnExactSafePlaceUptoSaid : Prop := fnExactSafePlaceUptoRow.holds Try.pinned (OpenSpec.upto fnExactSafePlaceSpec)

/-- 'laws.FnExactMatchOf', WHERE WHAT IT READS IS OF BULK AT MOST 1048576: true; the input reads as it did. -/
def fnExactMatchOfUptoRow : OpenClaim := { program := "ytamjfhlbhaaepaa", sum := "1040a102c5fef405f4f6f992669d87c78951350f40803693197d06f72b5531ba", func := "loop.example/g00253/laws.FnExactMatchOf", spec := "fnExactMatchOf", apart := false, narrowed := true }
def FnExactMatchOfUptoSaid : Prop := fnExactMatchOfUptoRow.holds Try.pinned (OpenSpec.upto fnExactMatchOfSpec)

/-- 'laws.FnExactDepthAt', WHERE WHAT IT READS IS OF BULK AT MOST 1048576: true; the input reads as it did. -/
def fnExactDepthAtUptoRow : OpenClaim := { program := "ytamjfhlbhaaepaa", sum := "1040a102c5fef405f4f6f992669d87c78951350f40803693197d06f72b5531ba", func := "loop.example/g00253/laws.FnExactDepthAt", spec := "fnExactDepthAt", apart := false, narrowed := true }
def FnExactDepthAtUptoSaid : Prop := fnExactDepthAtUptoRow.holds Try.pinned (OpenSpec.upto fnExactDepthAtSpec)

/-- 'laws.FnExactInnerOf', WHERE WHAT IT READS IS OF BULK AT MOST 1048576: true; the input reads as it did. -/
def fnExactInnerOfUptoRow : OpenClaim := { program := "ytamjfhlbhaaepaa", sum := "1040a102c5fef405f4f6f992669d87c78951350f40803693197d06f72b5531ba", func := "loop.example/g00253/laws.FnExactInnerOf", spec := "fnExactInnerOf", apart := false, narrowed := true }
def FnExactInnerOfUptoSaid : Prop := fnExactInnerOfUptoRow.holds Try.pinned (OpenSpec.upto fnExactInnerOfSpec)

/-- 'laws.FnExactCountOf', WHERE WHAT IT READS IS OF BULK AT MOST 1048576: true; the input reads as it did. -/
def fnExactCountOfUptoRow : OpenClaim := { program := "ytamjfhlbhaaepaa", sum := "1040a102c5fef405f4f6f992669d87c78951350f40803693197d06f72b5531ba", func := "loop.example/g00253/laws.FnExactCountOf", spec := "fnExactCountOf", inPlace := ["internal/bytealg.CountString", "internal/bytealg.IndexByteString", "internal/bytealg.IndexString"], named := ["internal/bytealg.MaxLen"], apart := false, narrowed := true }
def FnExactCountOfUptoSaid : Prop := fnExactCountOfUptoRow.holds Try.pinned (OpenSpec.upto fnExactCountOfSpec)

/-- 'laws.FnDocs', WHERE WHAT IT READS IS OF BULK AT MOST 1048576: true; the input reads as it did. -/
def fnDocsUptoRow : OpenClaim := { program := "ytamjfhlbhaaepaa", sum := "1040a102c5fef405f4f6f992669d87c78951350f40803693197d06f72b5531ba", func := "loop.example/g00253/laws.FnDocs", spec := "fnDocs", recurses := true, apart := false, narrowed := true }
def FnDocsUptoSaid : Prop := fnDocsUptoRow.holds Try.pinned (OpenSpec.upto fnDocsSpec)

/-- 'laws.FnPlain', WHERE WHAT IT READS IS OF BULK AT MOST 1048576: true; the input reads as it did. -/
def fnPlainUptoRow : OpenClaim := { program := "ytamjfhlbhaaepaa", sum := "1040a102c5fef405f4f6f992669d87c78951350f40803693197d06f72b5531ba", func := "loop.example/g00253/laws.FnPlain", spec := "fnPlain", inPlace := ["internal/abi.NoEscape", "internal/bytealg.CountString", "internal/bytealg.IndexByteString", "internal/bytealg.IndexString"], unfollowed := true, recurses := true, named := ["internal/bytealg.MaxLen"], apart := false, narrowed := true }
def FnPlainUptoSaid : Prop := fnPlainUptoRow.holds Try.pinned (OpenSpec.upto fnPlainSpec)

end Rows
end Go.Proofs.Ytamjfhlbhaaepaa
