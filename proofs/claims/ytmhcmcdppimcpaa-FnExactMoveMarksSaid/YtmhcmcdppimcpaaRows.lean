/-
  No cell of these rows narrows 'for every input' (looked for: loops, veiled, ifaces, maps, wideKeys, modest, calm, conditions, laid).
  DERIVED. THE GIVEN ROWS OF THIS SEAT. 8 by the template 'for every input the law returns true; each argument reads behind the call as it read before'; 0 by the template 'total and deterministic' (their statements: YtmhcmcdppimcpaaTotals.lean).
  GIVEN WITH THE SEED: the statements are not yours to turn. If you find one false, say at which input.
  Laid BY PROGRAM, IN A SANDBOX (cutbox-rows.mjs): the forced cells as the released guide's own fill.sh prints them over the translation abd47e6e293410dd… (all of the seat's roots in one cut). By AI agents, Wed Nov 11 2026. No macro, syntax, notation, axiom, sorry.
-/
import Derived.Test.YtmhcmcdppimcpaaChecked
import GoSem.Claim
import GoSem.ClaimJoined
import GoSem.ClaimMapViews
import Derived.JoinedTies
import Derived.KernelRfl
namespace Go.Proofs.Ytmhcmcdppimcpaa
/- THE CELL 'sum', in the pinned program and in every row, IS THE sha256 OF THE DUMP (.gsa) THAT YtmhcmcdppimcpaaProg.lean LOADS. Nothing in Lean hashes anything: it is a label: what it is worth is what the hold of that sum in a sandbox is worth. -/
noncomputable def Try.pinned : Pinned := { name := "ytmhcmcdppimcpaa", sum := "abd47e6e293410dd7283e4f65fd506c4c4b034f9a9151442f0d8c70d70cdb052", checked := Try.checked }
namespace Rows
def none {H : Type} : Left H := { results := [], args := [] }

/-- 'laws.FnExactGoodMarks': WHATEVER THE INPUT: true; the input reads as it did. -/
def fnExactGoodMarksSpec : ChangeSpec := { name := "fnExactGoodMarks", fn := fun _ => fun
  | [d1, d2] => { results := [.lit (.bool true)], args := [d1, d2] }
  | _ => none }
def fnExactGoodMarksRow : OpenClaim := { program := "ytmhcmcdppimcpaa", sum := "abd47e6e293410dd7283e4f65fd506c4c4b034f9a9151442f0d8c70d70cdb052", func := "loop.example/g00253/laws.FnExactGoodMarks", spec := "fnExactGoodMarks", apart := false }
def FnExactGoodMarksSaid : Prop := fnExactGoodMarksRow.holds Try.pinned (OpenSpec.ofChange fnExactGoodMarksSpec)

/-- ITS FALSE NEIGHBOUR: 'it returns false'. Refute it at one input. -/
def fnExactGoodMarksWrong : ChangeSpec := { name := "fnExactGoodMarks", fn := fun _ => fun
  | [d1, d2] => { results := [.lit (.bool false)], args := [d1, d2] }
  | _ => none }
def FnExactGoodMarksWrongFalsely : Prop := fnExactGoodMarksRow.holds Try.pinned (OpenSpec.ofChange fnExactGoodMarksWrong)

/-- 'laws.FnExactCoveredBy': WHATEVER THE INPUT: true; the input reads as it did. -/
def fnExactCoveredBySpec : ChangeSpec := { name := "fnExactCoveredBy", fn := fun _ => fun
  | [d1, d2, d3] => { results := [.lit (.bool true)], args := [d1, d2, d3] }
  | _ => none }
def fnExactCoveredByRow : OpenClaim := { program := "ytmhcmcdppimcpaa", sum := "abd47e6e293410dd7283e4f65fd506c4c4b034f9a9151442f0d8c70d70cdb052", func := "loop.example/g00253/laws.FnExactCoveredBy", spec := "fnExactCoveredBy", apart := false }
def FnExactCoveredBySaid : Prop := fnExactCoveredByRow.holds Try.pinned (OpenSpec.ofChange fnExactCoveredBySpec)

/-- ITS FALSE NEIGHBOUR: 'it returns false'. Refute it at one input. -/
def fnExactCoveredByWrong : ChangeSpec := { name := "fnExactCoveredBy", fn := fun _ => fun
  | [d1, d2, d3] => { results := [.lit (.bool false)], args := [d1, d2, d3] }
  | _ => none }
def FnExactCoveredByWrongFalsely : Prop := fnExactCoveredByRow.holds Try.pinned (OpenSpec.ofChange fnExactCoveredByWrong)

/-- 'laws.FnExactStylesAt': WHATEVER THE INPUT: true; the input reads as it did. -/
def fnExactStylesAtSpec : ChangeSpec := { name := "fnExactStylesAt", fn := fun _ => fun
  | [d1, d2, d3] => { results := [.lit (.bool true)], args := [d1, d2, d3] }
  | _ => none }
def fnExactStylesAtRow : OpenClaim := { program := "ytmhcmcdppimcpaa", sum := "abd47e6e293410dd7283e4f65fd506c4c4b034f9a9151442f0d8c70d70cdb052", func := "loop.example/g00253/laws.FnExactStylesAt", spec := "fnExactStylesAt", apart := false }
def FnExactStylesAtSaid : Prop := fnExactStylesAtRow.holds Try.pinned (OpenSpec.ofChange fnExactStylesAtSpec)

/-- ITS FALSE NEIGHBOUR: 'it returns false'. Refute it at one input. -/
def fnExactStylesAtWrong : ChangeSpec := { name := "fnExactStylesAt", fn := fun _ => fun
  | [d1, d2, d3] => { results := [.lit (.bool false)], args := [d1, d2, d3] }
  | _ => none }
def FnExactStylesAtWrongFalsely : Prop := fnExactStylesAtRow.holds Try.pinned (OpenSpec.ofChange fnExactStylesAtWrong)

/-- 'laws.FnExactCutMarks': WHATEVER THE INPUT: true; the input reads as it did. -/
def fnExactCutMarksSpec : ChangeSpec := { name := "fnExactCutMarks", fn := fun _ => fun
  | [d1, d2, d3, d4, d5] => { results := [.lit (.bool true)], args := [d1, d2, d3, d4, d5] }
  | _ => none }
def fnExactCutMarksRow : OpenClaim := { program := "ytmhcmcdppimcpaa", sum := "abd47e6e293410dd7283e4f65fd506c4c4b034f9a9151442f0d8c70d70cdb052", func := "loop.example/g00253/laws.FnExactCutMarks", spec := "fnExactCutMarks", apart := false }
def FnExactCutMarksSaid : Prop := fnExactCutMarksRow.holds Try.pinned (OpenSpec.ofChange fnExactCutMarksSpec)

/-- ITS FALSE NEIGHBOUR: 'it returns false'. Refute it at one input. -/
def fnExactCutMarksWrong : ChangeSpec := { name := "fnExactCutMarks", fn := fun _ => fun
  | [d1, d2, d3, d4, d5] => { results := [.lit (.bool false)], args := [d1, d2, d3, d4, d5] }
  | _ => none }
def FnExactCutMarksWrongFalsely : Prop := fnExactCutMarksRow.holds Try.pinned (OpenSpec.ofChange fnExactCutMarksWrong)

/-- 'laws.FnExactMoveMarks': WHATEVER THE INPUT: true; the input reads as it did. -/
def fnExactMoveMarksSpec : ChangeSpec := { name := "fnExactMoveMarks", fn := fun _ => fun
  | [d1, d2] => { results := [.lit (.bool true)], args := [d1, d2] }
  | _ => none }
def fnExactMoveMarksRow : OpenClaim := { program := "ytmhcmcdppimcpaa", sum := "abd47e6e293410dd7283e4f65fd506c4c4b034f9a9151442f0d8c70d70cdb052", func := "loop.example/g00253/laws.FnExactMoveMarks", spec := "fnExactMoveMarks", inPlace := ["internal/bytealg.abigen_runtime_cmpstring"], unfollowed := true, recurses := true, apart := false }
def FnExactMoveMarksSaid : Prop := fnExactMoveMarksRow.holds Try.pinned (OpenSpec.ofChange fnExactMoveMarksSpec)

/-- ITS FALSE NEIGHBOUR: 'it returns false'. Refute it at one input. -/
def fnExactMoveMarksWrong : ChangeSpec := { name := "fnExactMoveMarks", fn := fun _ => fun
  | [d1, d2] => { results := [.lit (.bool false)], args := [d1, d2] }
  | _ => none }
def FnExactMoveMarksWrongFalsely : Prop := fnExactMoveMarksRow.holds Try.pinned (OpenSpec.ofChange fnExactMoveMarksWrong)

/-- 'laws.FnExactMovePlace': WHATEVER THE INPUT: true; the input reads as it did. -/
def fnExactMovePlaceSpec : ChangeSpec := { name := "fnExactMovePlace", fn := fun _ => fun
  | [d1, d2, d3] => { results := [.lit (.bool true)], args := [d1, d2, d3] }
  | _ => none }
def fnExactMovePlaceRow : OpenClaim := { program := "ytmhcmcdppimcpaa", sum := "abd47e6e293410dd7283e4f65fd506c4c4b034f9a9151442f0d8c70d70cdb052", func := "loop.example/g00253/laws.FnExactMovePlace", spec := "fnExactMovePlace", unfollowed := true, recurses := true, apart := false }
def FnExactMovePlaceSaid : Prop := fnExactMovePlaceRow.holds Try.pinned (OpenSpec.ofChange fnExactMovePlaceSpec)

/-- ITS FALSE NEIGHBOUR: 'it returns false'. Refute it at one input. -/
def fnExactMovePlaceWrong : ChangeSpec := { name := "fnExactMovePlace", fn := fun _ => fun
  | [d1, d2, d3] => { results := [.lit (.bool false)], args := [d1, d2, d3] }
  | _ => none }
def FnExactMovePlaceWrongFalsely : Prop := fnExactMovePlaceRow.holds Try.pinned (OpenSpec.ofChange fnExactMovePlaceWrong)

/-- 'laws.FnPlaces': WHATEVER THE INPUT: true; the input reads as it did. -/
def fnPlacesSpec : ChangeSpec := { name := "fnPlaces", fn := fun _ => fun
  | [d1, d2] => { results := [.lit (.bool true)], args := [d1, d2] }
  | _ => none }
def fnPlacesRow : OpenClaim := { program := "ytmhcmcdppimcpaa", sum := "abd47e6e293410dd7283e4f65fd506c4c4b034f9a9151442f0d8c70d70cdb052", func := "loop.example/g00253/laws.FnPlaces", spec := "fnPlaces", unfollowed := true, recurses := true, apart := false }
def FnPlacesSaid : Prop := fnPlacesRow.holds Try.pinned (OpenSpec.ofChange fnPlacesSpec)

/-- ITS FALSE NEIGHBOUR: 'it returns false'. Refute it at one input. -/
def fnPlacesWrong : ChangeSpec := { name := "fnPlaces", fn := fun _ => fun
  | [d1, d2] => { results := [.lit (.bool false)], args := [d1, d2] }
  | _ => none }
def FnPlacesWrongFalsely : Prop := fnPlacesRow.holds Try.pinned (OpenSpec.ofChange fnPlacesWrong)

/-- 'laws.FnExactAddMark': WHATEVER THE INPUT: true; the input reads as it did. -/
def fnExactAddMarkSpec : ChangeSpec := { name := "fnExactAddMark", fn := fun _ => fun
  | [d1, d2, d3] => { results := [.lit (.bool true)], args := [d1, d2, d3] }
  | _ => none }
def fnExactAddMarkRow : OpenClaim := { program := "ytmhcmcdppimcpaa", sum := "abd47e6e293410dd7283e4f65fd506c4c4b034f9a9151442f0d8c70d70cdb052", func := "loop.example/g00253/laws.FnExactAddMark", spec := "fnExactAddMark", inPlace := ["internal/bytealg.abigen_runtime_cmpstring"], unfollowed := true, recurses := true, apart := false }
def FnExactAddMarkSaid : Prop := fnExactAddMarkRow.holds Try.pinned (OpenSpec.ofChange fnExactAddMarkSpec)

/-- ITS FALSE NEIGHBOUR: 'it returns false'. Refute it at one input. -/
def fnExactAddMarkWrong : ChangeSpec := { name := "fnExactAddMark", fn := fun _ => fun
  | [d1, d2, d3] => { results := [.lit (.bool false)], args := [d1, d2, d3] }
  | _ => none }
def FnExactAddMarkWrongFalsely : Prop := fnExactAddMarkRow.holds Try.pinned (OpenSpec.ofChange fnExactAddMarkWrong)

/- THE SECOND FORM. 'bulk': how many values and letters a reading holds, each counted each time it is reached (what is shared counts as often as it is met; a slice's spare places count too). A statement '..UptoSaid' is the law's where the arguments, and the package variables that the reading takes, are together of bulk at most 1048576: NARROWER than '..Said'. Prove '..Said' where nothing that the law and all that it calls make is longer than what came in: it says more and counts as full. Else prove '..UptoSaid'. A law counts once. -/
mutual
def uptoBulk {H : Type} : DataW H → Nat
  | .lit (.string bytes) => bytes.length + 1
  | .lit _ => 1
  | .nil => 1
  | .ptr d => uptoBulk d + 1
  | .slice elems spare => uptoBulkAll elems + uptoBulkAll spare + 1
  | .agg parts => uptoBulkAll parts + 1
  | .iface _ d => uptoBulk d + 1
  | .map entries => uptoBulkEntries entries + 1
  | .held _ => 1
def uptoBulkAll {H : Type} : List (DataW H) → Nat
  | [] => 0
  | d :: r => uptoBulk d + uptoBulkAll r
def uptoBulkEntries {H : Type} : List (Lit × DataW H) → Nat
  | [] => 0
  | x :: r => uptoBulkEntry x + uptoBulkEntries r
def uptoBulkEntry {H : Type} : Lit × DataW H → Nat
  | (.string bytes, d) => bytes.length + uptoBulk d + 1
  | (_, d) => uptoBulk d + 1
 end
def uptoSmall : (H : Type) → List (DataW H) → Bool := fun _ ds => decide (uptoBulkAll ds ≤ 1048576)
def OpenSpec.upto (s : _root_.Go.ChangeSpec) : _root_.Go.OpenSpec := { _root_.Go.OpenSpec.ofChange s with cond := some uptoSmall }

/-- 'laws.FnExactGoodMarks', WHERE WHAT IT READS IS OF BULK AT MOST 1048576: true; the input reads as it did. -/
def fnExactGoodMarksUptoRow : OpenClaim := { program := "ytmhcmcdppimcpaa", sum := "abd47e6e293410dd7283e4f65fd506c4c4b034f9a9151442f0d8c70d70cdb052", func := "loop.example/g00253/laws.FnExactGoodMarks", spec := "fnExactGoodMarks", apart := false, narrowed := true }
def FnExactGoodMarksUptoSaid : Prop := fnExactGoodMarksUptoRow.holds Try.pinned (OpenSpec.upto fnExactGoodMarksSpec)

/-- 'laws.FnExactCoveredBy', WHERE WHAT IT READS IS OF BULK AT MOST 1048576: true; the input reads as it did. -/
def fnExactCoveredByUptoRow : OpenClaim := { program := "ytmhcmcdppimcpaa", sum := "abd47e6e293410dd7283e4f65fd506c4c4b034f9a9151442f0d8c70d70cdb052", func := "loop.example/g00253/laws.FnExactCoveredBy", spec := "fnExactCoveredBy", apart := false, narrowed := true }
def FnExactCoveredByUptoSaid : Prop := fnExactCoveredByUptoRow.holds Try.pinned (OpenSpec.upto fnExactCoveredBySpec)

/-- 'laws.FnExactStylesAt', WHERE WHAT IT READS IS OF BULK AT MOST 1048576: true; the input reads as it did. -/
def fnExactStylesAtUptoRow : OpenClaim := { program := "ytmhcmcdppimcpaa", sum := "abd47e6e293410dd7283e4f65fd506c4c4b034f9a9151442f0d8c70d70cdb052", func := "loop.example/g00253/laws.FnExactStylesAt", spec := "fnExactStylesAt", apart := false, narrowed := true }
def FnExactStylesAtUptoSaid : Prop := fnExactStylesAtUptoRow.holds Try.pinned (OpenSpec.upto fnExactStylesAtSpec)

/-- 'laws.FnExactCutMarks', WHERE WHAT IT READS IS OF BULK AT MOST 1048576: true; the input reads as it did. -/
def fnExactCutMarksUptoRow : OpenClaim := { program := "ytmhcmcdppimcpaa", sum := "abd47e6e293410dd7283e4f65fd506c4c4b034f9a9151442f0d8c70d70cdb052", func := "loop.example/g00253/laws.FnExactCutMarks", spec := "fnExactCutMarks", apart := false, narrowed := true }
def FnExactCutMarksUptoSaid : Prop := fnExactCutMarksUptoRow.holds Try.pinned (OpenSpec.upto fnExactCutMarksSpec)

/-- 'laws.FnExactMoveMarks', WHERE WHAT IT READS IS OF BULK AT MOST 1048576: true; the input reads as it did. -/
def fnExactMoveMarksUptoRow : OpenClaim := { program := "ytmhcmcdppimcpaa", sum := "abd47e6e293410dd7283e4f65fd506c4c4b034f9a9151442f0d8c70d70cdb052", func := "loop.example/g00253/laws.FnExactMoveMarks", spec := "fnExactMoveMarks", inPlace := ["internal/bytealg.abigen_runtime_cmpstring"], unfollowed := true, recurses := true, apart := false, narrowed := true }
def FnExactMoveMarksUptoSaid : Prop := fnExactMoveMarksUptoRow.holds Try.pinned (OpenSpec.upto fnExactMoveMarksSpec)

/-- 'laws.FnExactMovePlace', WHERE WHAT IT READS IS OF BULK AT MOST 1048576: true; the input reads as it did. -/
def fnExactMovePlaceUptoRow : OpenClaim := { program := "ytmhcmcdppimcpaa", sum := "abd47e6e293410dd7283e4f65fd506c4c4b034f9a9151442f0d8c70d70cdb052", func := "loop.example/g00253/laws.FnExactMovePlace", spec := "fnExactMovePlace", unfollowed := true, recurses := true, apart := false, narrowed := true }
def FnExactMovePlaceUptoSaid : Prop := fnExactMovePlaceUptoRow.holds Try.pinned (OpenSpec.upto fnExactMovePlaceSpec)

/-- 'laws.FnPlaces', WHERE WHAT IT READS IS OF BULK AT MOST 1048576: true; the input reads as it did. -/
def fnPlacesUptoRow : OpenClaim := { program := "ytmhcmcdppimcpaa", sum := "abd47e6e293410dd7283e4f65fd506c4c4b034f9a9151442f0d8c70d70cdb052", func := "loop.example/g00253/laws.FnPlaces", spec := "fnPlaces", unfollowed := true, recurses := true, apart := false, narrowed := true }
def FnPlacesUptoSaid : Prop := fnPlacesUptoRow.holds Try.pinned (OpenSpec.upto fnPlacesSpec)

/-- 'laws.FnExactAddMark', WHERE WHAT IT READS IS OF BULK AT MOST 1048576: true; the input reads as it did. -/
def fnExactAddMarkUptoRow : OpenClaim := { program := "ytmhcmcdppimcpaa", sum := "abd47e6e293410dd7283e4f65fd506c4c4b034f9a9151442f0d8c70d70cdb052", func := "loop.example/g00253/laws.FnExactAddMark", spec := "fnExactAddMark", inPlace := ["internal/bytealg.abigen_runtime_cmpstring"], unfollowed := true, recurses := true, apart := false, narrowed := true }
def FnExactAddMarkUptoSaid : Prop := fnExactAddMarkUptoRow.holds Try.pinned (OpenSpec.upto fnExactAddMarkSpec)

end Rows
end Go.Proofs.Ytmhcmcdppimcpaa
