/-
  No cell of these rows narrows 'for every input' (looked for: loops, veiled, ifaces, maps, wideKeys, modest, calm, conditions, laid).
  DERIVED. THE GIVEN ROWS OF THIS SEAT. 9 by the template 'for every input the law returns true; each argument reads behind the call as it read before'; 0 by the template 'total and deterministic' (their statements: YtheokilgacmlmaaTotals.lean).
  GIVEN WITH THE SEED: the statements are not yours to turn. If you find one false, say at which input.
  Laid BY PROGRAM, IN A SANDBOX (cutbox-rows.mjs): the forced cells as the released guide's own fill.sh prints them over the translation 4bb028b7bd8110ef… (all of the seat's roots in one cut). By AI agents, Wed Nov 11 2026. No macro, syntax, notation, axiom, sorry.
-/
import Derived.Test.YtheokilgacmlmaaChecked
import GoSem.Claim
import GoSem.ClaimJoined
import GoSem.ClaimMapViews
import Derived.JoinedTies
import Derived.KernelRfl
namespace Go.Proofs.Ytheokilgacmlmaa
/- THE CELL 'sum', in the pinned program and in every row, IS THE sha256 OF THE DUMP (.gsa) THAT YtheokilgacmlmaaProg.lean LOADS. Nothing in Lean hashes anything: it is a label: what it is worth is what the hold of that sum in a sandbox is worth. -/
noncomputable def Try.pinned : Pinned := { name := "ytheokilgacmlmaa", sum := "4bb028b7bd8110ef510c54eae2240a09f81ccd8ed69e774e1b616b97ead2dafa", checked := Try.checked }
namespace Rows
def none {H : Type} : Left H := { results := [], args := [] }

/-- 'laws.FnExactWorstRegion': WHATEVER THE INPUT: true; the input reads as it did. -/
def fnExactWorstRegionSpec : ChangeSpec := { name := "fnExactWorstRegion", fn := fun _ => fun
  | [d1, d2] => { results := [.lit (.bool true)], args := [d1, d2] }
  | _ => none }
def fnExactWorstRegionRow : OpenClaim := { program := "ytheokilgacmlmaa", sum := "4bb028b7bd8110ef510c54eae2240a09f81ccd8ed69e774e1b616b97ead2dafa", func := "loop.example/g01011/laws.FnExactWorstRegion", spec := "fnExactWorstRegion", unfollowed := true, recurses := true, apart := false }
def FnExactWorstRegionSaid : Prop := fnExactWorstRegionRow.holds Try.pinned (OpenSpec.ofChange fnExactWorstRegionSpec)

/-- ITS FALSE NEIGHBOUR: 'it returns false'. Refute it at one input. -/
def fnExactWorstRegionWrong : ChangeSpec := { name := "fnExactWorstRegion", fn := fun _ => fun
  | [d1, d2] => { results := [.lit (.bool false)], args := [d1, d2] }
  | _ => none }
def FnExactWorstRegionWrongFalsely : Prop := fnExactWorstRegionRow.holds Try.pinned (OpenSpec.ofChange fnExactWorstRegionWrong)

/-- 'laws.FnExactRegionNodes': WHATEVER THE INPUT: true; the input reads as it did. -/
def fnExactRegionNodesSpec : ChangeSpec := { name := "fnExactRegionNodes", fn := fun _ => fun
  | [d1, d2, d3] => { results := [.lit (.bool true)], args := [d1, d2, d3] }
  | _ => none }
def fnExactRegionNodesRow : OpenClaim := { program := "ytheokilgacmlmaa", sum := "4bb028b7bd8110ef510c54eae2240a09f81ccd8ed69e774e1b616b97ead2dafa", func := "loop.example/g01011/laws.FnExactRegionNodes", spec := "fnExactRegionNodes", unfollowed := true, recurses := true, apart := false }
def FnExactRegionNodesSaid : Prop := fnExactRegionNodesRow.holds Try.pinned (OpenSpec.ofChange fnExactRegionNodesSpec)

/-- ITS FALSE NEIGHBOUR: 'it returns false'. Refute it at one input. -/
def fnExactRegionNodesWrong : ChangeSpec := { name := "fnExactRegionNodes", fn := fun _ => fun
  | [d1, d2, d3] => { results := [.lit (.bool false)], args := [d1, d2, d3] }
  | _ => none }
def FnExactRegionNodesWrongFalsely : Prop := fnExactRegionNodesRow.holds Try.pinned (OpenSpec.ofChange fnExactRegionNodesWrong)

/-- 'laws.FnExactRegionPipes': WHATEVER THE INPUT: true; the input reads as it did. -/
def fnExactRegionPipesSpec : ChangeSpec := { name := "fnExactRegionPipes", fn := fun _ => fun
  | [d1, d2, d3] => { results := [.lit (.bool true)], args := [d1, d2, d3] }
  | _ => none }
def fnExactRegionPipesRow : OpenClaim := { program := "ytheokilgacmlmaa", sum := "4bb028b7bd8110ef510c54eae2240a09f81ccd8ed69e774e1b616b97ead2dafa", func := "loop.example/g01011/laws.FnExactRegionPipes", spec := "fnExactRegionPipes", unfollowed := true, recurses := true, apart := false }
def FnExactRegionPipesSaid : Prop := fnExactRegionPipesRow.holds Try.pinned (OpenSpec.ofChange fnExactRegionPipesSpec)

/-- ITS FALSE NEIGHBOUR: 'it returns false'. Refute it at one input. -/
def fnExactRegionPipesWrong : ChangeSpec := { name := "fnExactRegionPipes", fn := fun _ => fun
  | [d1, d2, d3] => { results := [.lit (.bool false)], args := [d1, d2, d3] }
  | _ => none }
def FnExactRegionPipesWrongFalsely : Prop := fnExactRegionPipesRow.holds Try.pinned (OpenSpec.ofChange fnExactRegionPipesWrong)

/-- 'laws.FnExactPipesBehind': WHATEVER THE INPUT: true; the input reads as it did. -/
def fnExactPipesBehindSpec : ChangeSpec := { name := "fnExactPipesBehind", fn := fun _ => fun
  | [d1, d2, d3, d4] => { results := [.lit (.bool true)], args := [d1, d2, d3, d4] }
  | _ => none }
def fnExactPipesBehindRow : OpenClaim := { program := "ytheokilgacmlmaa", sum := "4bb028b7bd8110ef510c54eae2240a09f81ccd8ed69e774e1b616b97ead2dafa", func := "loop.example/g01011/laws.FnExactPipesBehind", spec := "fnExactPipesBehind", unfollowed := true, recurses := true, apart := false }
def FnExactPipesBehindSaid : Prop := fnExactPipesBehindRow.holds Try.pinned (OpenSpec.ofChange fnExactPipesBehindSpec)

/-- ITS FALSE NEIGHBOUR: 'it returns false'. Refute it at one input. -/
def fnExactPipesBehindWrong : ChangeSpec := { name := "fnExactPipesBehind", fn := fun _ => fun
  | [d1, d2, d3, d4] => { results := [.lit (.bool false)], args := [d1, d2, d3, d4] }
  | _ => none }
def FnExactPipesBehindWrongFalsely : Prop := fnExactPipesBehindRow.holds Try.pinned (OpenSpec.ofChange fnExactPipesBehindWrong)

/-- 'laws.FnExactBestPlace': WHATEVER THE INPUT: true; the input reads as it did. -/
def fnExactBestPlaceSpec : ChangeSpec := { name := "fnExactBestPlace", fn := fun _ => fun
  | [d1, d2, d3] => { results := [.lit (.bool true)], args := [d1, d2, d3] }
  | _ => none }
def fnExactBestPlaceRow : OpenClaim := { program := "ytheokilgacmlmaa", sum := "4bb028b7bd8110ef510c54eae2240a09f81ccd8ed69e774e1b616b97ead2dafa", func := "loop.example/g01011/laws.FnExactBestPlace", spec := "fnExactBestPlace", unfollowed := true, recurses := true, apart := false }
def FnExactBestPlaceSaid : Prop := fnExactBestPlaceRow.holds Try.pinned (OpenSpec.ofChange fnExactBestPlaceSpec)

/-- ITS FALSE NEIGHBOUR: 'it returns false'. Refute it at one input. -/
def fnExactBestPlaceWrong : ChangeSpec := { name := "fnExactBestPlace", fn := fun _ => fun
  | [d1, d2, d3] => { results := [.lit (.bool false)], args := [d1, d2, d3] }
  | _ => none }
def FnExactBestPlaceWrongFalsely : Prop := fnExactBestPlaceRow.holds Try.pinned (OpenSpec.ofChange fnExactBestPlaceWrong)

/-- 'laws.FnExactValvesToClose': WHATEVER THE INPUT: true; the input reads as it did. -/
def fnExactValvesToCloseSpec : ChangeSpec := { name := "fnExactValvesToClose", fn := fun _ => fun
  | [d1, d2, d3] => { results := [.lit (.bool true)], args := [d1, d2, d3] }
  | _ => none }
def fnExactValvesToCloseRow : OpenClaim := { program := "ytheokilgacmlmaa", sum := "4bb028b7bd8110ef510c54eae2240a09f81ccd8ed69e774e1b616b97ead2dafa", func := "loop.example/g01011/laws.FnExactValvesToClose", spec := "fnExactValvesToClose", unfollowed := true, recurses := true, apart := false }
def FnExactValvesToCloseSaid : Prop := fnExactValvesToCloseRow.holds Try.pinned (OpenSpec.ofChange fnExactValvesToCloseSpec)

/-- ITS FALSE NEIGHBOUR: 'it returns false'. Refute it at one input. -/
def fnExactValvesToCloseWrong : ChangeSpec := { name := "fnExactValvesToClose", fn := fun _ => fun
  | [d1, d2, d3] => { results := [.lit (.bool false)], args := [d1, d2, d3] }
  | _ => none }
def FnExactValvesToCloseWrongFalsely : Prop := fnExactValvesToCloseRow.holds Try.pinned (OpenSpec.ofChange fnExactValvesToCloseWrong)

/-- 'laws.FnExactNeedlessValves': WHATEVER THE INPUT: true; the input reads as it did. -/
def fnExactNeedlessValvesSpec : ChangeSpec := { name := "fnExactNeedlessValves", fn := fun _ => fun
  | [d1, d2] => { results := [.lit (.bool true)], args := [d1, d2] }
  | _ => none }
def fnExactNeedlessValvesRow : OpenClaim := { program := "ytheokilgacmlmaa", sum := "4bb028b7bd8110ef510c54eae2240a09f81ccd8ed69e774e1b616b97ead2dafa", func := "loop.example/g01011/laws.FnExactNeedlessValves", spec := "fnExactNeedlessValves", unfollowed := true, recurses := true, apart := false }
def FnExactNeedlessValvesSaid : Prop := fnExactNeedlessValvesRow.holds Try.pinned (OpenSpec.ofChange fnExactNeedlessValvesSpec)

/-- ITS FALSE NEIGHBOUR: 'it returns false'. Refute it at one input. -/
def fnExactNeedlessValvesWrong : ChangeSpec := { name := "fnExactNeedlessValves", fn := fun _ => fun
  | [d1, d2] => { results := [.lit (.bool false)], args := [d1, d2] }
  | _ => none }
def FnExactNeedlessValvesWrongFalsely : Prop := fnExactNeedlessValvesRow.holds Try.pinned (OpenSpec.ofChange fnExactNeedlessValvesWrong)

/-- 'laws.FnExactCutNodes': WHATEVER THE INPUT: true; the input reads as it did. -/
def fnExactCutNodesSpec : ChangeSpec := { name := "fnExactCutNodes", fn := fun _ => fun
  | [d1, d2, d3, d4] => { results := [.lit (.bool true)], args := [d1, d2, d3, d4] }
  | _ => none }
def fnExactCutNodesRow : OpenClaim := { program := "ytheokilgacmlmaa", sum := "4bb028b7bd8110ef510c54eae2240a09f81ccd8ed69e774e1b616b97ead2dafa", func := "loop.example/g01011/laws.FnExactCutNodes", spec := "fnExactCutNodes", unfollowed := true, recurses := true, apart := false }
def FnExactCutNodesSaid : Prop := fnExactCutNodesRow.holds Try.pinned (OpenSpec.ofChange fnExactCutNodesSpec)

/-- ITS FALSE NEIGHBOUR: 'it returns false'. Refute it at one input. -/
def fnExactCutNodesWrong : ChangeSpec := { name := "fnExactCutNodes", fn := fun _ => fun
  | [d1, d2, d3, d4] => { results := [.lit (.bool false)], args := [d1, d2, d3, d4] }
  | _ => none }
def FnExactCutNodesWrongFalsely : Prop := fnExactCutNodesRow.holds Try.pinned (OpenSpec.ofChange fnExactCutNodesWrong)

/-- 'laws.FnValves': WHATEVER THE INPUT: true; the input reads as it did. -/
def fnValvesSpec : ChangeSpec := { name := "fnValves", fn := fun _ => fun
  | [d1, d2] => { results := [.lit (.bool true)], args := [d1, d2] }
  | _ => none }
def fnValvesRow : OpenClaim := { program := "ytheokilgacmlmaa", sum := "4bb028b7bd8110ef510c54eae2240a09f81ccd8ed69e774e1b616b97ead2dafa", func := "loop.example/g01011/laws.FnValves", spec := "fnValves", unfollowed := true, recurses := true, apart := false }
def FnValvesSaid : Prop := fnValvesRow.holds Try.pinned (OpenSpec.ofChange fnValvesSpec)

/-- ITS FALSE NEIGHBOUR: 'it returns false'. Refute it at one input. -/
def fnValvesWrong : ChangeSpec := { name := "fnValves", fn := fun _ => fun
  | [d1, d2] => { results := [.lit (.bool false)], args := [d1, d2] }
  | _ => none }
def FnValvesWrongFalsely : Prop := fnValvesRow.holds Try.pinned (OpenSpec.ofChange fnValvesWrong)

/- THE SECOND FORM. 'bulk': how many values and letters a reading holds, each counted each time it is reached (what is shared counts as often as it is met; a slice's spare places count too). A statement '..UptoSaid' is the law's where the arguments, and the package variables that the reading takes, are together of bulk at most 1048576: NARROWER than '..Said'. Prove '..Said' where nothing that the law and all that it calls make is longer than what came in: it says more and counts as full. Else prove '..UptoSaid'. A law counts once. -/
mutual
def uptoBulk {H : Type} : DataW H → Nat
  | .lit (.string bytes) => bytes.length + 1
  | .lit _ => 1
  | .nil => 1
  | .ptr d => uptoBulk d + 1
  | .slice elems spare => uptoBulkAll elems + uptoBulkAll spare + 1
  | .agg parts => uptoBulkAll parts + 1
  | .iface _ d => uptoBulk d + 1
  | .map entries => uptoBulkEntries entries + 1
  | .held _ => 1
def uptoBulkAll {H : Type} : List (DataW H) → Nat
  | [] => 0
  | d :: r => uptoBulk d + uptoBulkAll r
def uptoBulkEntries {H : Type} : List (Lit × DataW H) → Nat
  | [] => 0
  | x :: r => uptoBulkEntry x + uptoBulkEntries r
def uptoBulkEntry {H : Type} : Lit × DataW H → Nat
  | (.string bytes, d) => bytes.length + uptoBulk d + 1
  | (_, d) => uptoBulk d + 1
 end
def uptoSmall : (H : Type) → List (DataW H) → Bool := fun _ ds => decide (uptoBulkAll ds ≤ 1048576)
def OpenSpec.upto (s : _root_.Go.ChangeSpec) : _root_.Go.OpenSpec := { _root_.Go.OpenSpec.ofChange s with cond := some uptoSmall }

/-- 'laws.FnExactWorstRegion', WHERE WHAT IT READS IS OF BULK AT MOST 1048576: true; the input reads as it did. -/
def fnExactWorstRegionUptoRow : OpenClaim := { program := "ytheokilgacmlmaa", sum := "4bb028b7bd8110ef510c54eae2240a09f81ccd8ed69e774e1b616b97ead2dafa", func := "loop.example/g01011/laws.FnExactWorstRegion", spec := "fnExactWorstRegion", unfollowed := true, recurses := true, apart := false, narrowed := true }
def FnExactWorstRegionUptoSaid : Prop := fnExactWorstRegionUptoRow.holds Try.pinned (OpenSpec.upto fnExactWorstRegionSpec)

/-- 'laws.FnExactRegionNodes', WHERE WHAT IT READS IS OF BULK AT MOST 1048576: true; the input reads as it did. -/
def fnExactRegionNodesUptoRow : OpenClaim := { program := "ytheokilgacmlmaa", sum := "4bb028b7bd8110ef510c54eae2240a09f81ccd8ed69e774e1b616b97ead2dafa", func := "loop.example/g01011/laws.FnExactRegionNodes", spec := "fnExactRegionNodes", unfollowed := true, recurses := true, apart := false, narrowed := true }
def FnExactRegionNodesUptoSaid : Prop := fnExactRegionNodesUptoRow.holds Try.pinned (OpenSpec.upto fnExactRegionNodesSpec)

/-- 'laws.FnExactRegionPipes', WHERE WHAT IT READS IS OF BULK AT MOST 1048576: true; the input reads as it did. -/
def fnExactRegionPipesUptoRow : OpenClaim := { program := "ytheokilgacmlmaa", sum := "4bb028b7bd8110ef510c54eae2240a09f81ccd8ed69e774e1b616b97ead2dafa", func := "loop.example/g01011/laws.FnExactRegionPipes", spec := "fnExactRegionPipes", unfollowed := true, recurses := true, apart := false, narrowed := true }
def FnExactRegionPipesUptoSaid : Prop := fnExactRegionPipesUptoRow.holds Try.pinned (OpenSpec.upto fnExactRegionPipesSpec)

/-- 'laws.FnExactPipesBehind', WHERE WHAT IT READS IS OF BULK AT MOST 1048576: true; the input reads as it did. -/
def fnExactPipesBehindUptoRow : OpenClaim := { program := "ytheokilgacmlmaa", sum := "4bb028b7bd8110ef510c54eae2240a09f81ccd8ed69e774e1b616b97ead2dafa", func := "loop.example/g01011/laws.FnExactPipesBehind", spec := "fnExactPipesBehind", unfollowed := true, recurses := true, apart := false, narrowed := true }
def FnExactPipesBehindUptoSaid : Prop := fnExactPipesBehindUptoRow.holds Try.pinned (OpenSpec.upto fnExactPipesBehindSpec)

/-- 'laws.FnExactBestPlace', WHERE WHAT IT READS IS OF BULK AT MOST 1048576: true; the input reads as it did. -/
def fnExactBestPlaceUptoRow : OpenClaim := { program := "ytheokilgacmlmaa", sum := "4bb028b7bd8110ef510c54eae2240a09f81ccd8ed69e774e1b616b97ead2dafa", func := "loop.example/g01011/laws.FnExactBestPlace", spec := "fnExactBestPlace", unfollowed := true, recurses := true, apart := false, narrowed := true }
def FnExactBestPlaceUptoSaid : Prop := fnExactBestPlaceUptoRow.holds Try.pinned (OpenSpec.upto fnExactBestPlaceSpec)

/-- 'laws.FnExactValvesToClose', WHERE WHAT IT READS IS OF BULK AT MOST 1048576: true; the input reads as it did. -/
def fnExactValvesToCloseUptoRow : OpenClaim := { program := "ytheokilgacmlmaa", sum := "4bb028b7bd8110ef510c54eae2240a09f81ccd8ed69e774e1b616b97ead2dafa", func := "loop.example/g01011/laws.FnExactValvesToClose", spec := "fnExactValvesToClose", unfollowed := true, recurses := true, apart := false, narrowed := true }
def FnExactValvesToCloseUptoSaid : Prop := fnExactValvesToCloseUptoRow.holds Try.pinned (OpenSpec.upto fnExactValvesToCloseSpec)

/-- 'laws.FnExactNeedlessValves', WHERE WHAT IT READS IS OF BULK AT MOST 1048576: true; the input reads as it did. -/
def fnExactNeedlessValvesUptoRow : OpenClaim := { program := "ytheokilgacmlmaa", sum := "4bb028b7bd8110ef510c54eae2240a09f81ccd8ed69e774e1b616b97ead2dafa", func := "loop.example/g01011/laws.FnExactNeedlessValves", spec := "fnExactNeedlessValves", unfollowed := true, recurses := true, apart := false, narrowed := true }
def FnExactNeedlessValvesUptoSaid : Prop := fnExactNeedlessValvesUptoRow.holds Try.pinned (OpenSpec.upto fnExactNeedlessValvesSpec)

/-- 'laws.FnExactCutNodes', WHERE WHAT IT READS IS OF BULK AT MOST 1048576: true; the input reads as it did. -/
def fnExactCutNodesUptoRow : OpenClaim := { program := "ytheokilgacmlmaa", sum := "4bb028b7bd8110ef510c54eae2240a09f81ccd8ed69e774e1b616b97ead2dafa", func := "loop.example/g01011/laws.FnExactCutNodes", spec := "fnExactCutNodes", unfollowed := true, recurses := true, apart := false, narrowed := true }
def FnExactCutNodesUptoSaid : Prop := fnExactCutNodesUptoRow.holds Try.pinned (OpenSpec.upto fnExactCutNodesSpec)

/-- 'laws.FnValves', WHERE WHAT IT READS IS OF BULK AT MOST 1048576: true; the input reads as it did. -/
def fnValvesUptoRow : OpenClaim := { program := "ytheokilgacmlmaa", sum := "4bb028b7bd8110ef510c54eae2240a09f81ccd8ed69e774e1b616b97ead2dafa", func := "loop.example/g01011/laws.FnValves", spec := "fnValves", unfollowed := true, recurses := true, apart := false, narrowed := true }
def FnValvesUptoSaid : Prop := fnValvesUptoRow.holds Try.pinned (OpenSpec.upto fnValvesSpec)

end Rows
end Go.Proofs.Ytheokilgacmlmaa
