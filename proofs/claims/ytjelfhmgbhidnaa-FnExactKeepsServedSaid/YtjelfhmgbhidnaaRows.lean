/-
  No cell of these rows narrows 'for every input' (looked for: loops, veiled, ifaces, maps, wideKeys, modest, calm, conditions, laid).
  DERIVED. THE GIVEN ROWS OF THIS SEAT. 8 by the template 'for every input the law returns true; each argument reads behind the call as it read before'; 0 by the template 'total and deterministic' (their statements: YtjelfhmgbhidnaaTotals.lean).
  GIVEN WITH THE SEED: the statements are not yours to turn. If you find one false, say at which input.
  Laid BY PROGRAM, IN A SANDBOX (cutbox-rows.mjs): the forced cells as the released guide's own fill.sh prints them over the translation d9249fea2826a029… (all of the seat's roots in one cut). By AI agents, Wed Nov 11 2026. No macro, syntax, notation, axiom, sorry.
-/
import Derived.Test.YtjelfhmgbhidnaaChecked
import GoSem.Claim
import GoSem.ClaimJoined
import GoSem.ClaimMapViews
import Derived.JoinedTies
import Derived.KernelRfl
namespace Go.Proofs.Ytjelfhmgbhidnaa
/- THE CELL 'sum', in the pinned program and in every row, IS THE sha256 OF THE DUMP (.gsa) THAT YtjelfhmgbhidnaaProg.lean LOADS. Nothing in Lean hashes anything: it is a label: what it is worth is what the hold of that sum in a sandbox is worth. -/
noncomputable def Try.pinned : Pinned := { name := "ytjelfhmgbhidnaa", sum := "d9249fea2826a02976c9d939e3256f64334c0fb982b0af7f9ceb48559484428d", checked := Try.checked }
namespace Rows
def none {H : Type} : Left H := { results := [], args := [] }

/-- 'laws.FnExactValidValves': WHATEVER THE INPUT: true; the input reads as it did. -/
def fnExactValidValvesSpec : ChangeSpec := { name := "fnExactValidValves", fn := fun _ => fun
  | [d1, d2] => { results := [.lit (.bool true)], args := [d1, d2] }
  | _ => none }
def fnExactValidValvesRow : OpenClaim := { program := "ytjelfhmgbhidnaa", sum := "d9249fea2826a02976c9d939e3256f64334c0fb982b0af7f9ceb48559484428d", func := "loop.example/g01011/laws.FnExactValidValves", spec := "fnExactValidValves", unfollowed := true, recurses := true, apart := false }
def FnExactValidValvesSaid : Prop := fnExactValidValvesRow.holds Try.pinned (OpenSpec.ofChange fnExactValidValvesSpec)

/-- ITS FALSE NEIGHBOUR: 'it returns false'. Refute it at one input. -/
def fnExactValidValvesWrong : ChangeSpec := { name := "fnExactValidValves", fn := fun _ => fun
  | [d1, d2] => { results := [.lit (.bool false)], args := [d1, d2] }
  | _ => none }
def FnExactValidValvesWrongFalsely : Prop := fnExactValidValvesRow.holds Try.pinned (OpenSpec.ofChange fnExactValidValvesWrong)

/-- 'laws.FnExactValveNamed': WHATEVER THE INPUT: true; the input reads as it did. -/
def fnExactValveNamedSpec : ChangeSpec := { name := "fnExactValveNamed", fn := fun _ => fun
  | [d1, d2, d3] => { results := [.lit (.bool true)], args := [d1, d2, d3] }
  | _ => none }
def fnExactValveNamedRow : OpenClaim := { program := "ytjelfhmgbhidnaa", sum := "d9249fea2826a02976c9d939e3256f64334c0fb982b0af7f9ceb48559484428d", func := "loop.example/g01011/laws.FnExactValveNamed", spec := "fnExactValveNamed", unfollowed := true, recurses := true, apart := false }
def FnExactValveNamedSaid : Prop := fnExactValveNamedRow.holds Try.pinned (OpenSpec.ofChange fnExactValveNamedSpec)

/-- ITS FALSE NEIGHBOUR: 'it returns false'. Refute it at one input. -/
def fnExactValveNamedWrong : ChangeSpec := { name := "fnExactValveNamed", fn := fun _ => fun
  | [d1, d2, d3] => { results := [.lit (.bool false)], args := [d1, d2, d3] }
  | _ => none }
def FnExactValveNamedWrongFalsely : Prop := fnExactValveNamedRow.holds Try.pinned (OpenSpec.ofChange fnExactValveNamedWrong)

/-- 'laws.FnExactRouteTo': WHATEVER THE INPUT: true; the input reads as it did. -/
def fnExactRouteToSpec : ChangeSpec := { name := "fnExactRouteTo", fn := fun _ => fun
  | [d1, d2, d3, d4] => { results := [.lit (.bool true)], args := [d1, d2, d3, d4] }
  | _ => none }
def fnExactRouteToRow : OpenClaim := { program := "ytjelfhmgbhidnaa", sum := "d9249fea2826a02976c9d939e3256f64334c0fb982b0af7f9ceb48559484428d", func := "loop.example/g01011/laws.FnExactRouteTo", spec := "fnExactRouteTo", unfollowed := true, recurses := true, apart := false }
def FnExactRouteToSaid : Prop := fnExactRouteToRow.holds Try.pinned (OpenSpec.ofChange fnExactRouteToSpec)

/-- ITS FALSE NEIGHBOUR: 'it returns false'. Refute it at one input. -/
def fnExactRouteToWrong : ChangeSpec := { name := "fnExactRouteTo", fn := fun _ => fun
  | [d1, d2, d3, d4] => { results := [.lit (.bool false)], args := [d1, d2, d3, d4] }
  | _ => none }
def FnExactRouteToWrongFalsely : Prop := fnExactRouteToRow.holds Try.pinned (OpenSpec.ofChange fnExactRouteToWrong)

/-- 'laws.FnExactUnservedLoad': WHATEVER THE INPUT: true; the input reads as it did. -/
def fnExactUnservedLoadSpec : ChangeSpec := { name := "fnExactUnservedLoad", fn := fun _ => fun
  | [d1, d2, d3, d4] => { results := [.lit (.bool true)], args := [d1, d2, d3, d4] }
  | _ => none }
def fnExactUnservedLoadRow : OpenClaim := { program := "ytjelfhmgbhidnaa", sum := "d9249fea2826a02976c9d939e3256f64334c0fb982b0af7f9ceb48559484428d", func := "loop.example/g01011/laws.FnExactUnservedLoad", spec := "fnExactUnservedLoad", unfollowed := true, recurses := true, apart := false }
def FnExactUnservedLoadSaid : Prop := fnExactUnservedLoadRow.holds Try.pinned (OpenSpec.ofChange fnExactUnservedLoadSpec)

/-- ITS FALSE NEIGHBOUR: 'it returns false'. Refute it at one input. -/
def fnExactUnservedLoadWrong : ChangeSpec := { name := "fnExactUnservedLoad", fn := fun _ => fun
  | [d1, d2, d3, d4] => { results := [.lit (.bool false)], args := [d1, d2, d3, d4] }
  | _ => none }
def FnExactUnservedLoadWrongFalsely : Prop := fnExactUnservedLoadRow.holds Try.pinned (OpenSpec.ofChange fnExactUnservedLoadWrong)

/-- 'laws.FnExactServedNodes': WHATEVER THE INPUT: true; the input reads as it did. -/
def fnExactServedNodesSpec : ChangeSpec := { name := "fnExactServedNodes", fn := fun _ => fun
  | [d1, d2, d3] => { results := [.lit (.bool true)], args := [d1, d2, d3] }
  | _ => none }
def fnExactServedNodesRow : OpenClaim := { program := "ytjelfhmgbhidnaa", sum := "d9249fea2826a02976c9d939e3256f64334c0fb982b0af7f9ceb48559484428d", func := "loop.example/g01011/laws.FnExactServedNodes", spec := "fnExactServedNodes", unfollowed := true, recurses := true, apart := false }
def FnExactServedNodesSaid : Prop := fnExactServedNodesRow.holds Try.pinned (OpenSpec.ofChange fnExactServedNodesSpec)

/-- ITS FALSE NEIGHBOUR: 'it returns false'. Refute it at one input. -/
def fnExactServedNodesWrong : ChangeSpec := { name := "fnExactServedNodes", fn := fun _ => fun
  | [d1, d2, d3] => { results := [.lit (.bool false)], args := [d1, d2, d3] }
  | _ => none }
def FnExactServedNodesWrongFalsely : Prop := fnExactServedNodesRow.holds Try.pinned (OpenSpec.ofChange fnExactServedNodesWrong)

/-- 'laws.FnExactFirstLost': WHATEVER THE INPUT: true; the input reads as it did. -/
def fnExactFirstLostSpec : ChangeSpec := { name := "fnExactFirstLost", fn := fun _ => fun
  | [d1, d2, d3, d4, d5] => { results := [.lit (.bool true)], args := [d1, d2, d3, d4, d5] }
  | _ => none }
def fnExactFirstLostRow : OpenClaim := { program := "ytjelfhmgbhidnaa", sum := "d9249fea2826a02976c9d939e3256f64334c0fb982b0af7f9ceb48559484428d", func := "loop.example/g01011/laws.FnExactFirstLost", spec := "fnExactFirstLost", unfollowed := true, recurses := true, apart := false }
def FnExactFirstLostSaid : Prop := fnExactFirstLostRow.holds Try.pinned (OpenSpec.ofChange fnExactFirstLostSpec)

/-- ITS FALSE NEIGHBOUR: 'it returns false'. Refute it at one input. -/
def fnExactFirstLostWrong : ChangeSpec := { name := "fnExactFirstLost", fn := fun _ => fun
  | [d1, d2, d3, d4, d5] => { results := [.lit (.bool false)], args := [d1, d2, d3, d4, d5] }
  | _ => none }
def FnExactFirstLostWrongFalsely : Prop := fnExactFirstLostRow.holds Try.pinned (OpenSpec.ofChange fnExactFirstLostWrong)

/-- 'laws.FnExactKeepsServed': WHATEVER THE INPUT: true; the input reads as it did. -/
def fnExactKeepsServedSpec : ChangeSpec := { name := "fnExactKeepsServed", fn := fun _ => fun
  | [d1, d2, d3, d4, d5] => { results := [.lit (.bool true)], args := [d1, d2, d3, d4, d5] }
  | _ => none }
def fnExactKeepsServedRow : OpenClaim := { program := "ytjelfhmgbhidnaa", sum := "d9249fea2826a02976c9d939e3256f64334c0fb982b0af7f9ceb48559484428d", func := "loop.example/g01011/laws.FnExactKeepsServed", spec := "fnExactKeepsServed", unfollowed := true, recurses := true, apart := false }
def FnExactKeepsServedSaid : Prop := fnExactKeepsServedRow.holds Try.pinned (OpenSpec.ofChange fnExactKeepsServedSpec)

/-- ITS FALSE NEIGHBOUR: 'it returns false'. Refute it at one input. -/
def fnExactKeepsServedWrong : ChangeSpec := { name := "fnExactKeepsServed", fn := fun _ => fun
  | [d1, d2, d3, d4, d5] => { results := [.lit (.bool false)], args := [d1, d2, d3, d4, d5] }
  | _ => none }
def FnExactKeepsServedWrongFalsely : Prop := fnExactKeepsServedRow.holds Try.pinned (OpenSpec.ofChange fnExactKeepsServedWrong)

/-- 'laws.FnExactCriticalPipes': WHATEVER THE INPUT: true; the input reads as it did. -/
def fnExactCriticalPipesSpec : ChangeSpec := { name := "fnExactCriticalPipes", fn := fun _ => fun
  | [d1, d2, d3] => { results := [.lit (.bool true)], args := [d1, d2, d3] }
  | _ => none }
def fnExactCriticalPipesRow : OpenClaim := { program := "ytjelfhmgbhidnaa", sum := "d9249fea2826a02976c9d939e3256f64334c0fb982b0af7f9ceb48559484428d", func := "loop.example/g01011/laws.FnExactCriticalPipes", spec := "fnExactCriticalPipes", unfollowed := true, recurses := true, apart := false }
def FnExactCriticalPipesSaid : Prop := fnExactCriticalPipesRow.holds Try.pinned (OpenSpec.ofChange fnExactCriticalPipesSpec)

/-- ITS FALSE NEIGHBOUR: 'it returns false'. Refute it at one input. -/
def fnExactCriticalPipesWrong : ChangeSpec := { name := "fnExactCriticalPipes", fn := fun _ => fun
  | [d1, d2, d3] => { results := [.lit (.bool false)], args := [d1, d2, d3] }
  | _ => none }
def FnExactCriticalPipesWrongFalsely : Prop := fnExactCriticalPipesRow.holds Try.pinned (OpenSpec.ofChange fnExactCriticalPipesWrong)

/- THE SECOND FORM. 'bulk': how many values and letters a reading holds, each counted each time it is reached (what is shared counts as often as it is met; a slice's spare places count too). A statement '..UptoSaid' is the law's where the arguments, and the package variables that the reading takes, are together of bulk at most 1048576: NARROWER than '..Said'. Prove '..Said' where nothing that the law and all that it calls make is longer than what came in: it says more and counts as full. Else prove '..UptoSaid'. A law counts once. -/
mutual
def uptoBulk {H : Type} : DataW H → Nat
  | .lit (.string bytes) => bytes.length + 1
  | .lit _ => 1
  | .nil => 1
  | .ptr d => uptoBulk d + 1
  | .slice elems spare => uptoBulkAll elems + uptoBulkAll spare + 1
  | .agg parts => uptoBulkAll parts + 1
  | .iface _ d => uptoBulk d + 1
  | .map entries => uptoBulkEntries entries + 1
  | .held _ => 1
def uptoBulkAll {H : Type} : List (DataW H) → Nat
  | [] => 0
  | d :: r => uptoBulk d + uptoBulkAll r
def uptoBulkEntries {H : Type} : List (Lit × DataW H) → Nat
  | [] => 0
  | x :: r => uptoBulkEntry x + uptoBulkEntries r
def uptoBulkEntry {H : Type} : Lit × DataW H → Nat
  | (.string bytes, d) => bytes.length + uptoBulk d + 1
  | (_, d) => uptoBulk d + 1
 end
def uptoSmall : (H : Type) → List (DataW H) → Bool := fun _ ds => decide (uptoBulkAll ds ≤ 1048576)
def OpenSpec.upto (s : _root_.Go.ChangeSpec) : _root_.Go.OpenSpec := { _root_.Go.OpenSpec.ofChange s with cond := some uptoSmall }

/-- 'laws.FnExactValidValves', WHERE WHAT IT READS IS OF BULK AT MOST 1048576: true; the input reads as it did. -/
def fnExactValidValvesUptoRow : OpenClaim := { program := "ytjelfhmgbhidnaa", sum := "d9249fea2826a02976c9d939e3256f64334c0fb982b0af7f9ceb48559484428d", func := "loop.example/g01011/laws.FnExactValidValves", spec := "fnExactValidValves", unfollowed := true, recurses := true, apart := false, narrowed := true }
def FnExactValidValvesUptoSaid : Prop := fnExactValidValvesUptoRow.holds Try.pinned (OpenSpec.upto fnExactValidValvesSpec)

/-- 'laws.FnExactValveNamed', WHERE WHAT IT READS IS OF BULK AT MOST 1048576: true; the input reads as it did. -/
def fnExactValveNamedUptoRow : OpenClaim := { program := "ytjelfhmgbhidnaa", sum := "d9249fea2826a02976c9d939e3256f64334c0fb982b0af7f9ceb48559484428d", func := "loop.example/g01011/laws.FnExactValveNamed", spec := "fnExactValveNamed", unfollowed := true, recurses := true, apart := false, narrowed := true }
def FnExactValveNamedUptoSaid : Prop := fnExactValveNamedUptoRow.holds Try.pinned (OpenSpec.upto fnExactValveNamedSpec)

/-- 'laws.FnExactRouteTo', WHERE WHAT IT READS IS OF BULK AT MOST 1048576: true; the input reads as it did. -/
def fnExactRouteToUptoRow : OpenClaim := { program := "ytjelfhmgbhidnaa", sum := "d9249fea2826a02976c9d939e3256f64334c0fb982b0af7f9ceb48559484428d", func := "loop.example/g01011/laws.FnExactRouteTo", spec := "fnExactRouteTo", unfollowed := true, recurses := true, apart := false, narrowed := true }
def FnExactRouteToUptoSaid : Prop := fnExactRouteToUptoRow.holds Try.pinned (OpenSpec.upto fnExactRouteToSpec)

/-- 'laws.FnExactUnservedLoad', WHERE WHAT IT READS IS OF BULK AT MOST 1048576: true; the input reads as it did. -/
def fnExactUnservedLoadUptoRow : OpenClaim := { program := "ytjelfhmgbhidnaa", sum := "d9249fea2826a02976c9d939e3256f64334c0fb982b0af7f9ceb48559484428d", func := "loop.example/g01011/laws.FnExactUnservedLoad", spec := "fnExactUnservedLoad", unfollowed := true, recurses := true, apart := false, narrowed := true }
def FnExactUnservedLoadUptoSaid : Prop := fnExactUnservedLoadUptoRow.holds Try.pinned (OpenSpec.upto fnExactUnservedLoadSpec)

/-- 'laws.FnExactServedNodes', WHERE WHAT IT READS IS OF BULK AT MOST 1048576: true; the input reads as it did. -/
def fnExactServedNodesUptoRow : OpenClaim := { program := "ytjelfhmgbhidnaa", sum := "d9249fea2826a02976c9d939e3256f64334c0fb982b0af7f9ceb48559484428d", func := "loop.example/g01011/laws.FnExactServedNodes", spec := "fnExactServedNodes", unfollowed := true, recurses := true, apart := false, narrowed := true }
def FnExactServedNodesUptoSaid : Prop := fnExactServedNodesUptoRow.holds Try.pinned (OpenSpec.upto fnExactServedNodesSpec)

/-- 'laws.FnExactFirstLost', WHERE WHAT IT READS IS OF BULK AT MOST 1048576: true; the input reads as it did. -/
def fnExactFirstLostUptoRow : OpenClaim := { program := "ytjelfhmgbhidnaa", sum := "d9249fea2826a02976c9d939e3256f64334c0fb982b0af7f9ceb48559484428d", func := "loop.example/g01011/laws.FnExactFirstLost", spec := "fnExactFirstLost", unfollowed := true, recurses := true, apart := false, narrowed := true }
def FnExactFirstLostUptoSaid : Prop := fnExactFirstLostUptoRow.holds Try.pinned (OpenSpec.upto fnExactFirstLostSpec)

/-- 'laws.FnExactKeepsServed', WHERE WHAT IT READS IS OF BULK AT MOST 1048576: true; the input reads as it did. -/
def fnExactKeepsServedUptoRow : OpenClaim := { program := "ytjelfhmgbhidnaa", sum := "d9249fea2826a02976c9d939e3256f64334c0fb982b0af7f9ceb48559484428d", func := "loop.example/g01011/laws.FnExactKeepsServed", spec := "fnExactKeepsServed", unfollowed := true, recurses := true, apart := false, narrowed := true }
def FnExactKeepsServedUptoSaid : Prop := fnExactKeepsServedUptoRow.holds Try.pinned (OpenSpec.upto fnExactKeepsServedSpec)

/-- 'laws.FnExactCriticalPipes', WHERE WHAT IT READS IS OF BULK AT MOST 1048576: true; the input reads as it did. -/
def fnExactCriticalPipesUptoRow : OpenClaim := { program := "ytjelfhmgbhidnaa", sum := "d9249fea2826a02976c9d939e3256f64334c0fb982b0af7f9ceb48559484428d", func := "loop.example/g01011/laws.FnExactCriticalPipes", spec := "fnExactCriticalPipes", unfollowed := true, recurses := true, apart := false, narrowed := true }
def FnExactCriticalPipesUptoSaid : Prop := fnExactCriticalPipesUptoRow.holds Try.pinned (OpenSpec.upto fnExactCriticalPipesSpec)

end Rows
end Go.Proofs.Ytjelfhmgbhidnaa
