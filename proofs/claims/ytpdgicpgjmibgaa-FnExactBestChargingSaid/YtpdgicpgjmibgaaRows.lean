/-
  No cell of these rows narrows 'for every input' (looked for: loops, veiled, ifaces, maps, wideKeys, modest, calm, conditions, laid).
  DERIVED. THE GIVEN ROWS OF THIS SEAT. 7 by the template 'for every input the law returns true; each argument reads behind the call as it read before'; 0 by the template 'total and deterministic' (their statements: YtpdgicpgjmibgaaTotals.lean).
  GIVEN WITH THE SEED: the statements are not yours to turn. If you find one false, say at which input.
  Laid BY PROGRAM, IN A SANDBOX (cutbox-rows.mjs): the forced cells as the released guide's own fill.sh prints them over the translation 6d658a34b4d4b6b4… (all of the seat's roots in one cut). By AI agents, Wed Nov 11 2026. No macro, syntax, notation, axiom, sorry.
-/
import Derived.Test.YtpdgicpgjmibgaaChecked
import GoSem.Claim
import GoSem.ClaimJoined
import GoSem.ClaimMapViews
import Derived.JoinedTies
import Derived.KernelRfl
namespace Go.Proofs.Ytpdgicpgjmibgaa
/- THE CELL 'sum', in the pinned program and in every row, IS THE sha256 OF THE DUMP (.gsa) THAT YtpdgicpgjmibgaaProg.lean LOADS. Nothing in Lean hashes anything: it is a label: what it is worth is what the hold of that sum in a sandbox is worth. -/
noncomputable def Try.pinned : Pinned := { name := "ytpdgicpgjmibgaa", sum := "6d658a34b4d4b6b4bb9b0908ce8c51266473ed753d6642cfeaf7fd321b775502", checked := Try.checked }
namespace Rows
def none {H : Type} : Left H := { results := [], args := [] }

/-- 'laws.FnExactIsCharging': WHATEVER THE INPUT: true; the input reads as it did. -/
def fnExactIsChargingSpec : ChangeSpec := { name := "fnExactIsCharging", fn := fun _ => fun
  | [d1, d2, d3, d4, d5] => { results := [.lit (.bool true)], args := [d1, d2, d3, d4, d5] }
  | _ => none }
def fnExactIsChargingRow : OpenClaim := { program := "ytpdgicpgjmibgaa", sum := "6d658a34b4d4b6b4bb9b0908ce8c51266473ed753d6642cfeaf7fd321b775502", func := "loop.example/g01011/laws.FnExactIsCharging", spec := "fnExactIsCharging", unfollowed := true, recurses := true, apart := false }
def FnExactIsChargingSaid : Prop := fnExactIsChargingRow.holds Try.pinned (OpenSpec.ofChange fnExactIsChargingSpec)

/-- ITS FALSE NEIGHBOUR: 'it returns false'. Refute it at one input. -/
def fnExactIsChargingWrong : ChangeSpec := { name := "fnExactIsCharging", fn := fun _ => fun
  | [d1, d2, d3, d4, d5] => { results := [.lit (.bool false)], args := [d1, d2, d3, d4, d5] }
  | _ => none }
def FnExactIsChargingWrongFalsely : Prop := fnExactIsChargingRow.holds Try.pinned (OpenSpec.ofChange fnExactIsChargingWrong)

/-- 'laws.FnExactLevelsOf': WHATEVER THE INPUT: true; the input reads as it did. -/
def fnExactLevelsOfSpec : ChangeSpec := { name := "fnExactLevelsOf", fn := fun _ => fun
  | [d1, d2, d3] => { results := [.lit (.bool true)], args := [d1, d2, d3] }
  | _ => none }
def fnExactLevelsOfRow : OpenClaim := { program := "ytpdgicpgjmibgaa", sum := "6d658a34b4d4b6b4bb9b0908ce8c51266473ed753d6642cfeaf7fd321b775502", func := "loop.example/g01011/laws.FnExactLevelsOf", spec := "fnExactLevelsOf", unfollowed := true, recurses := true, apart := false }
def FnExactLevelsOfSaid : Prop := fnExactLevelsOfRow.holds Try.pinned (OpenSpec.ofChange fnExactLevelsOfSpec)

/-- ITS FALSE NEIGHBOUR: 'it returns false'. Refute it at one input. -/
def fnExactLevelsOfWrong : ChangeSpec := { name := "fnExactLevelsOf", fn := fun _ => fun
  | [d1, d2, d3] => { results := [.lit (.bool false)], args := [d1, d2, d3] }
  | _ => none }
def FnExactLevelsOfWrongFalsely : Prop := fnExactLevelsOfRow.holds Try.pinned (OpenSpec.ofChange fnExactLevelsOfWrong)

/-- 'laws.FnExactCountChargings': WHATEVER THE INPUT: true; the input reads as it did. -/
def fnExactCountChargingsSpec : ChangeSpec := { name := "fnExactCountChargings", fn := fun _ => fun
  | [d1, d2, d3, d4] => { results := [.lit (.bool true)], args := [d1, d2, d3, d4] }
  | _ => none }
def fnExactCountChargingsRow : OpenClaim := { program := "ytpdgicpgjmibgaa", sum := "6d658a34b4d4b6b4bb9b0908ce8c51266473ed753d6642cfeaf7fd321b775502", func := "loop.example/g01011/laws.FnExactCountChargings", spec := "fnExactCountChargings", unfollowed := true, recurses := true, apart := false }
def FnExactCountChargingsSaid : Prop := fnExactCountChargingsRow.holds Try.pinned (OpenSpec.ofChange fnExactCountChargingsSpec)

/-- ITS FALSE NEIGHBOUR: 'it returns false'. Refute it at one input. -/
def fnExactCountChargingsWrong : ChangeSpec := { name := "fnExactCountChargings", fn := fun _ => fun
  | [d1, d2, d3, d4] => { results := [.lit (.bool false)], args := [d1, d2, d3, d4] }
  | _ => none }
def FnExactCountChargingsWrongFalsely : Prop := fnExactCountChargingsRow.holds Try.pinned (OpenSpec.ofChange fnExactCountChargingsWrong)

/-- 'laws.FnExactLastLevels': WHATEVER THE INPUT: true; the input reads as it did. -/
def fnExactLastLevelsSpec : ChangeSpec := { name := "fnExactLastLevels", fn := fun _ => fun
  | [d1, d2, d3, d4] => { results := [.lit (.bool true)], args := [d1, d2, d3, d4] }
  | _ => none }
def fnExactLastLevelsRow : OpenClaim := { program := "ytpdgicpgjmibgaa", sum := "6d658a34b4d4b6b4bb9b0908ce8c51266473ed753d6642cfeaf7fd321b775502", func := "loop.example/g01011/laws.FnExactLastLevels", spec := "fnExactLastLevels", unfollowed := true, recurses := true, apart := false }
def FnExactLastLevelsSaid : Prop := fnExactLastLevelsRow.holds Try.pinned (OpenSpec.ofChange fnExactLastLevelsSpec)

/-- ITS FALSE NEIGHBOUR: 'it returns false'. Refute it at one input. -/
def fnExactLastLevelsWrong : ChangeSpec := { name := "fnExactLastLevels", fn := fun _ => fun
  | [d1, d2, d3, d4] => { results := [.lit (.bool false)], args := [d1, d2, d3, d4] }
  | _ => none }
def FnExactLastLevelsWrongFalsely : Prop := fnExactLastLevelsRow.holds Try.pinned (OpenSpec.ofChange fnExactLastLevelsWrong)

/-- 'laws.FnExactLeastTank': WHATEVER THE INPUT: true; the input reads as it did. -/
def fnExactLeastTankSpec : ChangeSpec := { name := "fnExactLeastTank", fn := fun _ => fun
  | [d1, d2, d3, d4] => { results := [.lit (.bool true)], args := [d1, d2, d3, d4] }
  | _ => none }
def fnExactLeastTankRow : OpenClaim := { program := "ytpdgicpgjmibgaa", sum := "6d658a34b4d4b6b4bb9b0908ce8c51266473ed753d6642cfeaf7fd321b775502", func := "loop.example/g01011/laws.FnExactLeastTank", spec := "fnExactLeastTank", unfollowed := true, recurses := true, apart := false }
def FnExactLeastTankSaid : Prop := fnExactLeastTankRow.holds Try.pinned (OpenSpec.ofChange fnExactLeastTankSpec)

/-- ITS FALSE NEIGHBOUR: 'it returns false'. Refute it at one input. -/
def fnExactLeastTankWrong : ChangeSpec := { name := "fnExactLeastTank", fn := fun _ => fun
  | [d1, d2, d3, d4] => { results := [.lit (.bool false)], args := [d1, d2, d3, d4] }
  | _ => none }
def FnExactLeastTankWrongFalsely : Prop := fnExactLeastTankRow.holds Try.pinned (OpenSpec.ofChange fnExactLeastTankWrong)

/-- 'laws.FnExactBestCharging': WHATEVER THE INPUT: true; the input reads as it did. -/
def fnExactBestChargingSpec : ChangeSpec := { name := "fnExactBestCharging", fn := fun _ => fun
  | [d1, d2, d3, d4, d5] => { results := [.lit (.bool true)], args := [d1, d2, d3, d4, d5] }
  | _ => none }
def fnExactBestChargingRow : OpenClaim := { program := "ytpdgicpgjmibgaa", sum := "6d658a34b4d4b6b4bb9b0908ce8c51266473ed753d6642cfeaf7fd321b775502", func := "loop.example/g01011/laws.FnExactBestCharging", spec := "fnExactBestCharging", unfollowed := true, recurses := true, apart := false }
def FnExactBestChargingSaid : Prop := fnExactBestChargingRow.holds Try.pinned (OpenSpec.ofChange fnExactBestChargingSpec)

/-- ITS FALSE NEIGHBOUR: 'it returns false'. Refute it at one input. -/
def fnExactBestChargingWrong : ChangeSpec := { name := "fnExactBestCharging", fn := fun _ => fun
  | [d1, d2, d3, d4, d5] => { results := [.lit (.bool false)], args := [d1, d2, d3, d4, d5] }
  | _ => none }
def FnExactBestChargingWrongFalsely : Prop := fnExactBestChargingRow.holds Try.pinned (OpenSpec.ofChange fnExactBestChargingWrong)

/-- 'laws.FnChargings': WHATEVER THE INPUT: true; the input reads as it did. -/
def fnChargingsSpec : ChangeSpec := { name := "fnChargings", fn := fun _ => fun
  | [d] => { results := [.lit (.bool true)], args := [d] }
  | _ => none }
def fnChargingsRow : OpenClaim := { program := "ytpdgicpgjmibgaa", sum := "6d658a34b4d4b6b4bb9b0908ce8c51266473ed753d6642cfeaf7fd321b775502", func := "loop.example/g01011/laws.FnChargings", spec := "fnChargings", unfollowed := true, recurses := true, apart := false }
def FnChargingsSaid : Prop := fnChargingsRow.holds Try.pinned (OpenSpec.ofChange fnChargingsSpec)

/-- ITS FALSE NEIGHBOUR: 'it returns false'. Refute it at one input. -/
def fnChargingsWrong : ChangeSpec := { name := "fnChargings", fn := fun _ => fun
  | [d] => { results := [.lit (.bool false)], args := [d] }
  | _ => none }
def FnChargingsWrongFalsely : Prop := fnChargingsRow.holds Try.pinned (OpenSpec.ofChange fnChargingsWrong)

/- THE SECOND FORM. 'bulk': how many values and letters a reading holds, each counted each time it is reached (what is shared counts as often as it is met; a slice's spare places count too). A statement '..UptoSaid' is the law's where the arguments, and the package variables that the reading takes, are together of bulk at most 1048576: NARROWER than '..Said'. Prove '..Said' where nothing that the law and all that it calls make is longer than what came in: it says more and counts as full. Else prove '..UptoSaid'. A law counts once. -/
mutual
def uptoBulk {H : Type} : DataW H → Nat
  | .lit (.string bytes) => bytes.length + 1
  | .lit _ => 1
  | .nil => 1
  | .ptr d => uptoBulk d + 1
  | .slice elems spare => uptoBulkAll elems + uptoBulkAll spare + 1
  | .agg parts => uptoBulkAll parts + 1
  | .iface _ d => uptoBulk d + 1
  | .map entries => uptoBulkEntries entries + 1
  | .held _ => 1
def uptoBulkAll {H : Type} : List (DataW H) → Nat
  | [] => 0
  | d :: r => uptoBulk d + uptoBulkAll r
def uptoBulkEntries {H : Type} : List (Lit × DataW H) → Nat
  | [] => 0
  | x :: r => uptoBulkEntry x + uptoBulkEntries r
def uptoBulkEntry {H : Type} : Lit × DataW H → Nat
  | (.string bytes, d) => bytes.length + uptoBulk d + 1
  | (_, d) => uptoBulk d + 1
 end
def uptoSmall : (H : Type) → List (DataW H) → Bool := fun _ ds => decide (uptoBulkAll ds ≤ 1048576)
def OpenSpec.upto (s : _root_.Go.ChangeSpec) : _root_.Go.OpenSpec := { _root_.Go.OpenSpec.ofChange s with cond := some uptoSmall }

/-- 'laws.FnExactIsCharging', WHERE WHAT IT READS IS OF BULK AT MOST 1048576: true; the input reads as it did. -/
def fnExactIsChargingUptoRow : OpenClaim := { program := "ytpdgicpgjmibgaa", sum := "6d658a34b4d4b6b4bb9b0908ce8c51266473ed753d6642cfeaf7fd321b775502", func := "loop.example/g01011/laws.FnExactIsCharging", spec := "fnExactIsCharging", unfollowed := true, recurses := true, apart := false, narrowed := true }
def FnExactIsChargingUptoSaid : Prop := fnExactIsChargingUptoRow.holds Try.pinned (OpenSpec.upto fnExactIsChargingSpec)

/-- 'laws.FnExactLevelsOf', WHERE WHAT IT READS IS OF BULK AT MOST 1048576: true; the input reads as it did. -/
def fnExactLevelsOfUptoRow : OpenClaim := { program := "ytpdgicpgjmibgaa", sum := "6d658a34b4d4b6b4bb9b0908ce8c51266473ed753d6642cfeaf7fd321b775502", func := "loop.example/g01011/laws.FnExactLevelsOf", spec := "fnExactLevelsOf", unfollowed := true, recurses := true, apart := false, narrowed := true }
def FnExactLevelsOfUptoSaid : Prop := fnExactLevelsOfUptoRow.holds Try.pinned (OpenSpec.upto fnExactLevelsOfSpec)

/-- 'laws.FnExactCountChargings', WHERE WHAT IT READS IS OF BULK AT MOST 1048576: true; the input reads as it did. -/
def fnExactCountChargingsUptoRow : OpenClaim := { program := "ytpdgicpgjmibgaa", sum := "6d658a34b4d4b6b4bb9b0908ce8c51266473ed753d6642cfeaf7fd321b775502", func := "loop.example/g01011/laws.FnExactCountChargings", spec := "fnExactCountChargings", unfollowed := true, recurses := true, apart := false, narrowed := true }
def FnExactCountChargingsUptoSaid : Prop := fnExactCountChargingsUptoRow.holds Try.pinned (OpenSpec.upto fnExactCountChargingsSpec)

/-- 'laws.FnExactLastLevels', WHERE WHAT IT READS IS OF BULK AT MOST 1048576: true; the input reads as it did. -/
def fnExactLastLevelsUptoRow : OpenClaim := { program := "ytpdgicpgjmibgaa", sum := "6d658a34b4d4b6b4bb9b0908ce8c51266473ed753d6642cfeaf7fd321b775502", func := "loop.example/g01011/laws.FnExactLastLevels", spec := "fnExactLastLevels", unfollowed := true, recurses := true, apart := false, narrowed := true }
def FnExactLastLevelsUptoSaid : Prop := fnExactLastLevelsUptoRow.holds Try.pinned (OpenSpec.upto fnExactLastLevelsSpec)

/-- 'laws.FnExactLeastTank', WHERE WHAT IT READS IS OF BULK AT MOST 1048576: true; the input reads as it did. -/
def fnExactLeastTankUptoRow : OpenClaim := { program := "ytpdgicpgjmibgaa", sum := "6d658a34b4d4b6b4bb9b0908ce8c51266473ed753d6642cfeaf7fd321b775502", func := "loop.example/g01011/laws.FnExactLeastTank", spec := "fnExactLeastTank", unfollowed := true, recurses := true, apart := false, narrowed := true }
def FnExactLeastTankUptoSaid : Prop := fnExactLeastTankUptoRow.holds Try.pinned (OpenSpec.upto fnExactLeastTankSpec)

/-- 'laws.FnExactBestCharging', WHERE WHAT IT READS IS OF BULK AT MOST 1048576: true; the input reads as it did. -/
def fnExactBestChargingUptoRow : OpenClaim := { program := "ytpdgicpgjmibgaa", sum := "6d658a34b4d4b6b4bb9b0908ce8c51266473ed753d6642cfeaf7fd321b775502", func := "loop.example/g01011/laws.FnExactBestCharging", spec := "fnExactBestCharging", unfollowed := true, recurses := true, apart := false, narrowed := true }
def FnExactBestChargingUptoSaid : Prop := fnExactBestChargingUptoRow.holds Try.pinned (OpenSpec.upto fnExactBestChargingSpec)

/-- 'laws.FnChargings', WHERE WHAT IT READS IS OF BULK AT MOST 1048576: true; the input reads as it did. -/
def fnChargingsUptoRow : OpenClaim := { program := "ytpdgicpgjmibgaa", sum := "6d658a34b4d4b6b4bb9b0908ce8c51266473ed753d6642cfeaf7fd321b775502", func := "loop.example/g01011/laws.FnChargings", spec := "fnChargings", unfollowed := true, recurses := true, apart := false, narrowed := true }
def FnChargingsUptoSaid : Prop := fnChargingsUptoRow.holds Try.pinned (OpenSpec.upto fnChargingsSpec)

end Rows
end Go.Proofs.Ytpdgicpgjmibgaa
