/-
  No cell of these rows narrows 'for every input' (looked for: loops, veiled, ifaces, maps, wideKeys, modest, calm, conditions, laid).
  DERIVED. THE GIVEN ROWS OF THIS SEAT. 8 by the template 'for every input the law returns true; each argument reads behind the call as it read before'; 0 by the template 'total and deterministic' (their statements: YtaomflfofihknaaTotals.lean).
  GIVEN WITH THE SEED: the statements are not yours to turn. If you find one false, say at which input.
  Laid BY PROGRAM, IN A SANDBOX (cutbox-rows.mjs): the forced cells as the released guide's own fill.sh prints them over the translation 8b16c52e577a3aac… (all of the seat's roots in one cut). By AI agents, Wed Nov 11 2026. No macro, syntax, notation, axiom, sorry.
-/
import Derived.Test.YtaomflfofihknaaChecked
import GoSem.Claim
import GoSem.ClaimJoined
import GoSem.ClaimMapViews
import Derived.JoinedTies
import Derived.KernelRfl
namespace Go.Proofs.Ytaomflfofihknaa
/- THE CELL 'sum', in the pinned program and in every row, IS THE sha256 OF THE DUMP (.gsa) THAT YtaomflfofihknaaProg.lean LOADS. Nothing in Lean hashes anything: it is a label: what it is worth is what the hold of that sum in a sandbox is worth. -/
noncomputable def Try.pinned : Pinned := { name := "ytaomflfofihknaa", sum := "8b16c52e577a3aac2a6936995db6f3a7c9c721f4372a51d836bd513046533a31", checked := Try.checked }
namespace Rows
def none {H : Type} : Left H := { results := [], args := [] }

/-- 'laws.FnExactSameStages': WHATEVER THE INPUT: true; the input reads as it did. -/
def fnExactSameStagesSpec : ChangeSpec := { name := "fnExactSameStages", fn := fun _ => fun
  | [d1, d2] => { results := [.lit (.bool true)], args := [d1, d2] }
  | _ => none }
def fnExactSameStagesRow : OpenClaim := { program := "ytaomflfofihknaa", sum := "8b16c52e577a3aac2a6936995db6f3a7c9c721f4372a51d836bd513046533a31", func := "loop.example/g01011/laws.FnExactSameStages", spec := "fnExactSameStages", unfollowed := true, recurses := true, apart := false }
def FnExactSameStagesSaid : Prop := fnExactSameStagesRow.holds Try.pinned (OpenSpec.ofChange fnExactSameStagesSpec)

/-- ITS FALSE NEIGHBOUR: 'it returns false'. Refute it at one input. -/
def fnExactSameStagesWrong : ChangeSpec := { name := "fnExactSameStages", fn := fun _ => fun
  | [d1, d2] => { results := [.lit (.bool false)], args := [d1, d2] }
  | _ => none }
def FnExactSameStagesWrongFalsely : Prop := fnExactSameStagesRow.holds Try.pinned (OpenSpec.ofChange fnExactSameStagesWrong)

/-- 'laws.FnExactDivideMoney': WHATEVER THE INPUT: true; the input reads as it did. -/
def fnExactDivideMoneySpec : ChangeSpec := { name := "fnExactDivideMoney", fn := fun _ => fun
  | [d1, d2] => { results := [.lit (.bool true)], args := [d1, d2] }
  | _ => none }
def fnExactDivideMoneyRow : OpenClaim := { program := "ytaomflfofihknaa", sum := "8b16c52e577a3aac2a6936995db6f3a7c9c721f4372a51d836bd513046533a31", func := "loop.example/g01011/laws.FnExactDivideMoney", spec := "fnExactDivideMoney", unfollowed := true, recurses := true, apart := false }
def FnExactDivideMoneySaid : Prop := fnExactDivideMoneyRow.holds Try.pinned (OpenSpec.ofChange fnExactDivideMoneySpec)

/-- ITS FALSE NEIGHBOUR: 'it returns false'. Refute it at one input. -/
def fnExactDivideMoneyWrong : ChangeSpec := { name := "fnExactDivideMoney", fn := fun _ => fun
  | [d1, d2] => { results := [.lit (.bool false)], args := [d1, d2] }
  | _ => none }
def FnExactDivideMoneyWrongFalsely : Prop := fnExactDivideMoneyRow.holds Try.pinned (OpenSpec.ofChange fnExactDivideMoneyWrong)

/-- 'laws.FnExactInstalments': WHATEVER THE INPUT: true; the input reads as it did. -/
def fnExactInstalmentsSpec : ChangeSpec := { name := "fnExactInstalments", fn := fun _ => fun
  | [d1, d2] => { results := [.lit (.bool true)], args := [d1, d2] }
  | _ => none }
def fnExactInstalmentsRow : OpenClaim := { program := "ytaomflfofihknaa", sum := "8b16c52e577a3aac2a6936995db6f3a7c9c721f4372a51d836bd513046533a31", func := "loop.example/g01011/laws.FnExactInstalments", spec := "fnExactInstalments", apart := false }
def FnExactInstalmentsSaid : Prop := fnExactInstalmentsRow.holds Try.pinned (OpenSpec.ofChange fnExactInstalmentsSpec)

/-- ITS FALSE NEIGHBOUR: 'it returns false'. Refute it at one input. -/
def fnExactInstalmentsWrong : ChangeSpec := { name := "fnExactInstalments", fn := fun _ => fun
  | [d1, d2] => { results := [.lit (.bool false)], args := [d1, d2] }
  | _ => none }
def FnExactInstalmentsWrongFalsely : Prop := fnExactInstalmentsRow.holds Try.pinned (OpenSpec.ofChange fnExactInstalmentsWrong)

/-- 'laws.FnExactDropOf': WHATEVER THE INPUT: true; the input reads as it did. -/
def fnExactDropOfSpec : ChangeSpec := { name := "fnExactDropOf", fn := fun _ => fun
  | [d1, d2] => { results := [.lit (.bool true)], args := [d1, d2] }
  | _ => none }
def fnExactDropOfRow : OpenClaim := { program := "ytaomflfofihknaa", sum := "8b16c52e577a3aac2a6936995db6f3a7c9c721f4372a51d836bd513046533a31", func := "loop.example/g01011/laws.FnExactDropOf", spec := "fnExactDropOf", unfollowed := true, recurses := true, apart := false }
def FnExactDropOfSaid : Prop := fnExactDropOfRow.holds Try.pinned (OpenSpec.ofChange fnExactDropOfSpec)

/-- ITS FALSE NEIGHBOUR: 'it returns false'. Refute it at one input. -/
def fnExactDropOfWrong : ChangeSpec := { name := "fnExactDropOf", fn := fun _ => fun
  | [d1, d2] => { results := [.lit (.bool false)], args := [d1, d2] }
  | _ => none }
def FnExactDropOfWrongFalsely : Prop := fnExactDropOfRow.holds Try.pinned (OpenSpec.ofChange fnExactDropOfWrong)

/-- 'laws.FnExactEndTemperature': WHATEVER THE INPUT: true; the input reads as it did. -/
def fnExactEndTemperatureSpec : ChangeSpec := { name := "fnExactEndTemperature", fn := fun _ => fun
  | [d1, d2, d3, d4] => { results := [.lit (.bool true)], args := [d1, d2, d3, d4] }
  | _ => none }
def fnExactEndTemperatureRow : OpenClaim := { program := "ytaomflfofihknaa", sum := "8b16c52e577a3aac2a6936995db6f3a7c9c721f4372a51d836bd513046533a31", func := "loop.example/g01011/laws.FnExactEndTemperature", spec := "fnExactEndTemperature", unfollowed := true, recurses := true, apart := false }
def FnExactEndTemperatureSaid : Prop := fnExactEndTemperatureRow.holds Try.pinned (OpenSpec.ofChange fnExactEndTemperatureSpec)

/-- ITS FALSE NEIGHBOUR: 'it returns false'. Refute it at one input. -/
def fnExactEndTemperatureWrong : ChangeSpec := { name := "fnExactEndTemperature", fn := fun _ => fun
  | [d1, d2, d3, d4] => { results := [.lit (.bool false)], args := [d1, d2, d3, d4] }
  | _ => none }
def FnExactEndTemperatureWrongFalsely : Prop := fnExactEndTemperatureRow.holds Try.pinned (OpenSpec.ofChange fnExactEndTemperatureWrong)

/-- 'laws.FnExactValidStages': WHATEVER THE INPUT: true; the input reads as it did. -/
def fnExactValidStagesSpec : ChangeSpec := { name := "fnExactValidStages", fn := fun _ => fun
  | [d] => { results := [.lit (.bool true)], args := [d] }
  | _ => none }
def fnExactValidStagesRow : OpenClaim := { program := "ytaomflfofihknaa", sum := "8b16c52e577a3aac2a6936995db6f3a7c9c721f4372a51d836bd513046533a31", func := "loop.example/g01011/laws.FnExactValidStages", spec := "fnExactValidStages", unfollowed := true, recurses := true, apart := false }
def FnExactValidStagesSaid : Prop := fnExactValidStagesRow.holds Try.pinned (OpenSpec.ofChange fnExactValidStagesSpec)

/-- ITS FALSE NEIGHBOUR: 'it returns false'. Refute it at one input. -/
def fnExactValidStagesWrong : ChangeSpec := { name := "fnExactValidStages", fn := fun _ => fun
  | [d] => { results := [.lit (.bool false)], args := [d] }
  | _ => none }
def FnExactValidStagesWrongFalsely : Prop := fnExactValidStagesRow.holds Try.pinned (OpenSpec.ofChange fnExactValidStagesWrong)

/-- 'laws.FnExactLeastSpeed': WHATEVER THE INPUT: true; the input reads as it did. -/
def fnExactLeastSpeedSpec : ChangeSpec := { name := "fnExactLeastSpeed", fn := fun _ => fun
  | [d1, d2, d3, d4] => { results := [.lit (.bool true)], args := [d1, d2, d3, d4] }
  | _ => none }
def fnExactLeastSpeedRow : OpenClaim := { program := "ytaomflfofihknaa", sum := "8b16c52e577a3aac2a6936995db6f3a7c9c721f4372a51d836bd513046533a31", func := "loop.example/g01011/laws.FnExactLeastSpeed", spec := "fnExactLeastSpeed", unfollowed := true, recurses := true, apart := false }
def FnExactLeastSpeedSaid : Prop := fnExactLeastSpeedRow.holds Try.pinned (OpenSpec.ofChange fnExactLeastSpeedSpec)

/-- ITS FALSE NEIGHBOUR: 'it returns false'. Refute it at one input. -/
def fnExactLeastSpeedWrong : ChangeSpec := { name := "fnExactLeastSpeed", fn := fun _ => fun
  | [d1, d2, d3, d4] => { results := [.lit (.bool false)], args := [d1, d2, d3, d4] }
  | _ => none }
def FnExactLeastSpeedWrongFalsely : Prop := fnExactLeastSpeedRow.holds Try.pinned (OpenSpec.ofChange fnExactLeastSpeedWrong)

/-- 'laws.FnLosses': WHATEVER THE INPUT: true; the input reads as it did. -/
def fnLossesSpec : ChangeSpec := { name := "fnLosses", fn := fun _ => fun
  | [d1, d2] => { results := [.lit (.bool true)], args := [d1, d2] }
  | _ => none }
def fnLossesRow : OpenClaim := { program := "ytaomflfofihknaa", sum := "8b16c52e577a3aac2a6936995db6f3a7c9c721f4372a51d836bd513046533a31", func := "loop.example/g01011/laws.FnLosses", spec := "fnLosses", unfollowed := true, recurses := true, apart := false }
def FnLossesSaid : Prop := fnLossesRow.holds Try.pinned (OpenSpec.ofChange fnLossesSpec)

/-- ITS FALSE NEIGHBOUR: 'it returns false'. Refute it at one input. -/
def fnLossesWrong : ChangeSpec := { name := "fnLosses", fn := fun _ => fun
  | [d1, d2] => { results := [.lit (.bool false)], args := [d1, d2] }
  | _ => none }
def FnLossesWrongFalsely : Prop := fnLossesRow.holds Try.pinned (OpenSpec.ofChange fnLossesWrong)

/- THE SECOND FORM. 'bulk': how many values and letters a reading holds, each counted each time it is reached (what is shared counts as often as it is met; a slice's spare places count too). A statement '..UptoSaid' is the law's where the arguments, and the package variables that the reading takes, are together of bulk at most 1048576: NARROWER than '..Said'. Prove '..Said' where nothing that the law and all that it calls make is longer than what came in: it says more and counts as full. Else prove '..UptoSaid'. A law counts once. -/
mutual
def uptoBulk {H : Type} : DataW H → Nat
  | .lit (.string bytes) => bytes.length + 1
  | .lit _ => 1
  | .nil => 1
  | .ptr d => uptoBulk d + 1
  | .slice elems spare => uptoBulkAll elems + uptoBulkAll spare + 1
  | .agg parts => uptoBulkAll parts + 1
  | .iface _ d => uptoBulk d + 1
  | .map entries => uptoBulkEntries entries + 1
  | .held _ => 1
def uptoBulkAll {H : Type} : List (DataW H) → Nat
  | [] => 0
  | d :: r => uptoBulk d + uptoBulkAll r
def uptoBulkEntries {H : Type} : List (Lit × DataW H) → Nat
  | [] => 0
  | x :: r => uptoBulkEntry x + uptoBulkEntries r
def uptoBulkEntry {H : Type} : Lit × DataW H → Nat
  | (.string bytes, d) => bytes.length + uptoBulk d + 1
  | (_, d) => uptoBulk d + 1
 end
def uptoSmall : (H : Type) → List (DataW H) → Bool := fun _ ds => decide (uptoBulkAll ds ≤ 1048576)
def OpenSpec.upto (s : _root_.Go.ChangeSpec) : _root_.Go.OpenSpec := { _root_.Go.OpenSpec.ofChange s with cond := some uptoSmall }

/-- 'laws.FnExactSameStages', WHERE WHAT IT READS IS OF BULK AT MOST 1048576: true; the input reads as it did. -/
def fnExactSameStagesUptoRow : OpenClaim := { program := "ytaomflfofihknaa", sum := "8b16c52e577a3aac2a6936995db6f3a7c9c721f4372a51d836bd513046533a31", func := "loop.example/g01011/laws.FnExactSameStages", spec := "fnExactSameStages", unfollowed := true, recurses := true, apart := false, narrowed := true }
def FnExactSameStagesUptoSaid : Prop := fnExactSameStagesUptoRow.holds Try.pinned (OpenSpec.upto fnExactSameStagesSpec)

/-- 'laws.FnExactDivideMoney', WHERE WHAT IT READS IS OF BULK AT MOST 1048576: true; the input reads as it did. -/
def fnExactDivideMoneyUptoRow : OpenClaim := { program := "ytaomflfofihknaa", sum := "8b16c52e577a3aac2a6936995db6f3a7c9c721f4372a51d836bd513046533a31", func := "loop.example/g01011/laws.FnExactDivideMoney", spec := "fnExactDivideMoney", unfollowed := true, recurses := true, apart := false, narrowed := true }
def FnExactDivideMoneyUptoSaid : Prop := fnExactDivideMoneyUptoRow.holds Try.pinned (OpenSpec.upto fnExactDivideMoneySpec)

/-- 'laws.FnExactInstalments', WHERE WHAT IT READS IS OF BULK AT MOST 1048576: true; the input reads as it did. -/
def fnExactInstalmentsUptoRow : OpenClaim := { program := "ytaomflfofihknaa", sum := "8b16c52e577a3aac2a6936995db6f3a7c9c721f4372a51d836bd513046533a31", func := "loop.example/g01011/laws.FnExactInstalments", spec := "fnExactInstalments", apart := false, narrowed := true }
def FnExactInstalmentsUptoSaid : Prop := fnExactInstalmentsUptoRow.holds Try.pinned (OpenSpec.upto fnExactInstalmentsSpec)

/-- 'laws.FnExactDropOf', WHERE WHAT IT READS IS OF BULK AT MOST 1048576: true; the input reads as it did. -/
def fnExactDropOfUptoRow : OpenClaim := { program := "ytaomflfofihknaa", sum := "8b16c52e577a3aac2a6936995db6f3a7c9c721f4372a51d836bd513046533a31", func := "loop.example/g01011/laws.FnExactDropOf", spec := "fnExactDropOf", unfollowed := true, recurses := true, apart := false, narrowed := true }
def FnExactDropOfUptoSaid : Prop := fnExactDropOfUptoRow.holds Try.pinned (OpenSpec.upto fnExactDropOfSpec)

/-- 'laws.FnExactEndTemperature', WHERE WHAT IT READS IS OF BULK AT MOST 1048576: true; the input reads as it did. -/
def fnExactEndTemperatureUptoRow : OpenClaim := { program := "ytaomflfofihknaa", sum := "8b16c52e577a3aac2a6936995db6f3a7c9c721f4372a51d836bd513046533a31", func := "loop.example/g01011/laws.FnExactEndTemperature", spec := "fnExactEndTemperature", unfollowed := true, recurses := true, apart := false, narrowed := true }
def FnExactEndTemperatureUptoSaid : Prop := fnExactEndTemperatureUptoRow.holds Try.pinned (OpenSpec.upto fnExactEndTemperatureSpec)

/-- 'laws.FnExactValidStages', WHERE WHAT IT READS IS OF BULK AT MOST 1048576: true; the input reads as it did. -/
def fnExactValidStagesUptoRow : OpenClaim := { program := "ytaomflfofihknaa", sum := "8b16c52e577a3aac2a6936995db6f3a7c9c721f4372a51d836bd513046533a31", func := "loop.example/g01011/laws.FnExactValidStages", spec := "fnExactValidStages", unfollowed := true, recurses := true, apart := false, narrowed := true }
def FnExactValidStagesUptoSaid : Prop := fnExactValidStagesUptoRow.holds Try.pinned (OpenSpec.upto fnExactValidStagesSpec)

/-- 'laws.FnExactLeastSpeed', WHERE WHAT IT READS IS OF BULK AT MOST 1048576: true; the input reads as it did. -/
def fnExactLeastSpeedUptoRow : OpenClaim := { program := "ytaomflfofihknaa", sum := "8b16c52e577a3aac2a6936995db6f3a7c9c721f4372a51d836bd513046533a31", func := "loop.example/g01011/laws.FnExactLeastSpeed", spec := "fnExactLeastSpeed", unfollowed := true, recurses := true, apart := false, narrowed := true }
def FnExactLeastSpeedUptoSaid : Prop := fnExactLeastSpeedUptoRow.holds Try.pinned (OpenSpec.upto fnExactLeastSpeedSpec)

/-- 'laws.FnLosses', WHERE WHAT IT READS IS OF BULK AT MOST 1048576: true; the input reads as it did. -/
def fnLossesUptoRow : OpenClaim := { program := "ytaomflfofihknaa", sum := "8b16c52e577a3aac2a6936995db6f3a7c9c721f4372a51d836bd513046533a31", func := "loop.example/g01011/laws.FnLosses", spec := "fnLosses", unfollowed := true, recurses := true, apart := false, narrowed := true }
def FnLossesUptoSaid : Prop := fnLossesUptoRow.holds Try.pinned (OpenSpec.upto fnLossesSpec)

end Rows
end Go.Proofs.Ytaomflfofihknaa
