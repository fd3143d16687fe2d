/-
  No cell of these rows narrows 'for every input' (looked for: loops, veiled, ifaces, maps, wideKeys, modest, calm, conditions, laid).
  DERIVED. THE GIVEN ROWS OF THIS SEAT. 9 by the template 'for every input the law returns true; each argument reads behind the call as it read before'; 0 by the template 'total and deterministic' (their statements: YtdafonbeinildaaTotals.lean).
  GIVEN WITH THE SEED: the statements are not yours to turn. If you find one false, say at which input.
  Laid BY PROGRAM, IN A SANDBOX (cutbox-rows.mjs): the forced cells as the released guide's own fill.sh prints them over the translation 41a5f68a997cc0c1… (all of the seat's roots in one cut). By AI agents, Wed Nov 11 2026. No macro, syntax, notation, axiom, sorry.
-/
import Derived.Test.YtdafonbeinildaaChecked
import GoSem.Claim
import GoSem.ClaimJoined
import GoSem.ClaimMapViews
import Derived.JoinedTies
import Derived.KernelRfl
namespace Go.Proofs.Ytdafonbeinildaa
/- THE CELL 'sum', in the pinned program and in every row, IS THE sha256 OF THE DUMP (.gsa) THAT YtdafonbeinildaaProg.lean LOADS. Nothing in Lean hashes anything: it is a label: what it is worth is what the hold of that sum in a sandbox is worth. -/
noncomputable def Try.pinned : Pinned := { name := "ytdafonbeinildaa", sum := "41a5f68a997cc0c1c9d666b3e70b8fe8909a89635f777cea60ceb0f0cc70a197", checked := Try.checked }
namespace Rows
def none {H : Type} : Left H := { results := [], args := [] }

/-- 'laws.FnExactValidTariff': WHATEVER THE INPUT: true; the input reads as it did. -/
def fnExactValidTariffSpec : ChangeSpec := { name := "fnExactValidTariff", fn := fun _ => fun
  | [d] => { results := [.lit (.bool true)], args := [d] }
  | _ => none }
def fnExactValidTariffRow : OpenClaim := { program := "ytdafonbeinildaa", sum := "41a5f68a997cc0c1c9d666b3e70b8fe8909a89635f777cea60ceb0f0cc70a197", func := "loop.example/g01011/laws.FnExactValidTariff", spec := "fnExactValidTariff", apart := false }
def FnExactValidTariffSaid : Prop := fnExactValidTariffRow.holds Try.pinned (OpenSpec.ofChange fnExactValidTariffSpec)

/-- ITS FALSE NEIGHBOUR: 'it returns false'. Refute it at one input. -/
def fnExactValidTariffWrong : ChangeSpec := { name := "fnExactValidTariff", fn := fun _ => fun
  | [d] => { results := [.lit (.bool false)], args := [d] }
  | _ => none }
def FnExactValidTariffWrongFalsely : Prop := fnExactValidTariffRow.holds Try.pinned (OpenSpec.ofChange fnExactValidTariffWrong)

/-- 'laws.FnExactNextPrice': WHATEVER THE INPUT: true; the input reads as it did. -/
def fnExactNextPriceSpec : ChangeSpec := { name := "fnExactNextPrice", fn := fun _ => fun
  | [d1, d2] => { results := [.lit (.bool true)], args := [d1, d2] }
  | _ => none }
def fnExactNextPriceRow : OpenClaim := { program := "ytdafonbeinildaa", sum := "41a5f68a997cc0c1c9d666b3e70b8fe8909a89635f777cea60ceb0f0cc70a197", func := "loop.example/g01011/laws.FnExactNextPrice", spec := "fnExactNextPrice", apart := false }
def FnExactNextPriceSaid : Prop := fnExactNextPriceRow.holds Try.pinned (OpenSpec.ofChange fnExactNextPriceSpec)

/-- ITS FALSE NEIGHBOUR: 'it returns false'. Refute it at one input. -/
def fnExactNextPriceWrong : ChangeSpec := { name := "fnExactNextPrice", fn := fun _ => fun
  | [d1, d2] => { results := [.lit (.bool false)], args := [d1, d2] }
  | _ => none }
def FnExactNextPriceWrongFalsely : Prop := fnExactNextPriceRow.holds Try.pinned (OpenSpec.ofChange fnExactNextPriceWrong)

/-- 'laws.FnExactHeatCost': WHATEVER THE INPUT: true; the input reads as it did. -/
def fnExactHeatCostSpec : ChangeSpec := { name := "fnExactHeatCost", fn := fun _ => fun
  | [d1, d2] => { results := [.lit (.bool true)], args := [d1, d2] }
  | _ => none }
def fnExactHeatCostRow : OpenClaim := { program := "ytdafonbeinildaa", sum := "41a5f68a997cc0c1c9d666b3e70b8fe8909a89635f777cea60ceb0f0cc70a197", func := "loop.example/g01011/laws.FnExactHeatCost", spec := "fnExactHeatCost", apart := false }
def FnExactHeatCostSaid : Prop := fnExactHeatCostRow.holds Try.pinned (OpenSpec.ofChange fnExactHeatCostSpec)

/-- ITS FALSE NEIGHBOUR: 'it returns false'. Refute it at one input. -/
def fnExactHeatCostWrong : ChangeSpec := { name := "fnExactHeatCost", fn := fun _ => fun
  | [d1, d2] => { results := [.lit (.bool false)], args := [d1, d2] }
  | _ => none }
def FnExactHeatCostWrongFalsely : Prop := fnExactHeatCostRow.holds Try.pinned (OpenSpec.ofChange fnExactHeatCostWrong)

/-- 'laws.FnExactBillOf': WHATEVER THE INPUT: true; the input reads as it did. -/
def fnExactBillOfSpec : ChangeSpec := { name := "fnExactBillOf", fn := fun _ => fun
  | [d1, d2, d3] => { results := [.lit (.bool true)], args := [d1, d2, d3] }
  | _ => none }
def fnExactBillOfRow : OpenClaim := { program := "ytdafonbeinildaa", sum := "41a5f68a997cc0c1c9d666b3e70b8fe8909a89635f777cea60ceb0f0cc70a197", func := "loop.example/g01011/laws.FnExactBillOf", spec := "fnExactBillOf", apart := false }
def FnExactBillOfSaid : Prop := fnExactBillOfRow.holds Try.pinned (OpenSpec.ofChange fnExactBillOfSpec)

/-- ITS FALSE NEIGHBOUR: 'it returns false'. Refute it at one input. -/
def fnExactBillOfWrong : ChangeSpec := { name := "fnExactBillOf", fn := fun _ => fun
  | [d1, d2, d3] => { results := [.lit (.bool false)], args := [d1, d2, d3] }
  | _ => none }
def FnExactBillOfWrongFalsely : Prop := fnExactBillOfRow.holds Try.pinned (OpenSpec.ofChange fnExactBillOfWrong)

/-- 'laws.FnExactRaiseTariff': WHATEVER THE INPUT: true; the input reads as it did. -/
def fnExactRaiseTariffSpec : ChangeSpec := { name := "fnExactRaiseTariff", fn := fun _ => fun
  | [d1, d2, d3] => { results := [.lit (.bool true)], args := [d1, d2, d3] }
  | _ => none }
def fnExactRaiseTariffRow : OpenClaim := { program := "ytdafonbeinildaa", sum := "41a5f68a997cc0c1c9d666b3e70b8fe8909a89635f777cea60ceb0f0cc70a197", func := "loop.example/g01011/laws.FnExactRaiseTariff", spec := "fnExactRaiseTariff", apart := false }
def FnExactRaiseTariffSaid : Prop := fnExactRaiseTariffRow.holds Try.pinned (OpenSpec.ofChange fnExactRaiseTariffSpec)

/-- ITS FALSE NEIGHBOUR: 'it returns false'. Refute it at one input. -/
def fnExactRaiseTariffWrong : ChangeSpec := { name := "fnExactRaiseTariff", fn := fun _ => fun
  | [d1, d2, d3] => { results := [.lit (.bool false)], args := [d1, d2, d3] }
  | _ => none }
def FnExactRaiseTariffWrongFalsely : Prop := fnExactRaiseTariffRow.holds Try.pinned (OpenSpec.ofChange fnExactRaiseTariffWrong)

/-- 'laws.FnExactHeatWithin': WHATEVER THE INPUT: true; the input reads as it did. -/
def fnExactHeatWithinSpec : ChangeSpec := { name := "fnExactHeatWithin", fn := fun _ => fun
  | [d1, d2, d3] => { results := [.lit (.bool true)], args := [d1, d2, d3] }
  | _ => none }
def fnExactHeatWithinRow : OpenClaim := { program := "ytdafonbeinildaa", sum := "41a5f68a997cc0c1c9d666b3e70b8fe8909a89635f777cea60ceb0f0cc70a197", func := "loop.example/g01011/laws.FnExactHeatWithin", spec := "fnExactHeatWithin", unfollowed := true, recurses := true, apart := false }
def FnExactHeatWithinSaid : Prop := fnExactHeatWithinRow.holds Try.pinned (OpenSpec.ofChange fnExactHeatWithinSpec)

/-- ITS FALSE NEIGHBOUR: 'it returns false'. Refute it at one input. -/
def fnExactHeatWithinWrong : ChangeSpec := { name := "fnExactHeatWithin", fn := fun _ => fun
  | [d1, d2, d3] => { results := [.lit (.bool false)], args := [d1, d2, d3] }
  | _ => none }
def FnExactHeatWithinWrongFalsely : Prop := fnExactHeatWithinRow.holds Try.pinned (OpenSpec.ofChange fnExactHeatWithinWrong)

/-- 'laws.FnExactBestTariff': WHATEVER THE INPUT: true; the input reads as it did. -/
def fnExactBestTariffSpec : ChangeSpec := { name := "fnExactBestTariff", fn := fun _ => fun
  | [d1, d2, d3] => { results := [.lit (.bool true)], args := [d1, d2, d3] }
  | _ => none }
def fnExactBestTariffRow : OpenClaim := { program := "ytdafonbeinildaa", sum := "41a5f68a997cc0c1c9d666b3e70b8fe8909a89635f777cea60ceb0f0cc70a197", func := "loop.example/g01011/laws.FnExactBestTariff", spec := "fnExactBestTariff", unfollowed := true, recurses := true, apart := false }
def FnExactBestTariffSaid : Prop := fnExactBestTariffRow.holds Try.pinned (OpenSpec.ofChange fnExactBestTariffSpec)

/-- ITS FALSE NEIGHBOUR: 'it returns false'. Refute it at one input. -/
def fnExactBestTariffWrong : ChangeSpec := { name := "fnExactBestTariff", fn := fun _ => fun
  | [d1, d2, d3] => { results := [.lit (.bool false)], args := [d1, d2, d3] }
  | _ => none }
def FnExactBestTariffWrongFalsely : Prop := fnExactBestTariffRow.holds Try.pinned (OpenSpec.ofChange fnExactBestTariffWrong)

/-- 'laws.FnExactYearBill': WHATEVER THE INPUT: true; the input reads as it did. -/
def fnExactYearBillSpec : ChangeSpec := { name := "fnExactYearBill", fn := fun _ => fun
  | [d1, d2, d3] => { results := [.lit (.bool true)], args := [d1, d2, d3] }
  | _ => none }
def fnExactYearBillRow : OpenClaim := { program := "ytdafonbeinildaa", sum := "41a5f68a997cc0c1c9d666b3e70b8fe8909a89635f777cea60ceb0f0cc70a197", func := "loop.example/g01011/laws.FnExactYearBill", spec := "fnExactYearBill", unfollowed := true, recurses := true, apart := false }
def FnExactYearBillSaid : Prop := fnExactYearBillRow.holds Try.pinned (OpenSpec.ofChange fnExactYearBillSpec)

/-- ITS FALSE NEIGHBOUR: 'it returns false'. Refute it at one input. -/
def fnExactYearBillWrong : ChangeSpec := { name := "fnExactYearBill", fn := fun _ => fun
  | [d1, d2, d3] => { results := [.lit (.bool false)], args := [d1, d2, d3] }
  | _ => none }
def FnExactYearBillWrongFalsely : Prop := fnExactYearBillRow.holds Try.pinned (OpenSpec.ofChange fnExactYearBillWrong)

/-- 'laws.FnBills': WHATEVER THE INPUT: true; the input reads as it did. -/
def fnBillsSpec : ChangeSpec := { name := "fnBills", fn := fun _ => fun
  | [d1, d2] => { results := [.lit (.bool true)], args := [d1, d2] }
  | _ => none }
def fnBillsRow : OpenClaim := { program := "ytdafonbeinildaa", sum := "41a5f68a997cc0c1c9d666b3e70b8fe8909a89635f777cea60ceb0f0cc70a197", func := "loop.example/g01011/laws.FnBills", spec := "fnBills", unfollowed := true, recurses := true, apart := false }
def FnBillsSaid : Prop := fnBillsRow.holds Try.pinned (OpenSpec.ofChange fnBillsSpec)

/-- ITS FALSE NEIGHBOUR: 'it returns false'. Refute it at one input. -/
def fnBillsWrong : ChangeSpec := { name := "fnBills", fn := fun _ => fun
  | [d1, d2] => { results := [.lit (.bool false)], args := [d1, d2] }
  | _ => none }
def FnBillsWrongFalsely : Prop := fnBillsRow.holds Try.pinned (OpenSpec.ofChange fnBillsWrong)

/- THE SECOND FORM. 'bulk': how many values and letters a reading holds, each counted each time it is reached (what is shared counts as often as it is met; a slice's spare places count too). A statement '..UptoSaid' is the law's where the arguments, and the package variables that the reading takes, are together of bulk at most 1048576: NARROWER than '..Said'. Prove '..Said' where nothing that the law and all that it calls make is longer than what came in: it says more and counts as full. Else prove '..UptoSaid'. A law counts once. -/
mutual
def uptoBulk {H : Type} : DataW H → Nat
  | .lit (.string bytes) => bytes.length + 1
  | .lit _ => 1
  | .nil => 1
  | .ptr d => uptoBulk d + 1
  | .slice elems spare => uptoBulkAll elems + uptoBulkAll spare + 1
  | .agg parts => uptoBulkAll parts + 1
  | .iface _ d => uptoBulk d + 1
  | .map entries => uptoBulkEntries entries + 1
  | .held _ => 1
def uptoBulkAll {H : Type} : List (DataW H) → Nat
  | [] => 0
  | d :: r => uptoBulk d + uptoBulkAll r
def uptoBulkEntries {H : Type} : List (Lit × DataW H) → Nat
  | [] => 0
  | x :: r => uptoBulkEntry x + uptoBulkEntries r
def uptoBulkEntry {H : Type} : Lit × DataW H → Nat
  | (.string bytes, d) => bytes.length + uptoBulk d + 1
  | (_, d) => uptoBulk d + 1
 end
def uptoSmall : (H : Type) → List (DataW H) → Bool := fun _ ds => decide (uptoBulkAll ds ≤ 1048576)
def OpenSpec.upto (s : _root_.Go.ChangeSpec) : _root_.Go.OpenSpec := { _root_.Go.OpenSpec.ofChange s with cond := some uptoSmall }

/-- 'laws.FnExactValidTariff', WHERE WHAT IT READS IS OF BULK AT MOST 1048576: true; the input reads as it did. -/
def fnExactValidTariffUptoRow : OpenClaim := { program := "ytdafonbeinildaa", sum := "41a5f68a997cc0c1c9d666b3e70b8fe8909a89635f777cea60ceb0f0cc70a197", func := "loop.example/g01011/laws.FnExactValidTariff", spec := "fnExactValidTariff", apart := false, narrowed := true }
def FnExactValidTariffUptoSaid : Prop := fnExactValidTariffUptoRow.holds Try.pinned (OpenSpec.upto fnExactValidTariffSpec)

/-- 'laws.FnExactNextPrice', WHERE WHAT IT READS IS OF BULK AT MOST 1048576: true; the input reads as it did. -/
def fnExactNextPriceUptoRow : OpenClaim := { program := "ytdafonbeinildaa", sum := "41a5f68a997cc0c1c9d666b3e70b8fe8909a89635f777cea60ceb0f0cc70a197", func := "loop.example/g01011/laws.FnExactNextPrice", spec := "fnExactNextPrice", apart := false, narrowed := true }
def FnExactNextPriceUptoSaid : Prop := fnExactNextPriceUptoRow.holds Try.pinned (OpenSpec.upto fnExactNextPriceSpec)

/-- 'laws.FnExactHeatCost', WHERE WHAT IT READS IS OF BULK AT MOST 1048576: true; the input reads as it did. -/
def fnExactHeatCostUptoRow : OpenClaim := { program := "ytdafonbeinildaa", sum := "41a5f68a997cc0c1c9d666b3e70b8fe8909a89635f777cea60ceb0f0cc70a197", func := "loop.example/g01011/laws.FnExactHeatCost", spec := "fnExactHeatCost", apart := false, narrowed := true }
def FnExactHeatCostUptoSaid : Prop := fnExactHeatCostUptoRow.holds Try.pinned (OpenSpec.upto fnExactHeatCostSpec)

/-- 'laws.FnExactBillOf', WHERE WHAT IT READS IS OF BULK AT MOST 1048576: true; the input reads as it did. -/
def fnExactBillOfUptoRow : OpenClaim := { program := "ytdafonbeinildaa", sum := "41a5f68a997cc0c1c9d666b3e70b8fe8909a89635f777cea60ceb0f0cc70a197", func := "loop.example/g01011/laws.FnExactBillOf", spec := "fnExactBillOf", apart := false, narrowed := true }
def FnExactBillOfUptoSaid : Prop := fnExactBillOfUptoRow.holds Try.pinned (OpenSpec.upto fnExactBillOfSpec)

/-- 'laws.FnExactRaiseTariff', WHERE WHAT IT READS IS OF BULK AT MOST 1048576: true; the input reads as it did. -/
def fnExactRaiseTariffUptoRow : OpenClaim := { program := "ytdafonbeinildaa", sum := "41a5f68a997cc0c1c9d666b3e70b8fe8909a89635f777cea60ceb0f0cc70a197", func := "loop.example/g01011/laws.FnExactRaiseTariff", spec := "fnExactRaiseTariff", apart := false, narrowed := true }
def FnExactRaiseTariffUptoSaid : Prop := fnExactRaiseTariffUptoRow.holds Try.pinned (OpenSpec.upto fnExactRaiseTariffSpec)

/-- 'laws.FnExactHeatWithin', WHERE WHAT IT READS IS OF BULK AT MOST 1048576: true; the input reads as it did. -/
def fnExactHeatWithinUptoRow : OpenClaim := { program := "ytdafonbeinildaa", sum := "41a5f68a997cc0c1c9d666b3e70b8fe8909a89635f777cea60ceb0f0cc70a197", func := "loop.example/g01011/laws.FnExactHeatWithin", spec := "fnExactHeatWithin", unfollowed := true, recurses := true, apart := false, narrowed := true }
def FnExactHeatWithinUptoSaid : Prop := fnExactHeatWithinUptoRow.holds Try.pinned (OpenSpec.upto fnExactHeatWithinSpec)

/-- 'laws.FnExactBestTariff', WHERE WHAT IT READS IS OF BULK AT MOST 1048576: true; the input reads as it did. -/
def fnExactBestTariffUptoRow : OpenClaim := { program := "ytdafonbeinildaa", sum := "41a5f68a997cc0c1c9d666b3e70b8fe8909a89635f777cea60ceb0f0cc70a197", func := "loop.example/g01011/laws.FnExactBestTariff", spec := "fnExactBestTariff", unfollowed := true, recurses := true, apart := false, narrowed := true }
def FnExactBestTariffUptoSaid : Prop := fnExactBestTariffUptoRow.holds Try.pinned (OpenSpec.upto fnExactBestTariffSpec)

/-- 'laws.FnExactYearBill', WHERE WHAT IT READS IS OF BULK AT MOST 1048576: true; the input reads as it did. -/
def fnExactYearBillUptoRow : OpenClaim := { program := "ytdafonbeinildaa", sum := "41a5f68a997cc0c1c9d666b3e70b8fe8909a89635f777cea60ceb0f0cc70a197", func := "loop.example/g01011/laws.FnExactYearBill", spec := "fnExactYearBill", unfollowed := true, recurses := true, apart := false, narrowed := true }
def FnExactYearBillUptoSaid : Prop := fnExactYearBillUptoRow.holds Try.pinned (OpenSpec.upto fnExactYearBillSpec)

/-- 'laws.FnBills', WHERE WHAT IT READS IS OF BULK AT MOST 1048576: true; the input reads as it did. -/
def fnBillsUptoRow : OpenClaim := { program := "ytdafonbeinildaa", sum := "41a5f68a997cc0c1c9d666b3e70b8fe8909a89635f777cea60ceb0f0cc70a197", func := "loop.example/g01011/laws.FnBills", spec := "fnBills", unfollowed := true, recurses := true, apart := false, narrowed := true }
def FnBillsUptoSaid : Prop := fnBillsUptoRow.holds Try.pinned (OpenSpec.upto fnBillsSpec)

end Rows
end Go.Proofs.Ytdafonbeinildaa
