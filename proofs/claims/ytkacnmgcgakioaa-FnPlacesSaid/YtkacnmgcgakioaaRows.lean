/-
  No cell of these rows narrows 'for every input' (looked for: loops, veiled, ifaces, maps, wideKeys, modest, calm, conditions, laid).
  DERIVED. THE GIVEN ROWS OF THIS SEAT. 12 by the template 'for every input the law returns true; each argument reads behind the call as it read before'; 0 by the template 'total and deterministic' (their statements: YtkacnmgcgakioaaTotals.lean).
  GIVEN WITH THE SEED: the statements are not yours to turn. If you find one false, say at which input.
  Laid BY PROGRAM, IN A SANDBOX (cutbox-rows.mjs): the forced cells as the released guide's own fill.sh prints them over the translation b9973548ccd8a2e1… (all of the seat's roots in one cut). By AI agents, Wed Nov 11 2026. No macro, syntax, notation, axiom, sorry.
-/
import Derived.Test.YtkacnmgcgakioaaChecked
import GoSem.Claim
import GoSem.ClaimJoined
import GoSem.ClaimMapViews
import Derived.JoinedTies
import Derived.KernelRfl
namespace Go.Proofs.Ytkacnmgcgakioaa
/- THE CELL 'sum', in the pinned program and in every row, IS THE sha256 OF THE DUMP (.gsa) THAT YtkacnmgcgakioaaProg.lean LOADS. Nothing in Lean hashes anything: it is a label: what it is worth is what the hold of that sum in a sandbox is worth. -/
noncomputable def Try.pinned : Pinned := { name := "ytkacnmgcgakioaa", sum := "b9973548ccd8a2e1ae683e8cc475c4ab9a6edcd65546e8246ad52943d84da292", checked := Try.checked }
namespace Rows
def none {H : Type} : Left H := { results := [], args := [] }

/-- 'laws.FnExactPlaceOf': WHATEVER THE INPUT: true; the input reads as it did. -/
def fnExactPlaceOfSpec : ChangeSpec := { name := "fnExactPlaceOf", fn := fun _ => fun
  | [d1, d2, d3, d4, d5] => { results := [.lit (.bool true)], args := [d1, d2, d3, d4, d5] }
  | _ => none }
def fnExactPlaceOfRow : OpenClaim := { program := "ytkacnmgcgakioaa", sum := "b9973548ccd8a2e1ae683e8cc475c4ab9a6edcd65546e8246ad52943d84da292", func := "loop.example/g01011/laws.FnExactPlaceOf", spec := "fnExactPlaceOf", apart := false }
def FnExactPlaceOfSaid : Prop := fnExactPlaceOfRow.holds Try.pinned (OpenSpec.ofChange fnExactPlaceOfSpec)

/-- ITS FALSE NEIGHBOUR: 'it returns false'. Refute it at one input. -/
def fnExactPlaceOfWrong : ChangeSpec := { name := "fnExactPlaceOf", fn := fun _ => fun
  | [d1, d2, d3, d4, d5] => { results := [.lit (.bool false)], args := [d1, d2, d3, d4, d5] }
  | _ => none }
def FnExactPlaceOfWrongFalsely : Prop := fnExactPlaceOfRow.holds Try.pinned (OpenSpec.ofChange fnExactPlaceOfWrong)

/-- 'laws.FnExactTaxOf': WHATEVER THE INPUT: true; the input reads as it did. -/
def fnExactTaxOfSpec : ChangeSpec := { name := "fnExactTaxOf", fn := fun _ => fun
  | [d1, d2] => { results := [.lit (.bool true)], args := [d1, d2] }
  | _ => none }
def fnExactTaxOfRow : OpenClaim := { program := "ytkacnmgcgakioaa", sum := "b9973548ccd8a2e1ae683e8cc475c4ab9a6edcd65546e8246ad52943d84da292", func := "loop.example/g01011/laws.FnExactTaxOf", spec := "fnExactTaxOf", apart := false }
def FnExactTaxOfSaid : Prop := fnExactTaxOfRow.holds Try.pinned (OpenSpec.ofChange fnExactTaxOfSpec)

/-- ITS FALSE NEIGHBOUR: 'it returns false'. Refute it at one input. -/
def fnExactTaxOfWrong : ChangeSpec := { name := "fnExactTaxOf", fn := fun _ => fun
  | [d1, d2] => { results := [.lit (.bool false)], args := [d1, d2] }
  | _ => none }
def FnExactTaxOfWrongFalsely : Prop := fnExactTaxOfRow.holds Try.pinned (OpenSpec.ofChange fnExactTaxOfWrong)

/-- 'laws.FnExactValveText': WHATEVER THE INPUT: true; the input reads as it did. -/
def fnExactValveTextSpec : ChangeSpec := { name := "fnExactValveText", fn := fun _ => fun
  | [d] => { results := [.lit (.bool true)], args := [d] }
  | _ => none }
def fnExactValveTextRow : OpenClaim := { program := "ytkacnmgcgakioaa", sum := "b9973548ccd8a2e1ae683e8cc475c4ab9a6edcd65546e8246ad52943d84da292", func := "loop.example/g01011/laws.FnExactValveText", spec := "fnExactValveText", apart := false }
def FnExactValveTextSaid : Prop := fnExactValveTextRow.holds Try.pinned (OpenSpec.ofChange fnExactValveTextSpec)

/-- ITS FALSE NEIGHBOUR: 'it returns false'. Refute it at one input. -/
def fnExactValveTextWrong : ChangeSpec := { name := "fnExactValveText", fn := fun _ => fun
  | [d] => { results := [.lit (.bool false)], args := [d] }
  | _ => none }
def FnExactValveTextWrongFalsely : Prop := fnExactValveTextRow.holds Try.pinned (OpenSpec.ofChange fnExactValveTextWrong)

/-- 'laws.FnExactPayBack': WHATEVER THE INPUT: true; the input reads as it did. -/
def fnExactPayBackSpec : ChangeSpec := { name := "fnExactPayBack", fn := fun _ => fun
  | [d1, d2] => { results := [.lit (.bool true)], args := [d1, d2] }
  | _ => none }
def fnExactPayBackRow : OpenClaim := { program := "ytkacnmgcgakioaa", sum := "b9973548ccd8a2e1ae683e8cc475c4ab9a6edcd65546e8246ad52943d84da292", func := "loop.example/g01011/laws.FnExactPayBack", spec := "fnExactPayBack", unfollowed := true, recurses := true, apart := false }
def FnExactPayBackSaid : Prop := fnExactPayBackRow.holds Try.pinned (OpenSpec.ofChange fnExactPayBackSpec)

/-- ITS FALSE NEIGHBOUR: 'it returns false'. Refute it at one input. -/
def fnExactPayBackWrong : ChangeSpec := { name := "fnExactPayBack", fn := fun _ => fun
  | [d1, d2] => { results := [.lit (.bool false)], args := [d1, d2] }
  | _ => none }
def FnExactPayBackWrongFalsely : Prop := fnExactPayBackRow.holds Try.pinned (OpenSpec.ofChange fnExactPayBackWrong)

/-- 'laws.FnExactAllowancesLeft': WHATEVER THE INPUT: true; the input reads as it did. -/
def fnExactAllowancesLeftSpec : ChangeSpec := { name := "fnExactAllowancesLeft", fn := fun _ => fun
  | [d1, d2] => { results := [.lit (.bool true)], args := [d1, d2] }
  | _ => none }
def fnExactAllowancesLeftRow : OpenClaim := { program := "ytkacnmgcgakioaa", sum := "b9973548ccd8a2e1ae683e8cc475c4ab9a6edcd65546e8246ad52943d84da292", func := "loop.example/g01011/laws.FnExactAllowancesLeft", spec := "fnExactAllowancesLeft", unfollowed := true, recurses := true, apart := false }
def FnExactAllowancesLeftSaid : Prop := fnExactAllowancesLeftRow.holds Try.pinned (OpenSpec.ofChange fnExactAllowancesLeftSpec)

/-- ITS FALSE NEIGHBOUR: 'it returns false'. Refute it at one input. -/
def fnExactAllowancesLeftWrong : ChangeSpec := { name := "fnExactAllowancesLeft", fn := fun _ => fun
  | [d1, d2] => { results := [.lit (.bool false)], args := [d1, d2] }
  | _ => none }
def FnExactAllowancesLeftWrongFalsely : Prop := fnExactAllowancesLeftRow.holds Try.pinned (OpenSpec.ofChange fnExactAllowancesLeftWrong)

/-- 'laws.FnExactPressureTest': WHATEVER THE INPUT: true; the input reads as it did. -/
def fnExactPressureTestSpec : ChangeSpec := { name := "fnExactPressureTest", fn := fun _ => fun
  | [d1, d2] => { results := [.lit (.bool true)], args := [d1, d2] }
  | _ => none }
def fnExactPressureTestRow : OpenClaim := { program := "ytkacnmgcgakioaa", sum := "b9973548ccd8a2e1ae683e8cc475c4ab9a6edcd65546e8246ad52943d84da292", func := "loop.example/g01011/laws.FnExactPressureTest", spec := "fnExactPressureTest", unfollowed := true, recurses := true, apart := false }
def FnExactPressureTestSaid : Prop := fnExactPressureTestRow.holds Try.pinned (OpenSpec.ofChange fnExactPressureTestSpec)

/-- ITS FALSE NEIGHBOUR: 'it returns false'. Refute it at one input. -/
def fnExactPressureTestWrong : ChangeSpec := { name := "fnExactPressureTest", fn := fun _ => fun
  | [d1, d2] => { results := [.lit (.bool false)], args := [d1, d2] }
  | _ => none }
def FnExactPressureTestWrongFalsely : Prop := fnExactPressureTestRow.holds Try.pinned (OpenSpec.ofChange fnExactPressureTestWrong)

/-- 'laws.FnPlaces': WHATEVER THE INPUT: true; the input reads as it did. -/
def fnPlacesSpec : ChangeSpec := { name := "fnPlaces", fn := fun _ => fun
  | [d1, d2] => { results := [.lit (.bool true)], args := [d1, d2] }
  | _ => none }
def fnPlacesRow : OpenClaim := { program := "ytkacnmgcgakioaa", sum := "b9973548ccd8a2e1ae683e8cc475c4ab9a6edcd65546e8246ad52943d84da292", func := "loop.example/g01011/laws.FnPlaces", spec := "fnPlaces", unfollowed := true, recurses := true, apart := false }
def FnPlacesSaid : Prop := fnPlacesRow.holds Try.pinned (OpenSpec.ofChange fnPlacesSpec)

/-- ITS FALSE NEIGHBOUR: 'it returns false'. Refute it at one input. -/
def fnPlacesWrong : ChangeSpec := { name := "fnPlaces", fn := fun _ => fun
  | [d1, d2] => { results := [.lit (.bool false)], args := [d1, d2] }
  | _ => none }
def FnPlacesWrongFalsely : Prop := fnPlacesRow.holds Try.pinned (OpenSpec.ofChange fnPlacesWrong)

/-- 'laws.FnExactMeetPlaces': WHATEVER THE INPUT: true; the input reads as it did. -/
def fnExactMeetPlacesSpec : ChangeSpec := { name := "fnExactMeetPlaces", fn := fun _ => fun
  | [d] => { results := [.lit (.bool true)], args := [d] }
  | _ => none }
def fnExactMeetPlacesRow : OpenClaim := { program := "ytkacnmgcgakioaa", sum := "b9973548ccd8a2e1ae683e8cc475c4ab9a6edcd65546e8246ad52943d84da292", func := "loop.example/g01011/laws.FnExactMeetPlaces", spec := "fnExactMeetPlaces", apart := false }
def FnExactMeetPlacesSaid : Prop := fnExactMeetPlacesRow.holds Try.pinned (OpenSpec.ofChange fnExactMeetPlacesSpec)

/-- ITS FALSE NEIGHBOUR: 'it returns false'. Refute it at one input. -/
def fnExactMeetPlacesWrong : ChangeSpec := { name := "fnExactMeetPlaces", fn := fun _ => fun
  | [d] => { results := [.lit (.bool false)], args := [d] }
  | _ => none }
def FnExactMeetPlacesWrongFalsely : Prop := fnExactMeetPlacesRow.holds Try.pinned (OpenSpec.ofChange fnExactMeetPlacesWrong)

/-- 'laws.FnExactDigPlace': WHATEVER THE INPUT: true; the input reads as it did. -/
def fnExactDigPlaceSpec : ChangeSpec := { name := "fnExactDigPlace", fn := fun _ => fun
  | [d] => { results := [.lit (.bool true)], args := [d] }
  | _ => none }
def fnExactDigPlaceRow : OpenClaim := { program := "ytkacnmgcgakioaa", sum := "b9973548ccd8a2e1ae683e8cc475c4ab9a6edcd65546e8246ad52943d84da292", func := "loop.example/g01011/laws.FnExactDigPlace", spec := "fnExactDigPlace", apart := false }
def FnExactDigPlaceSaid : Prop := fnExactDigPlaceRow.holds Try.pinned (OpenSpec.ofChange fnExactDigPlaceSpec)

/-- ITS FALSE NEIGHBOUR: 'it returns false'. Refute it at one input. -/
def fnExactDigPlaceWrong : ChangeSpec := { name := "fnExactDigPlace", fn := fun _ => fun
  | [d] => { results := [.lit (.bool false)], args := [d] }
  | _ => none }
def FnExactDigPlaceWrongFalsely : Prop := fnExactDigPlaceRow.holds Try.pinned (OpenSpec.ofChange fnExactDigPlaceWrong)

/-- 'laws.FnExactLossOf': WHATEVER THE INPUT: true; the input reads as it did. -/
def fnExactLossOfSpec : ChangeSpec := { name := "fnExactLossOf", fn := fun _ => fun
  | [d1, d2, d3] => { results := [.lit (.bool true)], args := [d1, d2, d3] }
  | _ => none }
def fnExactLossOfRow : OpenClaim := { program := "ytkacnmgcgakioaa", sum := "b9973548ccd8a2e1ae683e8cc475c4ab9a6edcd65546e8246ad52943d84da292", func := "loop.example/g01011/laws.FnExactLossOf", spec := "fnExactLossOf", unfollowed := true, recurses := true, apart := false }
def FnExactLossOfSaid : Prop := fnExactLossOfRow.holds Try.pinned (OpenSpec.ofChange fnExactLossOfSpec)

/-- ITS FALSE NEIGHBOUR: 'it returns false'. Refute it at one input. -/
def fnExactLossOfWrong : ChangeSpec := { name := "fnExactLossOf", fn := fun _ => fun
  | [d1, d2, d3] => { results := [.lit (.bool false)], args := [d1, d2, d3] }
  | _ => none }
def FnExactLossOfWrongFalsely : Prop := fnExactLossOfRow.holds Try.pinned (OpenSpec.ofChange fnExactLossOfWrong)

/-- 'laws.FnExactSpeedOf': WHATEVER THE INPUT: true; the input reads as it did. -/
def fnExactSpeedOfSpec : ChangeSpec := { name := "fnExactSpeedOf", fn := fun _ => fun
  | [d1, d2] => { results := [.lit (.bool true)], args := [d1, d2] }
  | _ => none }
def fnExactSpeedOfRow : OpenClaim := { program := "ytkacnmgcgakioaa", sum := "b9973548ccd8a2e1ae683e8cc475c4ab9a6edcd65546e8246ad52943d84da292", func := "loop.example/g01011/laws.FnExactSpeedOf", spec := "fnExactSpeedOf", unfollowed := true, recurses := true, apart := false }
def FnExactSpeedOfSaid : Prop := fnExactSpeedOfRow.holds Try.pinned (OpenSpec.ofChange fnExactSpeedOfSpec)

/-- ITS FALSE NEIGHBOUR: 'it returns false'. Refute it at one input. -/
def fnExactSpeedOfWrong : ChangeSpec := { name := "fnExactSpeedOf", fn := fun _ => fun
  | [d1, d2] => { results := [.lit (.bool false)], args := [d1, d2] }
  | _ => none }
def FnExactSpeedOfWrongFalsely : Prop := fnExactSpeedOfRow.holds Try.pinned (OpenSpec.ofChange fnExactSpeedOfWrong)

/-- 'laws.FnExactRangeLoss': WHATEVER THE INPUT: true; the input reads as it did. -/
def fnExactRangeLossSpec : ChangeSpec := { name := "fnExactRangeLoss", fn := fun _ => fun
  | [d1, d2, d3] => { results := [.lit (.bool true)], args := [d1, d2, d3] }
  | _ => none }
def fnExactRangeLossRow : OpenClaim := { program := "ytkacnmgcgakioaa", sum := "b9973548ccd8a2e1ae683e8cc475c4ab9a6edcd65546e8246ad52943d84da292", func := "loop.example/g01011/laws.FnExactRangeLoss", spec := "fnExactRangeLoss", unfollowed := true, recurses := true, apart := false }
def FnExactRangeLossSaid : Prop := fnExactRangeLossRow.holds Try.pinned (OpenSpec.ofChange fnExactRangeLossSpec)

/-- ITS FALSE NEIGHBOUR: 'it returns false'. Refute it at one input. -/
def fnExactRangeLossWrong : ChangeSpec := { name := "fnExactRangeLoss", fn := fun _ => fun
  | [d1, d2, d3] => { results := [.lit (.bool false)], args := [d1, d2, d3] }
  | _ => none }
def FnExactRangeLossWrongFalsely : Prop := fnExactRangeLossRow.holds Try.pinned (OpenSpec.ofChange fnExactRangeLossWrong)

/- THE SECOND FORM. 'bulk': how many values and letters a reading holds, each counted each time it is reached (what is shared counts as often as it is met; a slice's spare places count too). A statement '..UptoSaid' is the law's where the arguments, and the package variables that the reading takes, are together of bulk at most 1048576: NARROWER than '..Said'. Prove '..Said' where nothing that the law and all that it calls make is longer than what came in: it says more and counts as full. Else prove '..UptoSaid'. A law counts once. -/
mutual
def uptoBulk {H : Type} : DataW H → Nat
  | .lit (.string bytes) => bytes.length + 1
  | .lit _ => 1
  | .nil => 1
  | .ptr d => uptoBulk d + 1
  | .slice elems spare => uptoBulkAll elems + uptoBulkAll spare + 1
  | .agg parts => uptoBulkAll parts + 1
  | .iface _ d => uptoBulk d + 1
  | .map entries => uptoBulkEntries entries + 1
  | .held _ => 1
def uptoBulkAll {H : Type} : List (DataW H) → Nat
  | [] => 0
  | d :: r => uptoBulk d + uptoBulkAll r
def uptoBulkEntries {H : Type} : List (Lit × DataW H) → Nat
  | [] => 0
  | x :: r => uptoBulkEntry x + uptoBulkEntries r
def uptoBulkEntry {H : Type} : Lit × DataW H → Nat
  | (.string bytes, d) => bytes.length + uptoBulk d + 1
  | (_, d) => uptoBulk d + 1
 end
def uptoSmall : (H : Type) → List (DataW H) → Bool := fun _ ds => decide (uptoBulkAll ds ≤ 1048576)
def OpenSpec.upto (s : _root_.Go.ChangeSpec) : _root_.Go.OpenSpec := { _root_.Go.OpenSpec.ofChange s with cond := some uptoSmall }

/-- 'laws.FnExactPlaceOf', WHERE WHAT IT READS IS OF BULK AT MOST 1048576: true; the input reads as it did. -/
def fnExactPlaceOfUptoRow : OpenClaim := { program := "ytkacnmgcgakioaa", sum := "b9973548ccd8a2e1ae683e8cc475c4ab9a6edcd65546e8246ad52943d84da292", func := "loop.example/g01011/laws.FnExactPlaceOf", spec := "fnExactPlaceOf", apart := false, narrowed := true }
def FnExactPlaceOfUptoSaid : Prop := fnExactPlaceOfUptoRow.holds Try.pinned (OpenSpec.upto fnExactPlaceOfSpec)

/-- 'laws.FnExactTaxOf', WHERE WHAT IT READS IS OF BULK AT MOST 1048576: true; the input reads as it did. -/
def fnExactTaxOfUptoRow : OpenClaim := { program := "ytkacnmgcgakioaa", sum := "b9973548ccd8a2e1ae683e8cc475c4ab9a6edcd65546e8246ad52943d84da292", func := "loop.example/g01011/laws.FnExactTaxOf", spec := "fnExactTaxOf", apart := false, narrowed := true }
def FnExactTaxOfUptoSaid : Prop := fnExactTaxOfUptoRow.holds Try.pinned (OpenSpec.upto fnExactTaxOfSpec)

/-- 'laws.FnExactValveText', WHERE WHAT IT READS IS OF BULK AT MOST 1048576: true; the input reads as it did. -/
def fnExactValveTextUptoRow : OpenClaim := { program := "ytkacnmgcgakioaa", sum := "b9973548ccd8a2e1ae683e8cc475c4ab9a6edcd65546e8246ad52943d84da292", func := "loop.example/g01011/laws.FnExactValveText", spec := "fnExactValveText", apart := false, narrowed := true }
def FnExactValveTextUptoSaid : Prop := fnExactValveTextUptoRow.holds Try.pinned (OpenSpec.upto fnExactValveTextSpec)

/-- 'laws.FnExactPayBack', WHERE WHAT IT READS IS OF BULK AT MOST 1048576: true; the input reads as it did. -/
def fnExactPayBackUptoRow : OpenClaim := { program := "ytkacnmgcgakioaa", sum := "b9973548ccd8a2e1ae683e8cc475c4ab9a6edcd65546e8246ad52943d84da292", func := "loop.example/g01011/laws.FnExactPayBack", spec := "fnExactPayBack", unfollowed := true, recurses := true, apart := false, narrowed := true }
def FnExactPayBackUptoSaid : Prop := fnExactPayBackUptoRow.holds Try.pinned (OpenSpec.upto fnExactPayBackSpec)

/-- 'laws.FnExactAllowancesLeft', WHERE WHAT IT READS IS OF BULK AT MOST 1048576: true; the input reads as it did. -/
def fnExactAllowancesLeftUptoRow : OpenClaim := { program := "ytkacnmgcgakioaa", sum := "b9973548ccd8a2e1ae683e8cc475c4ab9a6edcd65546e8246ad52943d84da292", func := "loop.example/g01011/laws.FnExactAllowancesLeft", spec := "fnExactAllowancesLeft", unfollowed := true, recurses := true, apart := false, narrowed := true }
def FnExactAllowancesLeftUptoSaid : Prop := fnExactAllowancesLeftUptoRow.holds Try.pinned (OpenSpec.upto fnExactAllowancesLeftSpec)

/-- 'laws.FnExactPressureTest', WHERE WHAT IT READS IS OF BULK AT MOST 1048576: true; the input reads as it did. -/
def fnExactPressureTestUptoRow : OpenClaim := { program := "ytkacnmgcgakioaa", sum := "b9973548ccd8a2e1ae683e8cc475c4ab9a6edcd65546e8246ad52943d84da292", func := "loop.example/g01011/laws.FnExactPressureTest", spec := "fnExactPressureTest", unfollowed := true, recurses := true, apart := false, narrowed := true }
def FnExactPressureTestUptoSaid : Prop := fnExactPressureTestUptoRow.holds Try.pinned (OpenSpec.upto fnExactPressureTestSpec)

/-- 'laws.FnPlaces', WHERE WHAT IT READS IS OF BULK AT MOST 1048576: true; the input reads as it did. -/
def fnPlacesUptoRow : OpenClaim := { program := "ytkacnmgcgakioaa", sum := "b9973548ccd8a2e1ae683e8cc475c4ab9a6edcd65546e8246ad52943d84da292", func := "loop.example/g01011/laws.FnPlaces", spec := "fnPlaces", unfollowed := true, recurses := true, apart := false, narrowed := true }
def FnPlacesUptoSaid : Prop := fnPlacesUptoRow.holds Try.pinned (OpenSpec.upto fnPlacesSpec)

/-- 'laws.FnExactMeetPlaces', WHERE WHAT IT READS IS OF BULK AT MOST 1048576: true; the input reads as it did. -/
def fnExactMeetPlacesUptoRow : OpenClaim := { program := "ytkacnmgcgakioaa", sum := "b9973548ccd8a2e1ae683e8cc475c4ab9a6edcd65546e8246ad52943d84da292", func := "loop.example/g01011/laws.FnExactMeetPlaces", spec := "fnExactMeetPlaces", apart := false, narrowed := true }
def FnExactMeetPlacesUptoSaid : Prop := fnExactMeetPlacesUptoRow.holds Try.pinned (OpenSpec.upto fnExactMeetPlacesSpec)

/-- 'laws.FnExactDigPlace', WHERE WHAT IT READS IS OF BULK AT MOST 1048576: true; the input reads as it did. -/
def fnExactDigPlaceUptoRow : OpenClaim := { program := "ytkacnmgcgakioaa", sum := "b9973548ccd8a2e1ae683e8cc475c4ab9a6edcd65546e8246ad52943d84da292", func := "loop.example/g01011/laws.FnExactDigPlace", spec := "fnExactDigPlace", apart := false, narrowed := true }
def FnExactDigPlaceUptoSaid : Prop := fnExactDigPlaceUptoRow.holds Try.pinned (OpenSpec.upto fnExactDigPlaceSpec)

/-- 'laws.FnExactLossOf', WHERE WHAT IT READS IS OF BULK AT MOST 1048576: true; the input reads as it did. -/
def fnExactLossOfUptoRow : OpenClaim := { program := "ytkacnmgcgakioaa", sum := "b9973548ccd8a2e1ae683e8cc475c4ab9a6edcd65546e8246ad52943d84da292", func := "loop.example/g01011/laws.FnExactLossOf", spec := "fnExactLossOf", unfollowed := true, recurses := true, apart := false, narrowed := true }
def FnExactLossOfUptoSaid : Prop := fnExactLossOfUptoRow.holds Try.pinned (OpenSpec.upto fnExactLossOfSpec)

/-- 'laws.FnExactSpeedOf', WHERE WHAT IT READS IS OF BULK AT MOST 1048576: true; the input reads as it did. -/
def fnExactSpeedOfUptoRow : OpenClaim := { program := "ytkacnmgcgakioaa", sum := "b9973548ccd8a2e1ae683e8cc475c4ab9a6edcd65546e8246ad52943d84da292", func := "loop.example/g01011/laws.FnExactSpeedOf", spec := "fnExactSpeedOf", unfollowed := true, recurses := true, apart := false, narrowed := true }
def FnExactSpeedOfUptoSaid : Prop := fnExactSpeedOfUptoRow.holds Try.pinned (OpenSpec.upto fnExactSpeedOfSpec)

/-- 'laws.FnExactRangeLoss', WHERE WHAT IT READS IS OF BULK AT MOST 1048576: true; the input reads as it did. -/
def fnExactRangeLossUptoRow : OpenClaim := { program := "ytkacnmgcgakioaa", sum := "b9973548ccd8a2e1ae683e8cc475c4ab9a6edcd65546e8246ad52943d84da292", func := "loop.example/g01011/laws.FnExactRangeLoss", spec := "fnExactRangeLoss", unfollowed := true, recurses := true, apart := false, narrowed := true }
def FnExactRangeLossUptoSaid : Prop := fnExactRangeLossUptoRow.holds Try.pinned (OpenSpec.upto fnExactRangeLossSpec)

end Rows
end Go.Proofs.Ytkacnmgcgakioaa
