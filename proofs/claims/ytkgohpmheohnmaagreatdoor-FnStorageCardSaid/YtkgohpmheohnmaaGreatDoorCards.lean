/-
  DERIVED. GIVEN WITH THE SEED: THE CARDS: each row of YtkgohpmheohnmaaGreatDoorRows.lean that lists a variable, with what it lists TIED to the program's text (the seventh form; the later family's looks); each row that meets fmt, with fmt's text TOLD by the authors' own Lean function (tested against real Go, not proved from fmt's source: count such statements apart). THE CARD IS WHAT COUNTS. Prove the row's statement (the work); the ties are given (YtkgohpmheohnmaaGreatDoorTie.lean); close each card by the builder's one call (the guide's Derived/Test/ToyasCard.lean, 'card_holds'). Laid BY PROGRAM, IN A SANDBOX (cutbox-door.mjs). By AI agents, Wed Nov 11 2026. No macro, syntax, notation, axiom, sorry.
-/
import Derived.Test.YtkgohpmheohnmaaGreatDoorRows
import GoSem.ClaimSeven
namespace Go.Proofs.YtkgohpmheohnmaaGreatDoor
namespace Rows

/-- THE TIED CARD OF 'laws.FnStorage'. -/
def fnStorageCard : Claim7 := { stood := { row := fnStorageRow, standIns := [], harness := (true, "4344c7d12026f6476dfdc3c958ca0c150685c2f6c21736a16b1d9cb1188b508f"), looks := true }, kinds := [], alts := [], laidByText := true, laidKinds := [.data, .data, .data, .data, .sentinel, .sentinel, .pinned], laidTests := true, laidLooks := .later }
def FnStorageCardSaid : Prop := Claim7.holds Tryz.pinned (.plain (OpenSpec.ofChange fnStorageSpec)) fnStorageCard

/-- THE SECOND FORM's CARD OF 'laws.FnStorage'. -/
def fnStorageUptoCard : Claim7 := { stood := { row := fnStorageUptoRow, standIns := [], harness := (true, "4344c7d12026f6476dfdc3c958ca0c150685c2f6c21736a16b1d9cb1188b508f"), looks := true }, kinds := [], alts := [], laidByText := true, laidKinds := [.data, .data, .data, .data, .sentinel, .sentinel, .pinned], laidTests := true, laidLooks := .later }
def FnStorageUptoCardSaid : Prop := Claim7.holds Tryz.pinned (.plain (OpenSpec.upto fnStorageSpec)) fnStorageUptoCard
end Rows
end Go.Proofs.YtkgohpmheohnmaaGreatDoor
