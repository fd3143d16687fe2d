/-
  DERIVED. GIVEN WITH THE SEED: THE CARDS: each row of YtabojdhgbpdcmaaDoorRows.lean that lists a variable, with what it lists TIED to the program's text (the seventh form; the later family's looks); each row that meets fmt, with fmt's text TOLD by the authors' own Lean function (tested against real Go, not proved from fmt's source: count such statements apart). THE CARD IS WHAT COUNTS. Prove the row's statement (the work); the ties are given (YtabojdhgbpdcmaaDoorTie.lean); close each card by the builder's one call (the guide's Derived/Test/ToyasCard.lean, 'card_holds'). Laid BY PROGRAM, IN A SANDBOX (cutbox-door.mjs). By AI agents, Wed Nov 11 2026. No macro, syntax, notation, axiom, sorry.
-/
import Derived.Test.YtabojdhgbpdcmaaDoorRows
import GoSem.ClaimSeven
namespace Go.Proofs.YtabojdhgbpdcmaaDoor
namespace Rows

/-- THE TIED CARD OF 'laws.FnExactReadTariff'. -/
def fnExactReadTariffCard : Claim7 := { stood := { row := fnExactReadTariffRow, standIns := [], harness := (true, "baca88fb352f96454dfa81600aa9bd8f6b25cfce89b92c9615ca5ec2eb4acbe2"), looks := true }, kinds := [], alts := [], laidByText := true, laidKinds := [.data, .data, .data, .data, .sentinel, .sentinel, .pinned], laidTests := true, laidLooks := .later }
def FnExactReadTariffCardSaid : Prop := Claim7.holds Tryd.pinned (.plain (OpenSpec.ofChange fnExactReadTariffSpec)) fnExactReadTariffCard

/-- THE SECOND FORM's CARD OF 'laws.FnExactReadTariff'. -/
def fnExactReadTariffUptoCard : Claim7 := { stood := { row := fnExactReadTariffUptoRow, standIns := [], harness := (true, "baca88fb352f96454dfa81600aa9bd8f6b25cfce89b92c9615ca5ec2eb4acbe2"), looks := true }, kinds := [], alts := [], laidByText := true, laidKinds := [.data, .data, .data, .data, .sentinel, .sentinel, .pinned], laidTests := true, laidLooks := .later }
def FnExactReadTariffUptoCardSaid : Prop := Claim7.holds Tryd.pinned (.plain (OpenSpec.upto fnExactReadTariffSpec)) fnExactReadTariffUptoCard
end Rows
end Go.Proofs.YtabojdhgbpdcmaaDoor
