/-
  DERIVED. GIVEN WITH THE SEED: THE CARDS: each row of YtdiboljniaolfaaDoorRows.lean that lists a variable, with what it lists TIED to the program's text (the seventh form; the later family's looks); each row that meets fmt, with fmt's text TOLD by the authors' own Lean function (tested against real Go, not proved from fmt's source: count such statements apart). THE CARD IS WHAT COUNTS. Prove the row's statement (the work); the ties are given (YtdiboljniaolfaaDoorTie.lean); close each card by the builder's one call (the guide's Derived/Test/ToyasCard.lean, 'card_holds'). Laid BY PROGRAM, IN A SANDBOX (cutbox-door.mjs). By AI agents, Wed Nov 11 2026. No macro, syntax, notation, axiom, sorry.
-/
import Derived.Test.YtdiboljniaolfaaDoorRows
import GoSem.ClaimSeven
namespace Go.Proofs.YtdiboljniaolfaaDoor
namespace Rows

/-- THE TIED CARD OF 'laws.FnExactTariffText'. -/
def fnExactTariffTextCard : Claim7 := { stood := { row := fnExactTariffTextRow, standIns := [], harness := (true, "84e05c6d02e80004786e8df0ce1332d11044af8ac3fb0ad051337e165727f16a"), looks := false }, kinds := [], alts := [], laidByText := true, laidKinds := [.data, .data, .data], laidTests := true, laidLooks := .later }
def FnExactTariffTextCardSaid : Prop := Claim7.holds Tryd.pinned (.plain (OpenSpec.ofChange fnExactTariffTextSpec)) fnExactTariffTextCard

/-- THE SECOND FORM's CARD OF 'laws.FnExactTariffText'. -/
def fnExactTariffTextUptoCard : Claim7 := { stood := { row := fnExactTariffTextUptoRow, standIns := [], harness := (true, "84e05c6d02e80004786e8df0ce1332d11044af8ac3fb0ad051337e165727f16a"), looks := false }, kinds := [], alts := [], laidByText := true, laidKinds := [.data, .data, .data], laidTests := true, laidLooks := .later }
def FnExactTariffTextUptoCardSaid : Prop := Claim7.holds Tryd.pinned (.plain (OpenSpec.upto fnExactTariffTextSpec)) fnExactTariffTextUptoCard
end Rows
end Go.Proofs.YtdiboljniaolfaaDoor
