/-
  DERIVED. GIVEN WITH THE SEED: THE CARDS: each row of YtdhpmiocpjpabaaDoorRows.lean that lists a variable, with what it lists TIED to the program's text (the seventh form; the later family's looks); each row that meets fmt, with fmt's text TOLD by the authors' own Lean function (tested against real Go, not proved from fmt's source: count such statements apart). THE CARD IS WHAT COUNTS. Prove the row's statement (the work); the ties are given (YtdhpmiocpjpabaaDoorTie.lean); close each card by the builder's one call (the guide's Derived/Test/ToyasCard.lean, 'card_holds'). Laid BY PROGRAM, IN A SANDBOX (cutbox-door.mjs). By AI agents, Wed Nov 11 2026. No macro, syntax, notation, axiom, sorry.
-/
import Derived.Test.YtdhpmiocpjpabaaDoorRows
import GoSem.ClaimSeven
namespace Go.Proofs.YtdhpmiocpjpabaaDoor
namespace Rows

/-- THE TIED CARD OF 'laws.FnTariffs'. -/
def fnTariffsCard : Claim7 := { stood := { row := fnTariffsRow, standIns := [], harness := (true, "0163ef463aca9d4fc5d3e0b9329e14a5b874461697d10e68c95c83d7f433a722"), looks := true }, kinds := [], alts := [], laidByText := true, laidKinds := [.data, .data, .data, .data, .sentinel, .sentinel, .pinned], laidTests := true, laidLooks := .later }
def FnTariffsCardSaid : Prop := Claim7.holds Tryd.pinned (.plain (OpenSpec.ofChange fnTariffsSpec)) fnTariffsCard

/-- THE SECOND FORM's CARD OF 'laws.FnTariffs'. -/
def fnTariffsUptoCard : Claim7 := { stood := { row := fnTariffsUptoRow, standIns := [], harness := (true, "0163ef463aca9d4fc5d3e0b9329e14a5b874461697d10e68c95c83d7f433a722"), looks := true }, kinds := [], alts := [], laidByText := true, laidKinds := [.data, .data, .data, .data, .sentinel, .sentinel, .pinned], laidTests := true, laidLooks := .later }
def FnTariffsUptoCardSaid : Prop := Claim7.holds Tryd.pinned (.plain (OpenSpec.upto fnTariffsSpec)) fnTariffsUptoCard
end Rows
end Go.Proofs.YtdhpmiocpjpabaaDoor
