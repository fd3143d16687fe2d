/-
  DERIVED. GIVEN WITH THE SEED: THE CARDS: each row of YtdlpkndopfocpaaDoorRows.lean that lists a variable, with what it lists TIED to the program's text (the seventh form; the later family's looks); each row that meets fmt, with fmt's text TOLD by the authors' own Lean function (tested against real Go, not proved from fmt's source: count such statements apart). THE CARD IS WHAT COUNTS. Prove the row's statement (the work); the ties are given (YtdlpkndopfocpaaDoorTie.lean); close each card by the builder's one call (the guide's Derived/Test/ToyasCard.lean, 'card_holds'). Laid BY PROGRAM, IN A SANDBOX (cutbox-door.mjs). By AI agents, Wed Nov 11 2026. No macro, syntax, notation, axiom, sorry.
-/
import Derived.Test.YtdlpkndopfocpaaDoorRows
import GoSem.ClaimSeven
namespace Go.Proofs.YtdlpkndopfocpaaDoor
namespace Rows

/-- THE TIED CARD OF 'laws.FnExactReadValve'. -/
def fnExactReadValveCard : Claim7 := { stood := { row := fnExactReadValveRow, standIns := [], harness := (true, "4c58ced10e8f7192ec7d7cf34f5d09c717d77e313ff146d0a13f64c03d1be93a"), looks := false }, kinds := [], alts := [], laidByText := true, laidKinds := [.data, .pinned], laidTests := true, laidLooks := .later }
def FnExactReadValveCardSaid : Prop := Claim7.holds Tryd.pinned (.plain (OpenSpec.ofChange fnExactReadValveSpec)) fnExactReadValveCard

/-- THE SECOND FORM's CARD OF 'laws.FnExactReadValve'. -/
def fnExactReadValveUptoCard : Claim7 := { stood := { row := fnExactReadValveUptoRow, standIns := [], harness := (true, "4c58ced10e8f7192ec7d7cf34f5d09c717d77e313ff146d0a13f64c03d1be93a"), looks := false }, kinds := [], alts := [], laidByText := true, laidKinds := [.data, .pinned], laidTests := true, laidLooks := .later }
def FnExactReadValveUptoCardSaid : Prop := Claim7.holds Tryd.pinned (.plain (OpenSpec.upto fnExactReadValveSpec)) fnExactReadValveUptoCard
end Rows
end Go.Proofs.YtdlpkndopfocpaaDoor
