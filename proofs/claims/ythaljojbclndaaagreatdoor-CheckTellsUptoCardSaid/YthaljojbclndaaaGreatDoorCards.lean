/-
  DERIVED. GIVEN WITH THE SEED: THE CARDS: each row of YthaljojbclndaaaGreatDoorRows.lean that lists a variable, with what it lists TIED to the program's text (the seventh form; the later family's looks); each row that meets fmt, with fmt's text TOLD by the authors' own Lean function (tested against real Go, not proved from fmt's source: count such statements apart). THE CARD IS WHAT COUNTS. Prove the row's statement (the work); the ties are given (YthaljojbclndaaaGreatDoorTie.lean); close each card by the builder's one call (the guide's Derived/Test/ToyasCard.lean, 'card_holds'). Laid BY PROGRAM, IN A SANDBOX (cutbox-door.mjs). By AI agents, Wed Nov 11 2026. No macro, syntax, notation, axiom, sorry.
-/
import Derived.Test.YthaljojbclndaaaGreatDoorRows
import GoSem.ClaimSeven
namespace Go.Proofs.YthaljojbclndaaaGreatDoor
namespace Rows

/-- THE TIED CARD OF 'voussoirlaw07.CheckChecks'. -/
def checkChecksCard : Claim7 := { stood := { row := checkChecksRow, standIns := [], harness := (true, "9ad091592209efea7dece9365f5d25c434e6ebb7b010ab46ef967c7ab53173cd"), looks := true }, kinds := [], alts := [], laidByText := true, laidKinds := [.data, .data, .data, .data, .sentinel, .sentinel, .listed, .data, .pinned], laidTests := true, laidLooks := .later }
def CheckChecksCardSaid : Prop := Claim7.holds Tryz.pinned (.plain (OpenSpec.ofChange checkChecksSpec)) checkChecksCard

/-- THE TIED CARD OF 'voussoirlaw07.CheckTells'. -/
def checkTellsCard : Claim7 := { stood := { row := checkTellsRow, standIns := [], harness := (true, "9ad091592209efea7dece9365f5d25c434e6ebb7b010ab46ef967c7ab53173cd"), looks := true }, kinds := [], alts := [], laidByText := true, laidKinds := [.data, .data, .data, .data, .sentinel, .sentinel, .listed, .data, .pinned], laidTests := true, laidLooks := .later }
def CheckTellsCardSaid : Prop := Claim7.holds Tryz.pinned (.plain (OpenSpec.ofChange checkTellsSpec)) checkTellsCard

/-- THE SECOND FORM's CARD OF 'voussoirlaw07.CheckChecks'. -/
def checkChecksUptoCard : Claim7 := { stood := { row := checkChecksUptoRow, standIns := [], harness := (true, "9ad091592209efea7dece9365f5d25c434e6ebb7b010ab46ef967c7ab53173cd"), looks := true }, kinds := [], alts := [], laidByText := true, laidKinds := [.data, .data, .data, .data, .sentinel, .sentinel, .listed, .data, .pinned], laidTests := true, laidLooks := .later }
def CheckChecksUptoCardSaid : Prop := Claim7.holds Tryz.pinned (.plain (OpenSpec.upto checkChecksSpec)) checkChecksUptoCard

/-- THE SECOND FORM's CARD OF 'voussoirlaw07.CheckTells'. -/
def checkTellsUptoCard : Claim7 := { stood := { row := checkTellsUptoRow, standIns := [], harness := (true, "9ad091592209efea7dece9365f5d25c434e6ebb7b010ab46ef967c7ab53173cd"), looks := true }, kinds := [], alts := [], laidByText := true, laidKinds := [.data, .data, .data, .data, .sentinel, .sentinel, .listed, .data, .pinned], laidTests := true, laidLooks := .later }
def CheckTellsUptoCardSaid : Prop := Claim7.holds Tryz.pinned (.plain (OpenSpec.upto checkTellsSpec)) checkTellsUptoCard
end Rows
end Go.Proofs.YthaljojbclndaaaGreatDoor
