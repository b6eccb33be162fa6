/-
  DERIVED. GIVEN WITH THE SEED: THE CARDS: each row of YtamikhobdffnfaaGreatDoorRows.lean that lists a variable, with what it lists TIED to the program's text (the seventh form; the later family's looks); each row that meets fmt, with fmt's text TOLD by the authors' own Lean function (tested against real Go, not proved from fmt's source: count such statements apart). THE CARD IS WHAT COUNTS. Prove the row's statement (the work); the ties are given (YtamikhobdffnfaaGreatDoorTie.lean); close each card by the builder's one call (the guide's Derived/Test/ToyasCard.lean, 'card_holds'). Laid BY PROGRAM, IN A SANDBOX (cutbox-door.mjs). By AI agents, Wed Nov 11 2026. No macro, syntax, notation, axiom, sorry.
-/
import Derived.Test.YtamikhobdffnfaaGreatDoorRows
import GoSem.ClaimSeven
namespace Go.Proofs.YtamikhobdffnfaaGreatDoor
namespace Rows

/-- THE TIED CARD OF 'voussoirlaw06.DefParses'. -/
def defParsesCard : Claim7 := { stood := { row := defParsesRow, standIns := [], harness := (true, "fdce9dd77080ce3e68a77fc18b50d3827b03e7317bd8e37efe4100c2ebc0fd98"), looks := true }, kinds := [], alts := [], laidByText := true, laidKinds := [.data, .data, .data, .data, .sentinel, .sentinel, .listed, .data, .pinned], laidTests := true, laidLooks := .later }
def DefParsesCardSaid : Prop := Claim7.holds Tryz.pinned (.plain (OpenSpec.ofChange defParsesSpec)) defParsesCard

/-- THE TIED CARD OF 'voussoirlaw06.DefTerms'. -/
def defTermsCard : Claim7 := { stood := { row := defTermsRow, standIns := [], harness := (true, "fdce9dd77080ce3e68a77fc18b50d3827b03e7317bd8e37efe4100c2ebc0fd98"), looks := true }, kinds := [], alts := [], laidByText := true, laidKinds := [.data, .data, .data, .data, .sentinel, .sentinel, .listed, .data, .pinned], laidTests := true, laidLooks := .later }
def DefTermsCardSaid : Prop := Claim7.holds Tryz.pinned (.plain (OpenSpec.ofChange defTermsSpec)) defTermsCard

/-- THE TIED CARD OF 'voussoirlaw06.DefWrites'. -/
def defWritesCard : Claim7 := { stood := { row := defWritesRow, standIns := [], harness := (true, "fdce9dd77080ce3e68a77fc18b50d3827b03e7317bd8e37efe4100c2ebc0fd98"), looks := true }, kinds := [], alts := [], laidByText := true, laidKinds := [.data, .data, .data, .data, .sentinel, .sentinel, .listed, .data, .pinned], laidTests := true, laidLooks := .later }
def DefWritesCardSaid : Prop := Claim7.holds Tryz.pinned (.plain (OpenSpec.ofChange defWritesSpec)) defWritesCard

/-- THE TIED CARD OF 'voussoirlaw06.DefSames'. -/
def defSamesCard : Claim7 := { stood := { row := defSamesRow, standIns := [], harness := (true, "fdce9dd77080ce3e68a77fc18b50d3827b03e7317bd8e37efe4100c2ebc0fd98"), looks := true }, kinds := [], alts := [], laidByText := true, laidKinds := [.data, .data, .data, .data, .sentinel, .sentinel, .listed, .data, .pinned], laidTests := true, laidLooks := .later }
def DefSamesCardSaid : Prop := Claim7.holds Tryz.pinned (.plain (OpenSpec.ofChange defSamesSpec)) defSamesCard

/-- THE TIED CARD OF 'voussoirlaw06.DefLimits'. -/
def defLimitsCard : Claim7 := { stood := { row := defLimitsRow, standIns := [], harness := (true, "fdce9dd77080ce3e68a77fc18b50d3827b03e7317bd8e37efe4100c2ebc0fd98"), looks := true }, kinds := [], alts := [], laidByText := true, laidKinds := [.data, .data, .data, .data, .sentinel, .sentinel, .listed, .data, .pinned], laidTests := true, laidLooks := .later }
def DefLimitsCardSaid : Prop := Claim7.holds Tryz.pinned (.plain (OpenSpec.ofChange defLimitsSpec)) defLimitsCard

/-- THE TIED CARD OF 'voussoirlaw06.DefBack'. -/
def defBackCard : Claim7 := { stood := { row := defBackRow, standIns := [], harness := (true, "fdce9dd77080ce3e68a77fc18b50d3827b03e7317bd8e37efe4100c2ebc0fd98"), looks := true }, kinds := [], alts := [], laidByText := true, laidKinds := [.data, .data, .data, .data, .sentinel, .sentinel, .listed, .data, .pinned], laidTests := true, laidLooks := .later }
def DefBackCardSaid : Prop := Claim7.holds Tryz.pinned (.plain (OpenSpec.ofChange defBackSpec)) defBackCard

/-- THE TIED CARD OF 'voussoirlaw06.DefBlanks'. -/
def defBlanksCard : Claim7 := { stood := { row := defBlanksRow, standIns := [], harness := (true, "fdce9dd77080ce3e68a77fc18b50d3827b03e7317bd8e37efe4100c2ebc0fd98"), looks := true }, kinds := [], alts := [], laidByText := true, laidKinds := [.data, .data, .data, .data, .sentinel, .sentinel, .listed, .data, .pinned], laidTests := true, laidLooks := .later }
def DefBlanksCardSaid : Prop := Claim7.holds Tryz.pinned (.plain (OpenSpec.ofChange defBlanksSpec)) defBlanksCard

/-- THE TIED CARD OF 'voussoirlaw06.DefRenamed'. -/
def defRenamedCard : Claim7 := { stood := { row := defRenamedRow, standIns := [], harness := (true, "fdce9dd77080ce3e68a77fc18b50d3827b03e7317bd8e37efe4100c2ebc0fd98"), looks := true }, kinds := [], alts := [], laidByText := true, laidKinds := [.data, .data, .data, .data, .sentinel, .sentinel, .listed, .data, .pinned], laidTests := true, laidLooks := .later }
def DefRenamedCardSaid : Prop := Claim7.holds Tryz.pinned (.plain (OpenSpec.ofChange defRenamedSpec)) defRenamedCard

/-- THE TIED CARD OF 'voussoirlaw06.DefStops'. -/
def defStopsCard : Claim7 := { stood := { row := defStopsRow, standIns := [], harness := (true, "fdce9dd77080ce3e68a77fc18b50d3827b03e7317bd8e37efe4100c2ebc0fd98"), looks := true }, kinds := [], alts := [], laidByText := true, laidKinds := [.data, .data, .data, .data, .sentinel, .sentinel, .listed, .data, .pinned], laidTests := true, laidLooks := .later }
def DefStopsCardSaid : Prop := Claim7.holds Tryz.pinned (.plain (OpenSpec.ofChange defStopsSpec)) defStopsCard

/-- THE TIED CARD OF 'voussoirlaw06.DefStrings'. -/
def defStringsCard : Claim7 := { stood := { row := defStringsRow, standIns := [], harness := (true, "fdce9dd77080ce3e68a77fc18b50d3827b03e7317bd8e37efe4100c2ebc0fd98"), looks := true }, kinds := [], alts := [], laidByText := true, laidKinds := [.data, .data, .data, .data, .sentinel, .sentinel, .listed, .data, .pinned], laidTests := true, laidLooks := .later }
def DefStringsCardSaid : Prop := Claim7.holds Tryz.pinned (.plain (OpenSpec.ofChange defStringsSpec)) defStringsCard

/-- THE SECOND FORM's CARD OF 'voussoirlaw06.DefParses'. -/
def defParsesUptoCard : Claim7 := { stood := { row := defParsesUptoRow, standIns := [], harness := (true, "fdce9dd77080ce3e68a77fc18b50d3827b03e7317bd8e37efe4100c2ebc0fd98"), looks := true }, kinds := [], alts := [], laidByText := true, laidKinds := [.data, .data, .data, .data, .sentinel, .sentinel, .listed, .data, .pinned], laidTests := true, laidLooks := .later }
def DefParsesUptoCardSaid : Prop := Claim7.holds Tryz.pinned (.plain (OpenSpec.upto defParsesSpec)) defParsesUptoCard

/-- THE SECOND FORM's CARD OF 'voussoirlaw06.DefTerms'. -/
def defTermsUptoCard : Claim7 := { stood := { row := defTermsUptoRow, standIns := [], harness := (true, "fdce9dd77080ce3e68a77fc18b50d3827b03e7317bd8e37efe4100c2ebc0fd98"), looks := true }, kinds := [], alts := [], laidByText := true, laidKinds := [.data, .data, .data, .data, .sentinel, .sentinel, .listed, .data, .pinned], laidTests := true, laidLooks := .later }
def DefTermsUptoCardSaid : Prop := Claim7.holds Tryz.pinned (.plain (OpenSpec.upto defTermsSpec)) defTermsUptoCard

/-- THE SECOND FORM's CARD OF 'voussoirlaw06.DefWrites'. -/
def defWritesUptoCard : Claim7 := { stood := { row := defWritesUptoRow, standIns := [], harness := (true, "fdce9dd77080ce3e68a77fc18b50d3827b03e7317bd8e37efe4100c2ebc0fd98"), looks := true }, kinds := [], alts := [], laidByText := true, laidKinds := [.data, .data, .data, .data, .sentinel, .sentinel, .listed, .data, .pinned], laidTests := true, laidLooks := .later }
def DefWritesUptoCardSaid : Prop := Claim7.holds Tryz.pinned (.plain (OpenSpec.upto defWritesSpec)) defWritesUptoCard

/-- THE SECOND FORM's CARD OF 'voussoirlaw06.DefSames'. -/
def defSamesUptoCard : Claim7 := { stood := { row := defSamesUptoRow, standIns := [], harness := (true, "fdce9dd77080ce3e68a77fc18b50d3827b03e7317bd8e37efe4100c2ebc0fd98"), looks := true }, kinds := [], alts := [], laidByText := true, laidKinds := [.data, .data, .data, .data, .sentinel, .sentinel, .listed, .data, .pinned], laidTests := true, laidLooks := .later }
def DefSamesUptoCardSaid : Prop := Claim7.holds Tryz.pinned (.plain (OpenSpec.upto defSamesSpec)) defSamesUptoCard

/-- THE SECOND FORM's CARD OF 'voussoirlaw06.DefLimits'. -/
def defLimitsUptoCard : Claim7 := { stood := { row := defLimitsUptoRow, standIns := [], harness := (true, "fdce9dd77080ce3e68a77fc18b50d3827b03e7317bd8e37efe4100c2ebc0fd98"), looks := true }, kinds := [], alts := [], laidByText := true, laidKinds := [.data, .data, .data, .data, .sentinel, .sentinel, .listed, .data, .pinned], laidTests := true, laidLooks := .later }
def DefLimitsUptoCardSaid : Prop := Claim7.holds Tryz.pinned (.plain (OpenSpec.upto defLimitsSpec)) defLimitsUptoCard

/-- THE SECOND FORM's CARD OF 'voussoirlaw06.DefBack'. -/
def defBackUptoCard : Claim7 := { stood := { row := defBackUptoRow, standIns := [], harness := (true, "fdce9dd77080ce3e68a77fc18b50d3827b03e7317bd8e37efe4100c2ebc0fd98"), looks := true }, kinds := [], alts := [], laidByText := true, laidKinds := [.data, .data, .data, .data, .sentinel, .sentinel, .listed, .data, .pinned], laidTests := true, laidLooks := .later }
def DefBackUptoCardSaid : Prop := Claim7.holds Tryz.pinned (.plain (OpenSpec.upto defBackSpec)) defBackUptoCard

/-- THE SECOND FORM's CARD OF 'voussoirlaw06.DefBlanks'. -/
def defBlanksUptoCard : Claim7 := { stood := { row := defBlanksUptoRow, standIns := [], harness := (true, "fdce9dd77080ce3e68a77fc18b50d3827b03e7317bd8e37efe4100c2ebc0fd98"), looks := true }, kinds := [], alts := [], laidByText := true, laidKinds := [.data, .data, .data, .data, .sentinel, .sentinel, .listed, .data, .pinned], laidTests := true, laidLooks := .later }
def DefBlanksUptoCardSaid : Prop := Claim7.holds Tryz.pinned (.plain (OpenSpec.upto defBlanksSpec)) defBlanksUptoCard

/-- THE SECOND FORM's CARD OF 'voussoirlaw06.DefRenamed'. -/
def defRenamedUptoCard : Claim7 := { stood := { row := defRenamedUptoRow, standIns := [], harness := (true, "fdce9dd77080ce3e68a77fc18b50d3827b03e7317bd8e37efe4100c2ebc0fd98"), looks := true }, kinds := [], alts := [], laidByText := true, laidKinds := [.data, .data, .data, .data, .sentinel, .sentinel, .listed, .data, .pinned], laidTests := true, laidLooks := .later }
def DefRenamedUptoCardSaid : Prop := Claim7.holds Tryz.pinned (.plain (OpenSpec.upto defRenamedSpec)) defRenamedUptoCard

/-- THE SECOND FORM's CARD OF 'voussoirlaw06.DefStops'. -/
def defStopsUptoCard : Claim7 := { stood := { row := defStopsUptoRow, standIns := [], harness := (true, "fdce9dd77080ce3e68a77fc18b50d3827b03e7317bd8e37efe4100c2ebc0fd98"), looks := true }, kinds := [], alts := [], laidByText := true, laidKinds := [.data, .data, .data, .data, .sentinel, .sentinel, .listed, .data, .pinned], laidTests := true, laidLooks := .later }
def DefStopsUptoCardSaid : Prop := Claim7.holds Tryz.pinned (.plain (OpenSpec.upto defStopsSpec)) defStopsUptoCard

/-- THE SECOND FORM's CARD OF 'voussoirlaw06.DefStrings'. -/
def defStringsUptoCard : Claim7 := { stood := { row := defStringsUptoRow, standIns := [], harness := (true, "fdce9dd77080ce3e68a77fc18b50d3827b03e7317bd8e37efe4100c2ebc0fd98"), looks := true }, kinds := [], alts := [], laidByText := true, laidKinds := [.data, .data, .data, .data, .sentinel, .sentinel, .listed, .data, .pinned], laidTests := true, laidLooks := .later }
def DefStringsUptoCardSaid : Prop := Claim7.holds Tryz.pinned (.plain (OpenSpec.upto defStringsSpec)) defStringsUptoCard
end Rows
end Go.Proofs.YtamikhobdffnfaaGreatDoor
