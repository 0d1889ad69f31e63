/-
  DERIVED. GIVEN WITH THE SEED: THE CARDS: each row of YtbofkeoebnjjkaaDoorRows.lean that lists a variable, with what it lists TIED to the program's text (the seventh form; the later family's looks); each row that meets fmt, with fmt's text TOLD by the authors' own Lean function (tested against real Go, not proved from fmt's source: count such statements apart). THE CARD IS WHAT COUNTS. Prove the row's statement (the work); the ties are given (YtbofkeoebnjjkaaDoorTie.lean); close each card by the builder's one call (the guide's Derived/Test/ToyasCard.lean, 'card_holds'). Laid BY PROGRAM, IN A SANDBOX (cutbox-door.mjs). By AI agents, Wed Nov 11 2026. No macro, syntax, notation, axiom, sorry.
-/
import Derived.Test.YtbofkeoebnjjkaaDoorRows
import GoSem.ClaimSeven
namespace Go.Proofs.YtbofkeoebnjjkaaDoor
namespace Rows

/-- THE TIED CARD OF 'headwordlaw11.TablePlans'. -/
def tablePlansCard : Claim7 := { stood := { row := tablePlansRow, standIns := [], harness := (true, "29ac6a78e3fa4d425541ea16beb52bdc0cb68dcf07b6d1720047e0e447a29f7d"), looks := false }, kinds := [], alts := [], laidByText := true, laidKinds := [.data, .data], laidTests := true, laidLooks := .later }
def TablePlansCardSaid : Prop := Claim7.holds Tryd.pinned (.plain (OpenSpec.ofChange tablePlansSpec)) tablePlansCard

/-- THE TIED CARD OF 'headwordlaw11.TableBars'. -/
def tableBarsCard : Claim7 := { stood := { row := tableBarsRow, standIns := [], harness := (true, "29ac6a78e3fa4d425541ea16beb52bdc0cb68dcf07b6d1720047e0e447a29f7d"), looks := false }, kinds := [], alts := [], laidByText := true, laidKinds := [.data, .data], laidTests := true, laidLooks := .later }
def TableBarsCardSaid : Prop := Claim7.holds Tryd.pinned (.plain (OpenSpec.ofChange tableBarsSpec)) tableBarsCard

/-- THE TIED CARD OF 'headwordlaw11.TableSplits'. -/
def tableSplitsCard : Claim7 := { stood := { row := tableSplitsRow, standIns := [], harness := (true, "29ac6a78e3fa4d425541ea16beb52bdc0cb68dcf07b6d1720047e0e447a29f7d"), looks := false }, kinds := [], alts := [], laidByText := true, laidKinds := [.data, .data], laidTests := true, laidLooks := .later }
def TableSplitsCardSaid : Prop := Claim7.holds Tryd.pinned (.plain (OpenSpec.ofChange tableSplitsSpec)) tableSplitsCard

/-- THE TIED CARD OF 'headwordlaw11.TableSums'. -/
def tableSumsCard : Claim7 := { stood := { row := tableSumsRow, standIns := [], harness := (true, "29ac6a78e3fa4d425541ea16beb52bdc0cb68dcf07b6d1720047e0e447a29f7d"), looks := false }, kinds := [], alts := [], laidByText := true, laidKinds := [.data, .data], laidTests := true, laidLooks := .later }
def TableSumsCardSaid : Prop := Claim7.holds Tryd.pinned (.plain (OpenSpec.ofChange tableSumsSpec)) tableSumsCard

/-- THE TIED CARD OF 'headwordlaw11.TableBirkhoff'. -/
def tableBirkhoffCard : Claim7 := { stood := { row := tableBirkhoffRow, standIns := [], harness := (true, "29ac6a78e3fa4d425541ea16beb52bdc0cb68dcf07b6d1720047e0e447a29f7d"), looks := false }, kinds := [], alts := [], laidByText := true, laidKinds := [.data, .data], laidTests := true, laidLooks := .later }
def TableBirkhoffCardSaid : Prop := Claim7.holds Tryd.pinned (.plain (OpenSpec.ofChange tableBirkhoffSpec)) tableBirkhoffCard

/-- THE TIED CARD OF 'headwordlaw11.TableBlocked'. -/
def tableBlockedCard : Claim7 := { stood := { row := tableBlockedRow, standIns := [], harness := (true, "29ac6a78e3fa4d425541ea16beb52bdc0cb68dcf07b6d1720047e0e447a29f7d"), looks := false }, kinds := [], alts := [], laidByText := true, laidKinds := [.data, .data], laidTests := true, laidLooks := .later }
def TableBlockedCardSaid : Prop := Claim7.holds Tryd.pinned (.plain (OpenSpec.ofChange tableBlockedSpec)) tableBlockedCard

/-- THE TIED CARD OF 'headwordlaw11.TableWaerden'. -/
def tableWaerdenCard : Claim7 := { stood := { row := tableWaerdenRow, standIns := [], harness := (true, "29ac6a78e3fa4d425541ea16beb52bdc0cb68dcf07b6d1720047e0e447a29f7d"), looks := false }, kinds := [], alts := [], laidByText := true, laidKinds := [.data, .data], laidTests := true, laidLooks := .later }
def TableWaerdenCardSaid : Prop := Claim7.holds Tryd.pinned (.plain (OpenSpec.ofChange tableWaerdenSpec)) tableWaerdenCard

/-- THE TIED CARD OF 'headwordlaw11.TableAdded'. -/
def tableAddedCard : Claim7 := { stood := { row := tableAddedRow, standIns := [], harness := (true, "29ac6a78e3fa4d425541ea16beb52bdc0cb68dcf07b6d1720047e0e447a29f7d"), looks := false }, kinds := [], alts := [], laidByText := true, laidKinds := [.data, .data], laidTests := true, laidLooks := .later }
def TableAddedCardSaid : Prop := Claim7.holds Tryd.pinned (.plain (OpenSpec.ofChange tableAddedSpec)) tableAddedCard

/-- THE TIED CARD OF 'headwordlaw11.TableCounted'. -/
def tableCountedCard : Claim7 := { stood := { row := tableCountedRow, standIns := [], harness := (true, "29ac6a78e3fa4d425541ea16beb52bdc0cb68dcf07b6d1720047e0e447a29f7d"), looks := false }, kinds := [], alts := [], laidByText := true, laidKinds := [.data, .data], laidTests := true, laidLooks := .later }
def TableCountedCardSaid : Prop := Claim7.holds Tryd.pinned (.plain (OpenSpec.ofChange tableCountedSpec)) tableCountedCard

/-- THE TIED CARD OF 'headwordlaw11.TableNamed'. -/
def tableNamedCard : Claim7 := { stood := { row := tableNamedRow, standIns := [], harness := (true, "29ac6a78e3fa4d425541ea16beb52bdc0cb68dcf07b6d1720047e0e447a29f7d"), looks := false }, kinds := [], alts := [], laidByText := true, laidKinds := [.data, .data], laidTests := true, laidLooks := .later }
def TableNamedCardSaid : Prop := Claim7.holds Tryd.pinned (.plain (OpenSpec.ofChange tableNamedSpec)) tableNamedCard

/-- THE TIED CARD OF 'headwordlaw11.TableMore'. -/
def tableMoreCard : Claim7 := { stood := { row := tableMoreRow, standIns := [], harness := (true, "29ac6a78e3fa4d425541ea16beb52bdc0cb68dcf07b6d1720047e0e447a29f7d"), looks := false }, kinds := [], alts := [], laidByText := true, laidKinds := [.data, .data], laidTests := true, laidLooks := .later }
def TableMoreCardSaid : Prop := Claim7.holds Tryd.pinned (.plain (OpenSpec.ofChange tableMoreSpec)) tableMoreCard

/-- THE TIED CARD OF 'headwordlaw11.TableShown'. -/
def tableShownCard : Claim7 := { stood := { row := tableShownRow, standIns := [], harness := (true, "29ac6a78e3fa4d425541ea16beb52bdc0cb68dcf07b6d1720047e0e447a29f7d"), looks := false }, kinds := [], alts := [], laidByText := true, laidKinds := [.data, .data], laidTests := true, laidLooks := .later }
def TableShownCardSaid : Prop := Claim7.holds Tryd.pinned (.plain (OpenSpec.ofChange tableShownSpec)) tableShownCard

/-- THE TIED CARD OF 'headwordlaw11.TableKnown'. -/
def tableKnownCard : Claim7 := { stood := { row := tableKnownRow, standIns := [], harness := (true, "29ac6a78e3fa4d425541ea16beb52bdc0cb68dcf07b6d1720047e0e447a29f7d"), looks := false }, kinds := [], alts := [], laidByText := true, laidKinds := [.data, .data], laidTests := true, laidLooks := .later }
def TableKnownCardSaid : Prop := Claim7.holds Tryd.pinned (.plain (OpenSpec.ofChange tableKnownSpec)) tableKnownCard

/-- THE SECOND FORM's CARD OF 'headwordlaw11.TablePlans'. -/
def tablePlansUptoCard : Claim7 := { stood := { row := tablePlansUptoRow, standIns := [], harness := (true, "29ac6a78e3fa4d425541ea16beb52bdc0cb68dcf07b6d1720047e0e447a29f7d"), looks := false }, kinds := [], alts := [], laidByText := true, laidKinds := [.data, .data], laidTests := true, laidLooks := .later }
def TablePlansUptoCardSaid : Prop := Claim7.holds Tryd.pinned (.plain (OpenSpec.upto tablePlansSpec)) tablePlansUptoCard

/-- THE SECOND FORM's CARD OF 'headwordlaw11.TableBars'. -/
def tableBarsUptoCard : Claim7 := { stood := { row := tableBarsUptoRow, standIns := [], harness := (true, "29ac6a78e3fa4d425541ea16beb52bdc0cb68dcf07b6d1720047e0e447a29f7d"), looks := false }, kinds := [], alts := [], laidByText := true, laidKinds := [.data, .data], laidTests := true, laidLooks := .later }
def TableBarsUptoCardSaid : Prop := Claim7.holds Tryd.pinned (.plain (OpenSpec.upto tableBarsSpec)) tableBarsUptoCard

/-- THE SECOND FORM's CARD OF 'headwordlaw11.TableSplits'. -/
def tableSplitsUptoCard : Claim7 := { stood := { row := tableSplitsUptoRow, standIns := [], harness := (true, "29ac6a78e3fa4d425541ea16beb52bdc0cb68dcf07b6d1720047e0e447a29f7d"), looks := false }, kinds := [], alts := [], laidByText := true, laidKinds := [.data, .data], laidTests := true, laidLooks := .later }
def TableSplitsUptoCardSaid : Prop := Claim7.holds Tryd.pinned (.plain (OpenSpec.upto tableSplitsSpec)) tableSplitsUptoCard

/-- THE SECOND FORM's CARD OF 'headwordlaw11.TableSums'. -/
def tableSumsUptoCard : Claim7 := { stood := { row := tableSumsUptoRow, standIns := [], harness := (true, "29ac6a78e3fa4d425541ea16beb52bdc0cb68dcf07b6d1720047e0e447a29f7d"), looks := false }, kinds := [], alts := [], laidByText := true, laidKinds := [.data, .data], laidTests := true, laidLooks := .later }
def TableSumsUptoCardSaid : Prop := Claim7.holds Tryd.pinned (.plain (OpenSpec.upto tableSumsSpec)) tableSumsUptoCard

/-- THE SECOND FORM's CARD OF 'headwordlaw11.TableBirkhoff'. -/
def tableBirkhoffUptoCard : Claim7 := { stood := { row := tableBirkhoffUptoRow, standIns := [], harness := (true, "29ac6a78e3fa4d425541ea16beb52bdc0cb68dcf07b6d1720047e0e447a29f7d"), looks := false }, kinds := [], alts := [], laidByText := true, laidKinds := [.data, .data], laidTests := true, laidLooks := .later }
def TableBirkhoffUptoCardSaid : Prop := Claim7.holds Tryd.pinned (.plain (OpenSpec.upto tableBirkhoffSpec)) tableBirkhoffUptoCard

/-- THE SECOND FORM's CARD OF 'headwordlaw11.TableBlocked'. -/
def tableBlockedUptoCard : Claim7 := { stood := { row := tableBlockedUptoRow, standIns := [], harness := (true, "29ac6a78e3fa4d425541ea16beb52bdc0cb68dcf07b6d1720047e0e447a29f7d"), looks := false }, kinds := [], alts := [], laidByText := true, laidKinds := [.data, .data], laidTests := true, laidLooks := .later }
def TableBlockedUptoCardSaid : Prop := Claim7.holds Tryd.pinned (.plain (OpenSpec.upto tableBlockedSpec)) tableBlockedUptoCard

/-- THE SECOND FORM's CARD OF 'headwordlaw11.TableWaerden'. -/
def tableWaerdenUptoCard : Claim7 := { stood := { row := tableWaerdenUptoRow, standIns := [], harness := (true, "29ac6a78e3fa4d425541ea16beb52bdc0cb68dcf07b6d1720047e0e447a29f7d"), looks := false }, kinds := [], alts := [], laidByText := true, laidKinds := [.data, .data], laidTests := true, laidLooks := .later }
def TableWaerdenUptoCardSaid : Prop := Claim7.holds Tryd.pinned (.plain (OpenSpec.upto tableWaerdenSpec)) tableWaerdenUptoCard

/-- THE SECOND FORM's CARD OF 'headwordlaw11.TableAdded'. -/
def tableAddedUptoCard : Claim7 := { stood := { row := tableAddedUptoRow, standIns := [], harness := (true, "29ac6a78e3fa4d425541ea16beb52bdc0cb68dcf07b6d1720047e0e447a29f7d"), looks := false }, kinds := [], alts := [], laidByText := true, laidKinds := [.data, .data], laidTests := true, laidLooks := .later }
def TableAddedUptoCardSaid : Prop := Claim7.holds Tryd.pinned (.plain (OpenSpec.upto tableAddedSpec)) tableAddedUptoCard

/-- THE SECOND FORM's CARD OF 'headwordlaw11.TableCounted'. -/
def tableCountedUptoCard : Claim7 := { stood := { row := tableCountedUptoRow, standIns := [], harness := (true, "29ac6a78e3fa4d425541ea16beb52bdc0cb68dcf07b6d1720047e0e447a29f7d"), looks := false }, kinds := [], alts := [], laidByText := true, laidKinds := [.data, .data], laidTests := true, laidLooks := .later }
def TableCountedUptoCardSaid : Prop := Claim7.holds Tryd.pinned (.plain (OpenSpec.upto tableCountedSpec)) tableCountedUptoCard

/-- THE SECOND FORM's CARD OF 'headwordlaw11.TableNamed'. -/
def tableNamedUptoCard : Claim7 := { stood := { row := tableNamedUptoRow, standIns := [], harness := (true, "29ac6a78e3fa4d425541ea16beb52bdc0cb68dcf07b6d1720047e0e447a29f7d"), looks := false }, kinds := [], alts := [], laidByText := true, laidKinds := [.data, .data], laidTests := true, laidLooks := .later }
def TableNamedUptoCardSaid : Prop := Claim7.holds Tryd.pinned (.plain (OpenSpec.upto tableNamedSpec)) tableNamedUptoCard

/-- THE SECOND FORM's CARD OF 'headwordlaw11.TableMore'. -/
def tableMoreUptoCard : Claim7 := { stood := { row := tableMoreUptoRow, standIns := [], harness := (true, "29ac6a78e3fa4d425541ea16beb52bdc0cb68dcf07b6d1720047e0e447a29f7d"), looks := false }, kinds := [], alts := [], laidByText := true, laidKinds := [.data, .data], laidTests := true, laidLooks := .later }
def TableMoreUptoCardSaid : Prop := Claim7.holds Tryd.pinned (.plain (OpenSpec.upto tableMoreSpec)) tableMoreUptoCard

/-- THE SECOND FORM's CARD OF 'headwordlaw11.TableShown'. -/
def tableShownUptoCard : Claim7 := { stood := { row := tableShownUptoRow, standIns := [], harness := (true, "29ac6a78e3fa4d425541ea16beb52bdc0cb68dcf07b6d1720047e0e447a29f7d"), looks := false }, kinds := [], alts := [], laidByText := true, laidKinds := [.data, .data], laidTests := true, laidLooks := .later }
def TableShownUptoCardSaid : Prop := Claim7.holds Tryd.pinned (.plain (OpenSpec.upto tableShownSpec)) tableShownUptoCard

/-- THE SECOND FORM's CARD OF 'headwordlaw11.TableKnown'. -/
def tableKnownUptoCard : Claim7 := { stood := { row := tableKnownUptoRow, standIns := [], harness := (true, "29ac6a78e3fa4d425541ea16beb52bdc0cb68dcf07b6d1720047e0e447a29f7d"), looks := false }, kinds := [], alts := [], laidByText := true, laidKinds := [.data, .data], laidTests := true, laidLooks := .later }
def TableKnownUptoCardSaid : Prop := Claim7.holds Tryd.pinned (.plain (OpenSpec.upto tableKnownSpec)) tableKnownUptoCard
end Rows
end Go.Proofs.YtbofkeoebnjjkaaDoor
