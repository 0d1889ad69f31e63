/-
  DERIVED. GIVEN WITH THE SEED: THE CARDS: each row of YtmmfelpgcdlgfaaDoorRows.lean that lists a variable, with what it lists TIED to the program's text (the seventh form; the later family's looks); each row that meets fmt, with fmt's text TOLD by the authors' own Lean function (tested against real Go, not proved from fmt's source: count such statements apart). THE CARD IS WHAT COUNTS. Prove the row's statement (the work); the ties are given (YtmmfelpgcdlgfaaDoorTie.lean); close each card by the builder's one call (the guide's Derived/Test/ToyasCard.lean, 'card_holds'). Laid BY PROGRAM, IN A SANDBOX (cutbox-door.mjs). By AI agents, Wed Nov 11 2026. No macro, syntax, notation, axiom, sorry.
-/
import Derived.Test.YtmmfelpgcdlgfaaDoorRows
import GoSem.ClaimSeven
namespace Go.Proofs.YtmmfelpgcdlgfaaDoor
namespace Rows

/-- THE TIED CARD OF 'headwordtop.TopMutual'. -/
def topMutualCard : Claim7 := { stood := { row := topMutualRow, standIns := [], harness := (true, "64ee42def1c4c9e2e1db2cd06d55cd9155fc815a171a87a85e890809892ccc74"), looks := true }, kinds := [], alts := [], laidByText := true, laidKinds := [.data, .data], laidTests := true, laidLooks := .later }
def TopMutualCardSaid : Prop := Claim7.holds Tryd.pinned (.plain (OpenSpec.ofChange topMutualSpec)) topMutualCard

/-- THE TIED CARD OF 'headwordtop.TopArches'. -/
def topArchesCard : Claim7 := { stood := { row := topArchesRow, standIns := [], harness := (true, "64ee42def1c4c9e2e1db2cd06d55cd9155fc815a171a87a85e890809892ccc74"), looks := true }, kinds := [], alts := [], laidByText := true, laidKinds := [.data, .data], laidTests := true, laidLooks := .later }
def TopArchesCardSaid : Prop := Claim7.holds Tryd.pinned (.plain (OpenSpec.ofChange topArchesSpec)) topArchesCard

/-- THE TIED CARD OF 'headwordtop.TopSpans'. -/
def topSpansCard : Claim7 := { stood := { row := topSpansRow, standIns := [], harness := (true, "64ee42def1c4c9e2e1db2cd06d55cd9155fc815a171a87a85e890809892ccc74"), looks := true }, kinds := [], alts := [], laidByText := true, laidKinds := [.data, .data], laidTests := true, laidLooks := .later }
def TopSpansCardSaid : Prop := Claim7.holds Tryd.pinned (.plain (OpenSpec.ofChange topSpansSpec)) topSpansCard

/-- THE TIED CARD OF 'headwordtop.TopFalling'. -/
def topFallingCard : Claim7 := { stood := { row := topFallingRow, standIns := [], harness := (true, "64ee42def1c4c9e2e1db2cd06d55cd9155fc815a171a87a85e890809892ccc74"), looks := true }, kinds := [], alts := [], laidByText := true, laidKinds := [.data, .data], laidTests := true, laidLooks := .later }
def TopFallingCardSaid : Prop := Claim7.holds Tryd.pinned (.plain (OpenSpec.ofChange topFallingSpec)) topFallingCard

/-- THE TIED CARD OF 'headwordtop.TopRoad'. -/
def topRoadCard : Claim7 := { stood := { row := topRoadRow, standIns := [], harness := (true, "64ee42def1c4c9e2e1db2cd06d55cd9155fc815a171a87a85e890809892ccc74"), looks := true }, kinds := [], alts := [], laidByText := true, laidKinds := [.data, .data], laidTests := true, laidLooks := .later }
def TopRoadCardSaid : Prop := Claim7.holds Tryd.pinned (.plain (OpenSpec.ofChange topRoadSpec)) topRoadCard

/-- THE SECOND FORM's CARD OF 'headwordtop.TopMutual'. -/
def topMutualUptoCard : Claim7 := { stood := { row := topMutualUptoRow, standIns := [], harness := (true, "64ee42def1c4c9e2e1db2cd06d55cd9155fc815a171a87a85e890809892ccc74"), looks := true }, kinds := [], alts := [], laidByText := true, laidKinds := [.data, .data], laidTests := true, laidLooks := .later }
def TopMutualUptoCardSaid : Prop := Claim7.holds Tryd.pinned (.plain (OpenSpec.upto topMutualSpec)) topMutualUptoCard

/-- THE SECOND FORM's CARD OF 'headwordtop.TopArches'. -/
def topArchesUptoCard : Claim7 := { stood := { row := topArchesUptoRow, standIns := [], harness := (true, "64ee42def1c4c9e2e1db2cd06d55cd9155fc815a171a87a85e890809892ccc74"), looks := true }, kinds := [], alts := [], laidByText := true, laidKinds := [.data, .data], laidTests := true, laidLooks := .later }
def TopArchesUptoCardSaid : Prop := Claim7.holds Tryd.pinned (.plain (OpenSpec.upto topArchesSpec)) topArchesUptoCard

/-- THE SECOND FORM's CARD OF 'headwordtop.TopSpans'. -/
def topSpansUptoCard : Claim7 := { stood := { row := topSpansUptoRow, standIns := [], harness := (true, "64ee42def1c4c9e2e1db2cd06d55cd9155fc815a171a87a85e890809892ccc74"), looks := true }, kinds := [], alts := [], laidByText := true, laidKinds := [.data, .data], laidTests := true, laidLooks := .later }
def TopSpansUptoCardSaid : Prop := Claim7.holds Tryd.pinned (.plain (OpenSpec.upto topSpansSpec)) topSpansUptoCard

/-- THE SECOND FORM's CARD OF 'headwordtop.TopFalling'. -/
def topFallingUptoCard : Claim7 := { stood := { row := topFallingUptoRow, standIns := [], harness := (true, "64ee42def1c4c9e2e1db2cd06d55cd9155fc815a171a87a85e890809892ccc74"), looks := true }, kinds := [], alts := [], laidByText := true, laidKinds := [.data, .data], laidTests := true, laidLooks := .later }
def TopFallingUptoCardSaid : Prop := Claim7.holds Tryd.pinned (.plain (OpenSpec.upto topFallingSpec)) topFallingUptoCard

/-- THE SECOND FORM's CARD OF 'headwordtop.TopRoad'. -/
def topRoadUptoCard : Claim7 := { stood := { row := topRoadUptoRow, standIns := [], harness := (true, "64ee42def1c4c9e2e1db2cd06d55cd9155fc815a171a87a85e890809892ccc74"), looks := true }, kinds := [], alts := [], laidByText := true, laidKinds := [.data, .data], laidTests := true, laidLooks := .later }
def TopRoadUptoCardSaid : Prop := Claim7.holds Tryd.pinned (.plain (OpenSpec.upto topRoadSpec)) topRoadUptoCard
end Rows
end Go.Proofs.YtmmfelpgcdlgfaaDoor
