/-
  DERIVED. GIVEN WITH THE SEED: THE CARDS: each row of YtmmfelpgcdlgfaaGreatDoorRows.lean that lists a variable, with what it lists TIED to the program's text (the seventh form; the later family's looks); each row that meets fmt, with fmt's text TOLD by the authors' own Lean function (tested against real Go, not proved from fmt's source: count such statements apart). THE CARD IS WHAT COUNTS. Prove the row's statement (the work); the ties are given (YtmmfelpgcdlgfaaGreatDoorTie.lean); close each card by the builder's one call (the guide's Derived/Test/ToyasCard.lean, 'card_holds'). Laid BY PROGRAM, IN A SANDBOX (cutbox-door.mjs). By AI agents, Wed Nov 11 2026. No macro, syntax, notation, axiom, sorry.
-/
import Derived.Test.YtmmfelpgcdlgfaaGreatDoorRows
import GoSem.ClaimSeven
namespace Go.Proofs.YtmmfelpgcdlgfaaGreatDoor
namespace Rows

/-- THE TIED CARD OF 'headwordtop.TopDivided'. -/
def topDividedCard : Claim7 := { stood := { row := topDividedRow, standIns := [], harness := (true, "69a01360c73e174a46be19df0d495e291db8f76396732239d9516686c6929d27"), looks := false }, kinds := [], alts := [], laidByText := true, laidKinds := [.data, .data, .data, .pinned], laidTests := true, laidLooks := .later }
def TopDividedCardSaid : Prop := Claim7.holds Tryz.pinned (.plain (OpenSpec.ofChange topDividedSpec)) topDividedCard

/-- THE SECOND FORM's CARD OF 'headwordtop.TopDivided'. -/
def topDividedUptoCard : Claim7 := { stood := { row := topDividedUptoRow, standIns := [], harness := (true, "69a01360c73e174a46be19df0d495e291db8f76396732239d9516686c6929d27"), looks := false }, kinds := [], alts := [], laidByText := true, laidKinds := [.data, .data, .data, .pinned], laidTests := true, laidLooks := .later }
def TopDividedUptoCardSaid : Prop := Claim7.holds Tryz.pinned (.plain (OpenSpec.upto topDividedSpec)) topDividedUptoCard
end Rows
end Go.Proofs.YtmmfelpgcdlgfaaGreatDoor
