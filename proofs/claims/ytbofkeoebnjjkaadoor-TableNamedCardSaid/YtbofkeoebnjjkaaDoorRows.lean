/-
  NARROWER THAN 'FOR EVERY INPUT', by the rows' own cells (each row's printed sentence says how): TablePlans: laid · TableBars: laid · TableSplits: laid · TableSums: laid · TableBirkhoff: laid · TableBlocked: laid · TableWaerden: laid · TableAdded: laid · TableCounted: laid · TableNamed: laid · TableMore: laid · TableShown: laid · TableKnown: laid.
  DERIVED. THE GIVEN ROWS OF THIS SEAT. 13 by the template 'for every input the law returns true; each argument reads behind the call as it read before'; 0 by the template 'total and deterministic' (their statements: YtbofkeoebnjjkaaDoorTotals.lean).
  GIVEN WITH THE SEED: the statements are not yours to turn. If you find one false, say at which input.
  Laid BY PROGRAM, IN A SANDBOX (cutbox-rows.mjs): the forced cells as the released guide's own fill.sh prints them over the translation cbd2a5d373f032a2… (all of the seat's roots in one cut). By AI agents, Wed Nov 11 2026. No macro, syntax, notation, axiom, sorry.
-/
import Derived.Test.YtbofkeoebnjjkaaDoorChecked
import GoSem.Claim
import GoSem.ClaimJoined
import GoSem.ClaimMapViews
import Derived.JoinedTies
import Derived.KernelRfl
namespace Go.Proofs.YtbofkeoebnjjkaaDoor
/- THE CELL 'sum', in the pinned program and in every row, IS THE sha256 OF THE DUMP (.gsa) THAT YtbofkeoebnjjkaaDoorProg.lean LOADS. Nothing in Lean hashes anything: it is a label: what it is worth is what the hold of that sum in a sandbox is worth. -/
noncomputable def Tryd.pinned : Pinned := { name := "ytbofkeoebnjjkaadoor", sum := "cbd2a5d373f032a2edbcf16611cc83e115b8b3bba3129a0ab77af30d092ea631", checked := Tryd.checked }
namespace Rows
def none {H : Type} : Left H := { results := [], args := [] }

/- WHAT THE LISTED PACKAGE-LEVEL VARIABLES READ AS WHEN THE CALL BEGINS. Each datum BY PROGRAM (the guide's laid-datum.mjs) off the statement by which the dump's own 'gosem.cut.vars' lays the variable. In a bare row this is a premise. The card (YtbofkeoebnjjkaaDoorCards.lean) ties it to the program's text. -/
def laid_math_bits_deBruijn32tab {H : Type} : DataW H := .agg [.lit (.int .u8 0), .lit (.int .u8 1), .lit (.int .u8 28), .lit (.int .u8 2), .lit (.int .u8 29), .lit (.int .u8 14), .lit (.int .u8 24), .lit (.int .u8 3), .lit (.int .u8 30), .lit (.int .u8 22), .lit (.int .u8 20), .lit (.int .u8 15), .lit (.int .u8 25), .lit (.int .u8 17), .lit (.int .u8 4), .lit (.int .u8 8), .lit (.int .u8 31), .lit (.int .u8 27), .lit (.int .u8 13), .lit (.int .u8 23), .lit (.int .u8 21), .lit (.int .u8 19), .lit (.int .u8 16), .lit (.int .u8 7), .lit (.int .u8 26), .lit (.int .u8 12), .lit (.int .u8 18), .lit (.int .u8 6), .lit (.int .u8 11), .lit (.int .u8 5), .lit (.int .u8 10), .lit (.int .u8 9)]
def laid_math_bits_deBruijn64tab {H : Type} : DataW H := .agg [.lit (.int .u8 0), .lit (.int .u8 1), .lit (.int .u8 56), .lit (.int .u8 2), .lit (.int .u8 57), .lit (.int .u8 49), .lit (.int .u8 28), .lit (.int .u8 3), .lit (.int .u8 61), .lit (.int .u8 58), .lit (.int .u8 42), .lit (.int .u8 50), .lit (.int .u8 38), .lit (.int .u8 29), .lit (.int .u8 17), .lit (.int .u8 4), .lit (.int .u8 62), .lit (.int .u8 47), .lit (.int .u8 59), .lit (.int .u8 36), .lit (.int .u8 45), .lit (.int .u8 43), .lit (.int .u8 51), .lit (.int .u8 22), .lit (.int .u8 53), .lit (.int .u8 39), .lit (.int .u8 33), .lit (.int .u8 30), .lit (.int .u8 24), .lit (.int .u8 18), .lit (.int .u8 12), .lit (.int .u8 5), .lit (.int .u8 63), .lit (.int .u8 55), .lit (.int .u8 48), .lit (.int .u8 27), .lit (.int .u8 60), .lit (.int .u8 41), .lit (.int .u8 37), .lit (.int .u8 16), .lit (.int .u8 46), .lit (.int .u8 35), .lit (.int .u8 44), .lit (.int .u8 21), .lit (.int .u8 52), .lit (.int .u8 32), .lit (.int .u8 23), .lit (.int .u8 11), .lit (.int .u8 54), .lit (.int .u8 26), .lit (.int .u8 40), .lit (.int .u8 15), .lit (.int .u8 34), .lit (.int .u8 20), .lit (.int .u8 31), .lit (.int .u8 10), .lit (.int .u8 25), .lit (.int .u8 14), .lit (.int .u8 19), .lit (.int .u8 9), .lit (.int .u8 13), .lit (.int .u8 8), .lit (.int .u8 7), .lit (.int .u8 6)]

/-- 'headwordlaw11.TablePlans': WHATEVER THE INPUT: true; the input reads as it did. -/
def tablePlansSpec : ChangeSpec := { name := "tablePlans", fn := fun _ => fun
  | [d1, d2] => { results := [.lit (.bool true)], args := [d1, d2] }
  | _ => none }
def tablePlansRow : OpenClaim := { program := "ytbofkeoebnjjkaadoor", sum := "cbd2a5d373f032a2edbcf16611cc83e115b8b3bba3129a0ab77af30d092ea631", func := "headword/headwordlaw11.TablePlans", spec := "tablePlans", unfollowed := true, recurses := true, named := ["math/bits.deBruijn32tab", "math/bits.deBruijn64tab"], apart := false, laid := [("math/bits.deBruijn32tab", laid_math_bits_deBruijn32tab), ("math/bits.deBruijn64tab", laid_math_bits_deBruijn64tab)] }
def TablePlansSaid : Prop := tablePlansRow.holds Tryd.pinned (OpenSpec.ofChange tablePlansSpec)

/-- ITS FALSE NEIGHBOUR: 'it returns false'. Refute it at one input. -/
def tablePlansWrong : ChangeSpec := { name := "tablePlans", fn := fun _ => fun
  | [d1, d2] => { results := [.lit (.bool false)], args := [d1, d2] }
  | _ => none }
def TablePlansWrongFalsely : Prop := tablePlansRow.holds Tryd.pinned (OpenSpec.ofChange tablePlansWrong)

/-- 'headwordlaw11.TableBars': WHATEVER THE INPUT: true; the input reads as it did. -/
def tableBarsSpec : ChangeSpec := { name := "tableBars", fn := fun _ => fun
  | [d1, d2, d3] => { results := [.lit (.bool true)], args := [d1, d2, d3] }
  | _ => none }
def tableBarsRow : OpenClaim := { program := "ytbofkeoebnjjkaadoor", sum := "cbd2a5d373f032a2edbcf16611cc83e115b8b3bba3129a0ab77af30d092ea631", func := "headword/headwordlaw11.TableBars", spec := "tableBars", unfollowed := true, recurses := true, named := ["math/bits.deBruijn32tab", "math/bits.deBruijn64tab"], apart := false, laid := [("math/bits.deBruijn32tab", laid_math_bits_deBruijn32tab), ("math/bits.deBruijn64tab", laid_math_bits_deBruijn64tab)] }
def TableBarsSaid : Prop := tableBarsRow.holds Tryd.pinned (OpenSpec.ofChange tableBarsSpec)

/-- ITS FALSE NEIGHBOUR: 'it returns false'. Refute it at one input. -/
def tableBarsWrong : ChangeSpec := { name := "tableBars", fn := fun _ => fun
  | [d1, d2, d3] => { results := [.lit (.bool false)], args := [d1, d2, d3] }
  | _ => none }
def TableBarsWrongFalsely : Prop := tableBarsRow.holds Tryd.pinned (OpenSpec.ofChange tableBarsWrong)

/-- 'headwordlaw11.TableSplits': WHATEVER THE INPUT: true; the input reads as it did. -/
def tableSplitsSpec : ChangeSpec := { name := "tableSplits", fn := fun _ => fun
  | [d] => { results := [.lit (.bool true)], args := [d] }
  | _ => none }
def tableSplitsRow : OpenClaim := { program := "ytbofkeoebnjjkaadoor", sum := "cbd2a5d373f032a2edbcf16611cc83e115b8b3bba3129a0ab77af30d092ea631", func := "headword/headwordlaw11.TableSplits", spec := "tableSplits", unfollowed := true, recurses := true, named := ["math/bits.deBruijn32tab", "math/bits.deBruijn64tab"], apart := false, laid := [("math/bits.deBruijn32tab", laid_math_bits_deBruijn32tab), ("math/bits.deBruijn64tab", laid_math_bits_deBruijn64tab)] }
def TableSplitsSaid : Prop := tableSplitsRow.holds Tryd.pinned (OpenSpec.ofChange tableSplitsSpec)

/-- ITS FALSE NEIGHBOUR: 'it returns false'. Refute it at one input. -/
def tableSplitsWrong : ChangeSpec := { name := "tableSplits", fn := fun _ => fun
  | [d] => { results := [.lit (.bool false)], args := [d] }
  | _ => none }
def TableSplitsWrongFalsely : Prop := tableSplitsRow.holds Tryd.pinned (OpenSpec.ofChange tableSplitsWrong)

/-- 'headwordlaw11.TableSums': WHATEVER THE INPUT: true; the input reads as it did. -/
def tableSumsSpec : ChangeSpec := { name := "tableSums", fn := fun _ => fun
  | [d1, d2] => { results := [.lit (.bool true)], args := [d1, d2] }
  | _ => none }
def tableSumsRow : OpenClaim := { program := "ytbofkeoebnjjkaadoor", sum := "cbd2a5d373f032a2edbcf16611cc83e115b8b3bba3129a0ab77af30d092ea631", func := "headword/headwordlaw11.TableSums", spec := "tableSums", unfollowed := true, recurses := true, named := ["math/bits.deBruijn32tab", "math/bits.deBruijn64tab"], apart := false, laid := [("math/bits.deBruijn32tab", laid_math_bits_deBruijn32tab), ("math/bits.deBruijn64tab", laid_math_bits_deBruijn64tab)] }
def TableSumsSaid : Prop := tableSumsRow.holds Tryd.pinned (OpenSpec.ofChange tableSumsSpec)

/-- ITS FALSE NEIGHBOUR: 'it returns false'. Refute it at one input. -/
def tableSumsWrong : ChangeSpec := { name := "tableSums", fn := fun _ => fun
  | [d1, d2] => { results := [.lit (.bool false)], args := [d1, d2] }
  | _ => none }
def TableSumsWrongFalsely : Prop := tableSumsRow.holds Tryd.pinned (OpenSpec.ofChange tableSumsWrong)

/-- 'headwordlaw11.TableBirkhoff': WHATEVER THE INPUT: true; the input reads as it did. -/
def tableBirkhoffSpec : ChangeSpec := { name := "tableBirkhoff", fn := fun _ => fun
  | [d] => { results := [.lit (.bool true)], args := [d] }
  | _ => none }
def tableBirkhoffRow : OpenClaim := { program := "ytbofkeoebnjjkaadoor", sum := "cbd2a5d373f032a2edbcf16611cc83e115b8b3bba3129a0ab77af30d092ea631", func := "headword/headwordlaw11.TableBirkhoff", spec := "tableBirkhoff", unfollowed := true, recurses := true, named := ["math/bits.deBruijn32tab", "math/bits.deBruijn64tab"], apart := false, laid := [("math/bits.deBruijn32tab", laid_math_bits_deBruijn32tab), ("math/bits.deBruijn64tab", laid_math_bits_deBruijn64tab)] }
def TableBirkhoffSaid : Prop := tableBirkhoffRow.holds Tryd.pinned (OpenSpec.ofChange tableBirkhoffSpec)

/-- ITS FALSE NEIGHBOUR: 'it returns false'. Refute it at one input. -/
def tableBirkhoffWrong : ChangeSpec := { name := "tableBirkhoff", fn := fun _ => fun
  | [d] => { results := [.lit (.bool false)], args := [d] }
  | _ => none }
def TableBirkhoffWrongFalsely : Prop := tableBirkhoffRow.holds Tryd.pinned (OpenSpec.ofChange tableBirkhoffWrong)

/-- 'headwordlaw11.TableBlocked': WHATEVER THE INPUT: true; the input reads as it did. -/
def tableBlockedSpec : ChangeSpec := { name := "tableBlocked", fn := fun _ => fun
  | [d] => { results := [.lit (.bool true)], args := [d] }
  | _ => none }
def tableBlockedRow : OpenClaim := { program := "ytbofkeoebnjjkaadoor", sum := "cbd2a5d373f032a2edbcf16611cc83e115b8b3bba3129a0ab77af30d092ea631", func := "headword/headwordlaw11.TableBlocked", spec := "tableBlocked", unfollowed := true, recurses := true, named := ["math/bits.deBruijn32tab", "math/bits.deBruijn64tab"], apart := false, laid := [("math/bits.deBruijn32tab", laid_math_bits_deBruijn32tab), ("math/bits.deBruijn64tab", laid_math_bits_deBruijn64tab)] }
def TableBlockedSaid : Prop := tableBlockedRow.holds Tryd.pinned (OpenSpec.ofChange tableBlockedSpec)

/-- ITS FALSE NEIGHBOUR: 'it returns false'. Refute it at one input. -/
def tableBlockedWrong : ChangeSpec := { name := "tableBlocked", fn := fun _ => fun
  | [d] => { results := [.lit (.bool false)], args := [d] }
  | _ => none }
def TableBlockedWrongFalsely : Prop := tableBlockedRow.holds Tryd.pinned (OpenSpec.ofChange tableBlockedWrong)

/-- 'headwordlaw11.TableWaerden': WHATEVER THE INPUT: true; the input reads as it did. -/
def tableWaerdenSpec : ChangeSpec := { name := "tableWaerden", fn := fun _ => fun
  | [d] => { results := [.lit (.bool true)], args := [d] }
  | _ => none }
def tableWaerdenRow : OpenClaim := { program := "ytbofkeoebnjjkaadoor", sum := "cbd2a5d373f032a2edbcf16611cc83e115b8b3bba3129a0ab77af30d092ea631", func := "headword/headwordlaw11.TableWaerden", spec := "tableWaerden", unfollowed := true, recurses := true, named := ["math/bits.deBruijn32tab", "math/bits.deBruijn64tab"], apart := false, laid := [("math/bits.deBruijn32tab", laid_math_bits_deBruijn32tab), ("math/bits.deBruijn64tab", laid_math_bits_deBruijn64tab)] }
def TableWaerdenSaid : Prop := tableWaerdenRow.holds Tryd.pinned (OpenSpec.ofChange tableWaerdenSpec)

/-- ITS FALSE NEIGHBOUR: 'it returns false'. Refute it at one input. -/
def tableWaerdenWrong : ChangeSpec := { name := "tableWaerden", fn := fun _ => fun
  | [d] => { results := [.lit (.bool false)], args := [d] }
  | _ => none }
def TableWaerdenWrongFalsely : Prop := tableWaerdenRow.holds Tryd.pinned (OpenSpec.ofChange tableWaerdenWrong)

/-- 'headwordlaw11.TableAdded': WHATEVER THE INPUT: true; the input reads as it did. -/
def tableAddedSpec : ChangeSpec := { name := "tableAdded", fn := fun _ => fun
  | [d1, d2, d3] => { results := [.lit (.bool true)], args := [d1, d2, d3] }
  | _ => none }
def tableAddedRow : OpenClaim := { program := "ytbofkeoebnjjkaadoor", sum := "cbd2a5d373f032a2edbcf16611cc83e115b8b3bba3129a0ab77af30d092ea631", func := "headword/headwordlaw11.TableAdded", spec := "tableAdded", unfollowed := true, recurses := true, named := ["math/bits.deBruijn32tab", "math/bits.deBruijn64tab"], apart := false, laid := [("math/bits.deBruijn32tab", laid_math_bits_deBruijn32tab), ("math/bits.deBruijn64tab", laid_math_bits_deBruijn64tab)] }
def TableAddedSaid : Prop := tableAddedRow.holds Tryd.pinned (OpenSpec.ofChange tableAddedSpec)

/-- ITS FALSE NEIGHBOUR: 'it returns false'. Refute it at one input. -/
def tableAddedWrong : ChangeSpec := { name := "tableAdded", fn := fun _ => fun
  | [d1, d2, d3] => { results := [.lit (.bool false)], args := [d1, d2, d3] }
  | _ => none }
def TableAddedWrongFalsely : Prop := tableAddedRow.holds Tryd.pinned (OpenSpec.ofChange tableAddedWrong)

/-- 'headwordlaw11.TableCounted': WHATEVER THE INPUT: true; the input reads as it did. -/
def tableCountedSpec : ChangeSpec := { name := "tableCounted", fn := fun _ => fun
  | [d] => { results := [.lit (.bool true)], args := [d] }
  | _ => none }
def tableCountedRow : OpenClaim := { program := "ytbofkeoebnjjkaadoor", sum := "cbd2a5d373f032a2edbcf16611cc83e115b8b3bba3129a0ab77af30d092ea631", func := "headword/headwordlaw11.TableCounted", spec := "tableCounted", unfollowed := true, recurses := true, named := ["math/bits.deBruijn32tab", "math/bits.deBruijn64tab"], apart := false, laid := [("math/bits.deBruijn32tab", laid_math_bits_deBruijn32tab), ("math/bits.deBruijn64tab", laid_math_bits_deBruijn64tab)] }
def TableCountedSaid : Prop := tableCountedRow.holds Tryd.pinned (OpenSpec.ofChange tableCountedSpec)

/-- ITS FALSE NEIGHBOUR: 'it returns false'. Refute it at one input. -/
def tableCountedWrong : ChangeSpec := { name := "tableCounted", fn := fun _ => fun
  | [d] => { results := [.lit (.bool false)], args := [d] }
  | _ => none }
def TableCountedWrongFalsely : Prop := tableCountedRow.holds Tryd.pinned (OpenSpec.ofChange tableCountedWrong)

/-- 'headwordlaw11.TableNamed': WHATEVER THE INPUT: true; the input reads as it did. -/
def tableNamedSpec : ChangeSpec := { name := "tableNamed", fn := fun _ => fun
  | [d1, d2, d3] => { results := [.lit (.bool true)], args := [d1, d2, d3] }
  | _ => none }
def tableNamedRow : OpenClaim := { program := "ytbofkeoebnjjkaadoor", sum := "cbd2a5d373f032a2edbcf16611cc83e115b8b3bba3129a0ab77af30d092ea631", func := "headword/headwordlaw11.TableNamed", spec := "tableNamed", unfollowed := true, recurses := true, named := ["math/bits.deBruijn32tab", "math/bits.deBruijn64tab"], apart := false, laid := [("math/bits.deBruijn32tab", laid_math_bits_deBruijn32tab), ("math/bits.deBruijn64tab", laid_math_bits_deBruijn64tab)] }
def TableNamedSaid : Prop := tableNamedRow.holds Tryd.pinned (OpenSpec.ofChange tableNamedSpec)

/-- ITS FALSE NEIGHBOUR: 'it returns false'. Refute it at one input. -/
def tableNamedWrong : ChangeSpec := { name := "tableNamed", fn := fun _ => fun
  | [d1, d2, d3] => { results := [.lit (.bool false)], args := [d1, d2, d3] }
  | _ => none }
def TableNamedWrongFalsely : Prop := tableNamedRow.holds Tryd.pinned (OpenSpec.ofChange tableNamedWrong)

/-- 'headwordlaw11.TableMore': WHATEVER THE INPUT: true; the input reads as it did. -/
def tableMoreSpec : ChangeSpec := { name := "tableMore", fn := fun _ => fun
  | [d1, d2, d3, d4] => { results := [.lit (.bool true)], args := [d1, d2, d3, d4] }
  | _ => none }
def tableMoreRow : OpenClaim := { program := "ytbofkeoebnjjkaadoor", sum := "cbd2a5d373f032a2edbcf16611cc83e115b8b3bba3129a0ab77af30d092ea631", func := "headword/headwordlaw11.TableMore", spec := "tableMore", unfollowed := true, recurses := true, named := ["math/bits.deBruijn32tab", "math/bits.deBruijn64tab"], apart := false, laid := [("math/bits.deBruijn32tab", laid_math_bits_deBruijn32tab), ("math/bits.deBruijn64tab", laid_math_bits_deBruijn64tab)] }
def TableMoreSaid : Prop := tableMoreRow.holds Tryd.pinned (OpenSpec.ofChange tableMoreSpec)

/-- ITS FALSE NEIGHBOUR: 'it returns false'. Refute it at one input. -/
def tableMoreWrong : ChangeSpec := { name := "tableMore", fn := fun _ => fun
  | [d1, d2, d3, d4] => { results := [.lit (.bool false)], args := [d1, d2, d3, d4] }
  | _ => none }
def TableMoreWrongFalsely : Prop := tableMoreRow.holds Tryd.pinned (OpenSpec.ofChange tableMoreWrong)

/-- 'headwordlaw11.TableShown': WHATEVER THE INPUT: true; the input reads as it did. -/
def tableShownSpec : ChangeSpec := { name := "tableShown", fn := fun _ => fun
  | [d1, d2, d3, d4] => { results := [.lit (.bool true)], args := [d1, d2, d3, d4] }
  | _ => none }
def tableShownRow : OpenClaim := { program := "ytbofkeoebnjjkaadoor", sum := "cbd2a5d373f032a2edbcf16611cc83e115b8b3bba3129a0ab77af30d092ea631", func := "headword/headwordlaw11.TableShown", spec := "tableShown", unfollowed := true, recurses := true, named := ["math/bits.deBruijn32tab", "math/bits.deBruijn64tab"], apart := false, laid := [("math/bits.deBruijn32tab", laid_math_bits_deBruijn32tab), ("math/bits.deBruijn64tab", laid_math_bits_deBruijn64tab)] }
def TableShownSaid : Prop := tableShownRow.holds Tryd.pinned (OpenSpec.ofChange tableShownSpec)

/-- ITS FALSE NEIGHBOUR: 'it returns false'. Refute it at one input. -/
def tableShownWrong : ChangeSpec := { name := "tableShown", fn := fun _ => fun
  | [d1, d2, d3, d4] => { results := [.lit (.bool false)], args := [d1, d2, d3, d4] }
  | _ => none }
def TableShownWrongFalsely : Prop := tableShownRow.holds Tryd.pinned (OpenSpec.ofChange tableShownWrong)

/-- 'headwordlaw11.TableKnown': WHATEVER THE INPUT: true; the input reads as it did. -/
def tableKnownSpec : ChangeSpec := { name := "tableKnown", fn := fun _ => fun
  | [] => { results := [.lit (.bool true)], args := [] }
  | _ => none }
def tableKnownRow : OpenClaim := { program := "ytbofkeoebnjjkaadoor", sum := "cbd2a5d373f032a2edbcf16611cc83e115b8b3bba3129a0ab77af30d092ea631", func := "headword/headwordlaw11.TableKnown", spec := "tableKnown", unfollowed := true, recurses := true, named := ["math/bits.deBruijn32tab", "math/bits.deBruijn64tab"], apart := false, laid := [("math/bits.deBruijn32tab", laid_math_bits_deBruijn32tab), ("math/bits.deBruijn64tab", laid_math_bits_deBruijn64tab)] }
def TableKnownSaid : Prop := tableKnownRow.holds Tryd.pinned (OpenSpec.ofChange tableKnownSpec)

/-- ITS FALSE NEIGHBOUR: 'it returns false'. Refute it at one input. -/
def tableKnownWrong : ChangeSpec := { name := "tableKnown", fn := fun _ => fun
  | [] => { results := [.lit (.bool false)], args := [] }
  | _ => none }
def TableKnownWrongFalsely : Prop := tableKnownRow.holds Tryd.pinned (OpenSpec.ofChange tableKnownWrong)

/- THE SECOND FORM. 'bulk': how many values and letters a reading holds, each counted each time it is reached (what is shared counts as often as it is met; a slice's spare places count too). A statement '..UptoSaid' is the law's where the arguments, and the package variables that the reading takes, are together of bulk at most 1048576: NARROWER than '..Said'. Prove '..Said' where nothing that the law and all that it calls make is longer than what came in: it says more and counts as full. Else prove '..UptoSaid'. A law counts once. -/
mutual
def uptoBulk {H : Type} : DataW H → Nat
  | .lit (.string bytes) => bytes.length + 1
  | .lit _ => 1
  | .nil => 1
  | .ptr d => uptoBulk d + 1
  | .slice elems spare => uptoBulkAll elems + uptoBulkAll spare + 1
  | .agg parts => uptoBulkAll parts + 1
  | .iface _ d => uptoBulk d + 1
  | .map entries => uptoBulkEntries entries + 1
  | .held _ => 1
def uptoBulkAll {H : Type} : List (DataW H) → Nat
  | [] => 0
  | d :: r => uptoBulk d + uptoBulkAll r
def uptoBulkEntries {H : Type} : List (Lit × DataW H) → Nat
  | [] => 0
  | x :: r => uptoBulkEntry x + uptoBulkEntries r
def uptoBulkEntry {H : Type} : Lit × DataW H → Nat
  | (.string bytes, d) => bytes.length + uptoBulk d + 1
  | (_, d) => uptoBulk d + 1
 end
def uptoSmall : (H : Type) → List (DataW H) → Bool := fun _ ds => decide (uptoBulkAll ds ≤ 1048576)
def OpenSpec.upto (s : _root_.Go.ChangeSpec) : _root_.Go.OpenSpec := { _root_.Go.OpenSpec.ofChange s with cond := some uptoSmall }

/-- 'headwordlaw11.TablePlans', WHERE WHAT IT READS IS OF BULK AT MOST 1048576: true; the input reads as it did. -/
def tablePlansUptoRow : OpenClaim := { program := "ytbofkeoebnjjkaadoor", sum := "cbd2a5d373f032a2edbcf16611cc83e115b8b3bba3129a0ab77af30d092ea631", func := "headword/headwordlaw11.TablePlans", spec := "tablePlans", unfollowed := true, recurses := true, named := ["math/bits.deBruijn32tab", "math/bits.deBruijn64tab"], apart := false, laid := [("math/bits.deBruijn32tab", laid_math_bits_deBruijn32tab), ("math/bits.deBruijn64tab", laid_math_bits_deBruijn64tab)], narrowed := true }
def TablePlansUptoSaid : Prop := tablePlansUptoRow.holds Tryd.pinned (OpenSpec.upto tablePlansSpec)

/-- 'headwordlaw11.TableBars', WHERE WHAT IT READS IS OF BULK AT MOST 1048576: true; the input reads as it did. -/
def tableBarsUptoRow : OpenClaim := { program := "ytbofkeoebnjjkaadoor", sum := "cbd2a5d373f032a2edbcf16611cc83e115b8b3bba3129a0ab77af30d092ea631", func := "headword/headwordlaw11.TableBars", spec := "tableBars", unfollowed := true, recurses := true, named := ["math/bits.deBruijn32tab", "math/bits.deBruijn64tab"], apart := false, laid := [("math/bits.deBruijn32tab", laid_math_bits_deBruijn32tab), ("math/bits.deBruijn64tab", laid_math_bits_deBruijn64tab)], narrowed := true }
def TableBarsUptoSaid : Prop := tableBarsUptoRow.holds Tryd.pinned (OpenSpec.upto tableBarsSpec)

/-- 'headwordlaw11.TableSplits', WHERE WHAT IT READS IS OF BULK AT MOST 1048576: true; the input reads as it did. -/
def tableSplitsUptoRow : OpenClaim := { program := "ytbofkeoebnjjkaadoor", sum := "cbd2a5d373f032a2edbcf16611cc83e115b8b3bba3129a0ab77af30d092ea631", func := "headword/headwordlaw11.TableSplits", spec := "tableSplits", unfollowed := true, recurses := true, named := ["math/bits.deBruijn32tab", "math/bits.deBruijn64tab"], apart := false, laid := [("math/bits.deBruijn32tab", laid_math_bits_deBruijn32tab), ("math/bits.deBruijn64tab", laid_math_bits_deBruijn64tab)], narrowed := true }
def TableSplitsUptoSaid : Prop := tableSplitsUptoRow.holds Tryd.pinned (OpenSpec.upto tableSplitsSpec)

/-- 'headwordlaw11.TableSums', WHERE WHAT IT READS IS OF BULK AT MOST 1048576: true; the input reads as it did. -/
def tableSumsUptoRow : OpenClaim := { program := "ytbofkeoebnjjkaadoor", sum := "cbd2a5d373f032a2edbcf16611cc83e115b8b3bba3129a0ab77af30d092ea631", func := "headword/headwordlaw11.TableSums", spec := "tableSums", unfollowed := true, recurses := true, named := ["math/bits.deBruijn32tab", "math/bits.deBruijn64tab"], apart := false, laid := [("math/bits.deBruijn32tab", laid_math_bits_deBruijn32tab), ("math/bits.deBruijn64tab", laid_math_bits_deBruijn64tab)], narrowed := true }
def TableSumsUptoSaid : Prop := tableSumsUptoRow.holds Tryd.pinned (OpenSpec.upto tableSumsSpec)

/-- 'headwordlaw11.TableBirkhoff', WHERE WHAT IT READS IS OF BULK AT MOST 1048576: true; the input reads as it did. -/
def tableBirkhoffUptoRow : OpenClaim := { program := "ytbofkeoebnjjkaadoor", sum := "cbd2a5d373f032a2edbcf16611cc83e115b8b3bba3129a0ab77af30d092ea631", func := "headword/headwordlaw11.TableBirkhoff", spec := "tableBirkhoff", unfollowed := true, recurses := true, named := ["math/bits.deBruijn32tab", "math/bits.deBruijn64tab"], apart := false, laid := [("math/bits.deBruijn32tab", laid_math_bits_deBruijn32tab), ("math/bits.deBruijn64tab", laid_math_bits_deBruijn64tab)], narrowed := true }
def TableBirkhoffUptoSaid : Prop := tableBirkhoffUptoRow.holds Tryd.pinned (OpenSpec.upto tableBirkhoffSpec)

/-- 'headwordlaw11.TableBlocked', WHERE WHAT IT READS IS OF BULK AT MOST 1048576: true; the input reads as it did. -/
def tableBlockedUptoRow : OpenClaim := { program := "ytbofkeoebnjjkaadoor", sum := "cbd2a5d373f032a2edbcf16611cc83e115b8b3bba3129a0ab77af30d092ea631", func := "headword/headwordlaw11.TableBlocked", spec := "tableBlocked", unfollowed := true, recurses := true, named := ["math/bits.deBruijn32tab", "math/bits.deBruijn64tab"], apart := false, laid := [("math/bits.deBruijn32tab", laid_math_bits_deBruijn32tab), ("math/bits.deBruijn64tab", laid_math_bits_deBruijn64tab)], narrowed := true }
def TableBlockedUptoSaid : Prop := tableBlockedUptoRow.holds Tryd.pinned (OpenSpec.upto tableBlockedSpec)

/-- 'headwordlaw11.TableWaerden', WHERE WHAT IT READS IS OF BULK AT MOST 1048576: true; the input reads as it did. -/
def tableWaerdenUptoRow : OpenClaim := { program := "ytbofkeoebnjjkaadoor", sum := "cbd2a5d373f032a2edbcf16611cc83e115b8b3bba3129a0ab77af30d092ea631", func := "headword/headwordlaw11.TableWaerden", spec := "tableWaerden", unfollowed := true, recurses := true, named := ["math/bits.deBruijn32tab", "math/bits.deBruijn64tab"], apart := false, laid := [("math/bits.deBruijn32tab", laid_math_bits_deBruijn32tab), ("math/bits.deBruijn64tab", laid_math_bits_deBruijn64tab)], narrowed := true }
def TableWaerdenUptoSaid : Prop := tableWaerdenUptoRow.holds Tryd.pinned (OpenSpec.upto tableWaerdenSpec)

/-- 'headwordlaw11.TableAdded', WHERE WHAT IT READS IS OF BULK AT MOST 1048576: true; the input reads as it did. -/
def tableAddedUptoRow : OpenClaim := { program := "ytbofkeoebnjjkaadoor", sum := "cbd2a5d373f032a2edbcf16611cc83e115b8b3bba3129a0ab77af30d092ea631", func := "headword/headwordlaw11.TableAdded", spec := "tableAdded", unfollowed := true, recurses := true, named := ["math/bits.deBruijn32tab", "math/bits.deBruijn64tab"], apart := false, laid := [("math/bits.deBruijn32tab", laid_math_bits_deBruijn32tab), ("math/bits.deBruijn64tab", laid_math_bits_deBruijn64tab)], narrowed := true }
def TableAddedUptoSaid : Prop := tableAddedUptoRow.holds Tryd.pinned (OpenSpec.upto tableAddedSpec)

/-- 'headwordlaw11.TableCounted', WHERE WHAT IT READS IS OF BULK AT MOST 1048576: true; the input reads as it did. -/
def tableCountedUptoRow : OpenClaim := { program := "ytbofkeoebnjjkaadoor", sum := "cbd2a5d373f032a2edbcf16611cc83e115b8b3bba3129a0ab77af30d092ea631", func := "headword/headwordlaw11.TableCounted", spec := "tableCounted", unfollowed := true, recurses := true, named := ["math/bits.deBruijn32tab", "math/bits.deBruijn64tab"], apart := false, laid := [("math/bits.deBruijn32tab", laid_math_bits_deBruijn32tab), ("math/bits.deBruijn64tab", laid_math_bits_deBruijn64tab)], narrowed := true }
def TableCountedUptoSaid : Prop := tableCountedUptoRow.holds Tryd.pinned (OpenSpec.upto tableCountedSpec)

/-- 'headwordlaw11.TableNamed', WHERE WHAT IT READS IS OF BULK AT MOST 1048576: true; the input reads as it did. -/
def tableNamedUptoRow : OpenClaim := { program := "ytbofkeoebnjjkaadoor", sum := "cbd2a5d373f032a2edbcf16611cc83e115b8b3bba3129a0ab77af30d092ea631", func := "headword/headwordlaw11.TableNamed", spec := "tableNamed", unfollowed := true, recurses := true, named := ["math/bits.deBruijn32tab", "math/bits.deBruijn64tab"], apart := false, laid := [("math/bits.deBruijn32tab", laid_math_bits_deBruijn32tab), ("math/bits.deBruijn64tab", laid_math_bits_deBruijn64tab)], narrowed := true }
def TableNamedUptoSaid : Prop := tableNamedUptoRow.holds Tryd.pinned (OpenSpec.upto tableNamedSpec)

/-- 'headwordlaw11.TableMore', WHERE WHAT IT READS IS OF BULK AT MOST 1048576: true; the input reads as it did. -/
def tableMoreUptoRow : OpenClaim := { program := "ytbofkeoebnjjkaadoor", sum := "cbd2a5d373f032a2edbcf16611cc83e115b8b3bba3129a0ab77af30d092ea631", func := "headword/headwordlaw11.TableMore", spec := "tableMore", unfollowed := true, recurses := true, named := ["math/bits.deBruijn32tab", "math/bits.deBruijn64tab"], apart := false, laid := [("math/bits.deBruijn32tab", laid_math_bits_deBruijn32tab), ("math/bits.deBruijn64tab", laid_math_bits_deBruijn64tab)], narrowed := true }
def TableMoreUptoSaid : Prop := tableMoreUptoRow.holds Tryd.pinned (OpenSpec.upto tableMoreSpec)

/-- 'headwordlaw11.TableShown', WHERE WHAT IT READS IS OF BULK AT MOST 1048576: true; the input reads as it did. -/
def tableShownUptoRow : OpenClaim := { program := "ytbofkeoebnjjkaadoor", sum := "cbd2a5d373f032a2edbcf16611cc83e115b8b3bba3129a0ab77af30d092ea631", func := "headword/headwordlaw11.TableShown", spec := "tableShown", unfollowed := true, recurses := true, named := ["math/bits.deBruijn32tab", "math/bits.deBruijn64tab"], apart := false, laid := [("math/bits.deBruijn32tab", laid_math_bits_deBruijn32tab), ("math/bits.deBruijn64tab", laid_math_bits_deBruijn64tab)], narrowed := true }
def TableShownUptoSaid : Prop := tableShownUptoRow.holds Tryd.pinned (OpenSpec.upto tableShownSpec)

/-- 'headwordlaw11.TableKnown', WHERE WHAT IT READS IS OF BULK AT MOST 1048576: true; the input reads as it did. -/
def tableKnownUptoRow : OpenClaim := { program := "ytbofkeoebnjjkaadoor", sum := "cbd2a5d373f032a2edbcf16611cc83e115b8b3bba3129a0ab77af30d092ea631", func := "headword/headwordlaw11.TableKnown", spec := "tableKnown", unfollowed := true, recurses := true, named := ["math/bits.deBruijn32tab", "math/bits.deBruijn64tab"], apart := false, laid := [("math/bits.deBruijn32tab", laid_math_bits_deBruijn32tab), ("math/bits.deBruijn64tab", laid_math_bits_deBruijn64tab)], narrowed := true }
def TableKnownUptoSaid : Prop := tableKnownUptoRow.holds Tryd.pinned (OpenSpec.upto tableKnownSpec)

end Rows
end Go.Proofs.YtbofkeoebnjjkaaDoor
