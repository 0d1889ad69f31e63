/-
  No cell of these rows narrows 'for every input' (looked for: loops, veiled, ifaces, maps, wideKeys, modest, calm, conditions, laid).
  DERIVED. THE GIVEN ROWS OF THIS SEAT. 13 by the template 'for every input the law returns true; each argument reads behind the call as it read before'; 0 by the template 'total and deterministic' (their statements: YtlajhbpkogekfaaTotals.lean).
  GIVEN WITH THE SEED: the statements are not yours to turn. If you find one false, say at which input.
  Laid BY PROGRAM, IN A SANDBOX (cutbox-rows.mjs): the forced cells as the released guide's own fill.sh prints them over the translation 9c987d46a26a022a… (all of the seat's roots in one cut). By AI agents, Wed Nov 11 2026. No macro, syntax, notation, axiom, sorry.
-/
import Derived.Test.YtlajhbpkogekfaaChecked
import GoSem.Claim
import GoSem.ClaimJoined
import GoSem.ClaimMapViews
import Derived.JoinedTies
import Derived.KernelRfl
namespace Go.Proofs.Ytlajhbpkogekfaa
/- THE CELL 'sum', in the pinned program and in every row, IS THE sha256 OF THE DUMP (.gsa) THAT YtlajhbpkogekfaaProg.lean LOADS. Nothing in Lean hashes anything: it is a label: what it is worth is what the hold of that sum in a sandbox is worth. -/
noncomputable def Try.pinned : Pinned := { name := "ytlajhbpkogekfaa", sum := "9c987d46a26a022a41604680142a38c3fdeffef671369e4a60ec718e8a7699be", checked := Try.checked }
namespace Rows
def none {H : Type} : Left H := { results := [], args := [] }

/-- 'headwordlaw13.LineBests': WHATEVER THE INPUT: true; the input reads as it did. -/
def lineBestsSpec : ChangeSpec := { name := "lineBests", fn := fun _ => fun
  | [d] => { results := [.lit (.bool true)], args := [d] }
  | _ => none }
def lineBestsRow : OpenClaim := { program := "ytlajhbpkogekfaa", sum := "9c987d46a26a022a41604680142a38c3fdeffef671369e4a60ec718e8a7699be", func := "headword/headwordlaw13.LineBests", spec := "lineBests", unfollowed := true, recurses := true, apart := false }
def LineBestsSaid : Prop := lineBestsRow.holds Try.pinned (OpenSpec.ofChange lineBestsSpec)

/-- ITS FALSE NEIGHBOUR: 'it returns false'. Refute it at one input. -/
def lineBestsWrong : ChangeSpec := { name := "lineBests", fn := fun _ => fun
  | [d] => { results := [.lit (.bool false)], args := [d] }
  | _ => none }
def LineBestsWrongFalsely : Prop := lineBestsRow.holds Try.pinned (OpenSpec.ofChange lineBestsWrong)

/-- 'headwordlaw13.LinePrices': WHATEVER THE INPUT: true; the input reads as it did. -/
def linePricesSpec : ChangeSpec := { name := "linePrices", fn := fun _ => fun
  | [d1, d2, d3] => { results := [.lit (.bool true)], args := [d1, d2, d3] }
  | _ => none }
def linePricesRow : OpenClaim := { program := "ytlajhbpkogekfaa", sum := "9c987d46a26a022a41604680142a38c3fdeffef671369e4a60ec718e8a7699be", func := "headword/headwordlaw13.LinePrices", spec := "linePrices", unfollowed := true, recurses := true, apart := false }
def LinePricesSaid : Prop := linePricesRow.holds Try.pinned (OpenSpec.ofChange linePricesSpec)

/-- ITS FALSE NEIGHBOUR: 'it returns false'. Refute it at one input. -/
def linePricesWrong : ChangeSpec := { name := "linePrices", fn := fun _ => fun
  | [d1, d2, d3] => { results := [.lit (.bool false)], args := [d1, d2, d3] }
  | _ => none }
def LinePricesWrongFalsely : Prop := linePricesRow.holds Try.pinned (OpenSpec.ofChange linePricesWrong)

/-- 'headwordlaw13.LineGrows': WHATEVER THE INPUT: true; the input reads as it did. -/
def lineGrowsSpec : ChangeSpec := { name := "lineGrows", fn := fun _ => fun
  | [d1, d2, d3, d4] => { results := [.lit (.bool true)], args := [d1, d2, d3, d4] }
  | _ => none }
def lineGrowsRow : OpenClaim := { program := "ytlajhbpkogekfaa", sum := "9c987d46a26a022a41604680142a38c3fdeffef671369e4a60ec718e8a7699be", func := "headword/headwordlaw13.LineGrows", spec := "lineGrows", unfollowed := true, recurses := true, apart := false }
def LineGrowsSaid : Prop := lineGrowsRow.holds Try.pinned (OpenSpec.ofChange lineGrowsSpec)

/-- ITS FALSE NEIGHBOUR: 'it returns false'. Refute it at one input. -/
def lineGrowsWrong : ChangeSpec := { name := "lineGrows", fn := fun _ => fun
  | [d1, d2, d3, d4] => { results := [.lit (.bool false)], args := [d1, d2, d3, d4] }
  | _ => none }
def LineGrowsWrongFalsely : Prop := lineGrowsRow.holds Try.pinned (OpenSpec.ofChange lineGrowsWrong)

/-- 'headwordlaw13.LineFull': WHATEVER THE INPUT: true; the input reads as it did. -/
def lineFullSpec : ChangeSpec := { name := "lineFull", fn := fun _ => fun
  | [d] => { results := [.lit (.bool true)], args := [d] }
  | _ => none }
def lineFullRow : OpenClaim := { program := "ytlajhbpkogekfaa", sum := "9c987d46a26a022a41604680142a38c3fdeffef671369e4a60ec718e8a7699be", func := "headword/headwordlaw13.LineFull", spec := "lineFull", unfollowed := true, recurses := true, apart := false }
def LineFullSaid : Prop := lineFullRow.holds Try.pinned (OpenSpec.ofChange lineFullSpec)

/-- ITS FALSE NEIGHBOUR: 'it returns false'. Refute it at one input. -/
def lineFullWrong : ChangeSpec := { name := "lineFull", fn := fun _ => fun
  | [d] => { results := [.lit (.bool false)], args := [d] }
  | _ => none }
def LineFullWrongFalsely : Prop := lineFullRow.holds Try.pinned (OpenSpec.ofChange lineFullWrong)

/-- 'headwordlaw13.LineGrown': WHATEVER THE INPUT: true; the input reads as it did. -/
def lineGrownSpec : ChangeSpec := { name := "lineGrown", fn := fun _ => fun
  | [d1, d2, d3, d4] => { results := [.lit (.bool true)], args := [d1, d2, d3, d4] }
  | _ => none }
def lineGrownRow : OpenClaim := { program := "ytlajhbpkogekfaa", sum := "9c987d46a26a022a41604680142a38c3fdeffef671369e4a60ec718e8a7699be", func := "headword/headwordlaw13.LineGrown", spec := "lineGrown", unfollowed := true, recurses := true, apart := false }
def LineGrownSaid : Prop := lineGrownRow.holds Try.pinned (OpenSpec.ofChange lineGrownSpec)

/-- ITS FALSE NEIGHBOUR: 'it returns false'. Refute it at one input. -/
def lineGrownWrong : ChangeSpec := { name := "lineGrown", fn := fun _ => fun
  | [d1, d2, d3, d4] => { results := [.lit (.bool false)], args := [d1, d2, d3, d4] }
  | _ => none }
def LineGrownWrongFalsely : Prop := lineGrownRow.holds Try.pinned (OpenSpec.ofChange lineGrownWrong)

/-- 'headwordlaw13.LineTotal': WHATEVER THE INPUT: true; the input reads as it did. -/
def lineTotalSpec : ChangeSpec := { name := "lineTotal", fn := fun _ => fun
  | [d1, d2] => { results := [.lit (.bool true)], args := [d1, d2] }
  | _ => none }
def lineTotalRow : OpenClaim := { program := "ytlajhbpkogekfaa", sum := "9c987d46a26a022a41604680142a38c3fdeffef671369e4a60ec718e8a7699be", func := "headword/headwordlaw13.LineTotal", spec := "lineTotal", unfollowed := true, recurses := true, apart := false }
def LineTotalSaid : Prop := lineTotalRow.holds Try.pinned (OpenSpec.ofChange lineTotalSpec)

/-- ITS FALSE NEIGHBOUR: 'it returns false'. Refute it at one input. -/
def lineTotalWrong : ChangeSpec := { name := "lineTotal", fn := fun _ => fun
  | [d1, d2] => { results := [.lit (.bool false)], args := [d1, d2] }
  | _ => none }
def LineTotalWrongFalsely : Prop := lineTotalRow.holds Try.pinned (OpenSpec.ofChange lineTotalWrong)

/-- 'headwordlaw13.LineMore': WHATEVER THE INPUT: true; the input reads as it did. -/
def lineMoreSpec : ChangeSpec := { name := "lineMore", fn := fun _ => fun
  | [d1, d2, d3] => { results := [.lit (.bool true)], args := [d1, d2, d3] }
  | _ => none }
def lineMoreRow : OpenClaim := { program := "ytlajhbpkogekfaa", sum := "9c987d46a26a022a41604680142a38c3fdeffef671369e4a60ec718e8a7699be", func := "headword/headwordlaw13.LineMore", spec := "lineMore", unfollowed := true, recurses := true, apart := false }
def LineMoreSaid : Prop := lineMoreRow.holds Try.pinned (OpenSpec.ofChange lineMoreSpec)

/-- ITS FALSE NEIGHBOUR: 'it returns false'. Refute it at one input. -/
def lineMoreWrong : ChangeSpec := { name := "lineMore", fn := fun _ => fun
  | [d1, d2, d3] => { results := [.lit (.bool false)], args := [d1, d2, d3] }
  | _ => none }
def LineMoreWrongFalsely : Prop := lineMoreRow.holds Try.pinned (OpenSpec.ofChange lineMoreWrong)

/-- 'headwordlaw13.LineShown': WHATEVER THE INPUT: true; the input reads as it did. -/
def lineShownSpec : ChangeSpec := { name := "lineShown", fn := fun _ => fun
  | [d1, d2, d3] => { results := [.lit (.bool true)], args := [d1, d2, d3] }
  | _ => none }
def lineShownRow : OpenClaim := { program := "ytlajhbpkogekfaa", sum := "9c987d46a26a022a41604680142a38c3fdeffef671369e4a60ec718e8a7699be", func := "headword/headwordlaw13.LineShown", spec := "lineShown", unfollowed := true, recurses := true, apart := false }
def LineShownSaid : Prop := lineShownRow.holds Try.pinned (OpenSpec.ofChange lineShownSpec)

/-- ITS FALSE NEIGHBOUR: 'it returns false'. Refute it at one input. -/
def lineShownWrong : ChangeSpec := { name := "lineShown", fn := fun _ => fun
  | [d1, d2, d3] => { results := [.lit (.bool false)], args := [d1, d2, d3] }
  | _ => none }
def LineShownWrongFalsely : Prop := lineShownRow.holds Try.pinned (OpenSpec.ofChange lineShownWrong)

/-- 'headwordlaw13.LineEnds': WHATEVER THE INPUT: true; the input reads as it did. -/
def lineEndsSpec : ChangeSpec := { name := "lineEnds", fn := fun _ => fun
  | [d1, d2] => { results := [.lit (.bool true)], args := [d1, d2] }
  | _ => none }
def lineEndsRow : OpenClaim := { program := "ytlajhbpkogekfaa", sum := "9c987d46a26a022a41604680142a38c3fdeffef671369e4a60ec718e8a7699be", func := "headword/headwordlaw13.LineEnds", spec := "lineEnds", unfollowed := true, recurses := true, apart := false }
def LineEndsSaid : Prop := lineEndsRow.holds Try.pinned (OpenSpec.ofChange lineEndsSpec)

/-- ITS FALSE NEIGHBOUR: 'it returns false'. Refute it at one input. -/
def lineEndsWrong : ChangeSpec := { name := "lineEnds", fn := fun _ => fun
  | [d1, d2] => { results := [.lit (.bool false)], args := [d1, d2] }
  | _ => none }
def LineEndsWrongFalsely : Prop := lineEndsRow.holds Try.pinned (OpenSpec.ofChange lineEndsWrong)

/-- 'headwordlaw13.LineProved': WHATEVER THE INPUT: true; the input reads as it did. -/
def lineProvedSpec : ChangeSpec := { name := "lineProved", fn := fun _ => fun
  | [d1, d2] => { results := [.lit (.bool true)], args := [d1, d2] }
  | _ => none }
def lineProvedRow : OpenClaim := { program := "ytlajhbpkogekfaa", sum := "9c987d46a26a022a41604680142a38c3fdeffef671369e4a60ec718e8a7699be", func := "headword/headwordlaw13.LineProved", spec := "lineProved", unfollowed := true, recurses := true, apart := false }
def LineProvedSaid : Prop := lineProvedRow.holds Try.pinned (OpenSpec.ofChange lineProvedSpec)

/-- ITS FALSE NEIGHBOUR: 'it returns false'. Refute it at one input. -/
def lineProvedWrong : ChangeSpec := { name := "lineProved", fn := fun _ => fun
  | [d1, d2] => { results := [.lit (.bool false)], args := [d1, d2] }
  | _ => none }
def LineProvedWrongFalsely : Prop := lineProvedRow.holds Try.pinned (OpenSpec.ofChange lineProvedWrong)

/-- 'headwordlaw13.LineKnown': WHATEVER THE INPUT: true; the input reads as it did. -/
def lineKnownSpec : ChangeSpec := { name := "lineKnown", fn := fun _ => fun
  | [] => { results := [.lit (.bool true)], args := [] }
  | _ => none }
def lineKnownRow : OpenClaim := { program := "ytlajhbpkogekfaa", sum := "9c987d46a26a022a41604680142a38c3fdeffef671369e4a60ec718e8a7699be", func := "headword/headwordlaw13.LineKnown", spec := "lineKnown", unfollowed := true, recurses := true, apart := false }
def LineKnownSaid : Prop := lineKnownRow.holds Try.pinned (OpenSpec.ofChange lineKnownSpec)

/-- ITS FALSE NEIGHBOUR: 'it returns false'. Refute it at one input. -/
def lineKnownWrong : ChangeSpec := { name := "lineKnown", fn := fun _ => fun
  | [] => { results := [.lit (.bool false)], args := [] }
  | _ => none }
def LineKnownWrongFalsely : Prop := lineKnownRow.holds Try.pinned (OpenSpec.ofChange lineKnownWrong)

/-- 'headwordlaw13.LineTurned': WHATEVER THE INPUT: true; the input reads as it did. -/
def lineTurnedSpec : ChangeSpec := { name := "lineTurned", fn := fun _ => fun
  | [d1, d2] => { results := [.lit (.bool true)], args := [d1, d2] }
  | _ => none }
def lineTurnedRow : OpenClaim := { program := "ytlajhbpkogekfaa", sum := "9c987d46a26a022a41604680142a38c3fdeffef671369e4a60ec718e8a7699be", func := "headword/headwordlaw13.LineTurned", spec := "lineTurned", unfollowed := true, recurses := true, apart := false }
def LineTurnedSaid : Prop := lineTurnedRow.holds Try.pinned (OpenSpec.ofChange lineTurnedSpec)

/-- ITS FALSE NEIGHBOUR: 'it returns false'. Refute it at one input. -/
def lineTurnedWrong : ChangeSpec := { name := "lineTurned", fn := fun _ => fun
  | [d1, d2] => { results := [.lit (.bool false)], args := [d1, d2] }
  | _ => none }
def LineTurnedWrongFalsely : Prop := lineTurnedRow.holds Try.pinned (OpenSpec.ofChange lineTurnedWrong)

/-- 'headwordlaw13.LineStarts': WHATEVER THE INPUT: true; the input reads as it did. -/
def lineStartsSpec : ChangeSpec := { name := "lineStarts", fn := fun _ => fun
  | [d] => { results := [.lit (.bool true)], args := [d] }
  | _ => none }
def lineStartsRow : OpenClaim := { program := "ytlajhbpkogekfaa", sum := "9c987d46a26a022a41604680142a38c3fdeffef671369e4a60ec718e8a7699be", func := "headword/headwordlaw13.LineStarts", spec := "lineStarts", unfollowed := true, recurses := true, apart := false }
def LineStartsSaid : Prop := lineStartsRow.holds Try.pinned (OpenSpec.ofChange lineStartsSpec)

/-- ITS FALSE NEIGHBOUR: 'it returns false'. Refute it at one input. -/
def lineStartsWrong : ChangeSpec := { name := "lineStarts", fn := fun _ => fun
  | [d] => { results := [.lit (.bool false)], args := [d] }
  | _ => none }
def LineStartsWrongFalsely : Prop := lineStartsRow.holds Try.pinned (OpenSpec.ofChange lineStartsWrong)

/- THE SECOND FORM. 'bulk': how many values and letters a reading holds, each counted each time it is reached (what is shared counts as often as it is met; a slice's spare places count too). A statement '..UptoSaid' is the law's where the arguments, and the package variables that the reading takes, are together of bulk at most 1048576: NARROWER than '..Said'. Prove '..Said' where nothing that the law and all that it calls make is longer than what came in: it says more and counts as full. Else prove '..UptoSaid'. A law counts once. -/
mutual
def uptoBulk {H : Type} : DataW H → Nat
  | .lit (.string bytes) => bytes.length + 1
  | .lit _ => 1
  | .nil => 1
  | .ptr d => uptoBulk d + 1
  | .slice elems spare => uptoBulkAll elems + uptoBulkAll spare + 1
  | .agg parts => uptoBulkAll parts + 1
  | .iface _ d => uptoBulk d + 1
  | .map entries => uptoBulkEntries entries + 1
  | .held _ => 1
def uptoBulkAll {H : Type} : List (DataW H) → Nat
  | [] => 0
  | d :: r => uptoBulk d + uptoBulkAll r
def uptoBulkEntries {H : Type} : List (Lit × DataW H) → Nat
  | [] => 0
  | x :: r => uptoBulkEntry x + uptoBulkEntries r
def uptoBulkEntry {H : Type} : Lit × DataW H → Nat
  | (.string bytes, d) => bytes.length + uptoBulk d + 1
  | (_, d) => uptoBulk d + 1
 end
def uptoSmall : (H : Type) → List (DataW H) → Bool := fun _ ds => decide (uptoBulkAll ds ≤ 1048576)
def OpenSpec.upto (s : _root_.Go.ChangeSpec) : _root_.Go.OpenSpec := { _root_.Go.OpenSpec.ofChange s with cond := some uptoSmall }

/-- 'headwordlaw13.LineBests', WHERE WHAT IT READS IS OF BULK AT MOST 1048576: true; the input reads as it did. -/
def lineBestsUptoRow : OpenClaim := { program := "ytlajhbpkogekfaa", sum := "9c987d46a26a022a41604680142a38c3fdeffef671369e4a60ec718e8a7699be", func := "headword/headwordlaw13.LineBests", spec := "lineBests", unfollowed := true, recurses := true, apart := false, narrowed := true }
def LineBestsUptoSaid : Prop := lineBestsUptoRow.holds Try.pinned (OpenSpec.upto lineBestsSpec)

/-- 'headwordlaw13.LinePrices', WHERE WHAT IT READS IS OF BULK AT MOST 1048576: true; the input reads as it did. -/
def linePricesUptoRow : OpenClaim := { program := "ytlajhbpkogekfaa", sum := "9c987d46a26a022a41604680142a38c3fdeffef671369e4a60ec718e8a7699be", func := "headword/headwordlaw13.LinePrices", spec := "linePrices", unfollowed := true, recurses := true, apart := false, narrowed := true }
def LinePricesUptoSaid : Prop := linePricesUptoRow.holds Try.pinned (OpenSpec.upto linePricesSpec)

/-- 'headwordlaw13.LineGrows', WHERE WHAT IT READS IS OF BULK AT MOST 1048576: true; the input reads as it did. -/
def lineGrowsUptoRow : OpenClaim := { program := "ytlajhbpkogekfaa", sum := "9c987d46a26a022a41604680142a38c3fdeffef671369e4a60ec718e8a7699be", func := "headword/headwordlaw13.LineGrows", spec := "lineGrows", unfollowed := true, recurses := true, apart := false, narrowed := true }
def LineGrowsUptoSaid : Prop := lineGrowsUptoRow.holds Try.pinned (OpenSpec.upto lineGrowsSpec)

/-- 'headwordlaw13.LineFull', WHERE WHAT IT READS IS OF BULK AT MOST 1048576: true; the input reads as it did. -/
def lineFullUptoRow : OpenClaim := { program := "ytlajhbpkogekfaa", sum := "9c987d46a26a022a41604680142a38c3fdeffef671369e4a60ec718e8a7699be", func := "headword/headwordlaw13.LineFull", spec := "lineFull", unfollowed := true, recurses := true, apart := false, narrowed := true }
def LineFullUptoSaid : Prop := lineFullUptoRow.holds Try.pinned (OpenSpec.upto lineFullSpec)

/-- 'headwordlaw13.LineGrown', WHERE WHAT IT READS IS OF BULK AT MOST 1048576: true; the input reads as it did. -/
def lineGrownUptoRow : OpenClaim := { program := "ytlajhbpkogekfaa", sum := "9c987d46a26a022a41604680142a38c3fdeffef671369e4a60ec718e8a7699be", func := "headword/headwordlaw13.LineGrown", spec := "lineGrown", unfollowed := true, recurses := true, apart := false, narrowed := true }
def LineGrownUptoSaid : Prop := lineGrownUptoRow.holds Try.pinned (OpenSpec.upto lineGrownSpec)

/-- 'headwordlaw13.LineTotal', WHERE WHAT IT READS IS OF BULK AT MOST 1048576: true; the input reads as it did. -/
def lineTotalUptoRow : OpenClaim := { program := "ytlajhbpkogekfaa", sum := "9c987d46a26a022a41604680142a38c3fdeffef671369e4a60ec718e8a7699be", func := "headword/headwordlaw13.LineTotal", spec := "lineTotal", unfollowed := true, recurses := true, apart := false, narrowed := true }
def LineTotalUptoSaid : Prop := lineTotalUptoRow.holds Try.pinned (OpenSpec.upto lineTotalSpec)

/-- 'headwordlaw13.LineMore', WHERE WHAT IT READS IS OF BULK AT MOST 1048576: true; the input reads as it did. -/
def lineMoreUptoRow : OpenClaim := { program := "ytlajhbpkogekfaa", sum := "9c987d46a26a022a41604680142a38c3fdeffef671369e4a60ec718e8a7699be", func := "headword/headwordlaw13.LineMore", spec := "lineMore", unfollowed := true, recurses := true, apart := false, narrowed := true }
def LineMoreUptoSaid : Prop := lineMoreUptoRow.holds Try.pinned (OpenSpec.upto lineMoreSpec)

/-- 'headwordlaw13.LineShown', WHERE WHAT IT READS IS OF BULK AT MOST 1048576: true; the input reads as it did. -/
def lineShownUptoRow : OpenClaim := { program := "ytlajhbpkogekfaa", sum := "9c987d46a26a022a41604680142a38c3fdeffef671369e4a60ec718e8a7699be", func := "headword/headwordlaw13.LineShown", spec := "lineShown", unfollowed := true, recurses := true, apart := false, narrowed := true }
def LineShownUptoSaid : Prop := lineShownUptoRow.holds Try.pinned (OpenSpec.upto lineShownSpec)

/-- 'headwordlaw13.LineEnds', WHERE WHAT IT READS IS OF BULK AT MOST 1048576: true; the input reads as it did. -/
def lineEndsUptoRow : OpenClaim := { program := "ytlajhbpkogekfaa", sum := "9c987d46a26a022a41604680142a38c3fdeffef671369e4a60ec718e8a7699be", func := "headword/headwordlaw13.LineEnds", spec := "lineEnds", unfollowed := true, recurses := true, apart := false, narrowed := true }
def LineEndsUptoSaid : Prop := lineEndsUptoRow.holds Try.pinned (OpenSpec.upto lineEndsSpec)

/-- 'headwordlaw13.LineProved', WHERE WHAT IT READS IS OF BULK AT MOST 1048576: true; the input reads as it did. -/
def lineProvedUptoRow : OpenClaim := { program := "ytlajhbpkogekfaa", sum := "9c987d46a26a022a41604680142a38c3fdeffef671369e4a60ec718e8a7699be", func := "headword/headwordlaw13.LineProved", spec := "lineProved", unfollowed := true, recurses := true, apart := false, narrowed := true }
def LineProvedUptoSaid : Prop := lineProvedUptoRow.holds Try.pinned (OpenSpec.upto lineProvedSpec)

/-- 'headwordlaw13.LineKnown', WHERE WHAT IT READS IS OF BULK AT MOST 1048576: true; the input reads as it did. -/
def lineKnownUptoRow : OpenClaim := { program := "ytlajhbpkogekfaa", sum := "9c987d46a26a022a41604680142a38c3fdeffef671369e4a60ec718e8a7699be", func := "headword/headwordlaw13.LineKnown", spec := "lineKnown", unfollowed := true, recurses := true, apart := false, narrowed := true }
def LineKnownUptoSaid : Prop := lineKnownUptoRow.holds Try.pinned (OpenSpec.upto lineKnownSpec)

/-- 'headwordlaw13.LineTurned', WHERE WHAT IT READS IS OF BULK AT MOST 1048576: true; the input reads as it did. -/
def lineTurnedUptoRow : OpenClaim := { program := "ytlajhbpkogekfaa", sum := "9c987d46a26a022a41604680142a38c3fdeffef671369e4a60ec718e8a7699be", func := "headword/headwordlaw13.LineTurned", spec := "lineTurned", unfollowed := true, recurses := true, apart := false, narrowed := true }
def LineTurnedUptoSaid : Prop := lineTurnedUptoRow.holds Try.pinned (OpenSpec.upto lineTurnedSpec)

/-- 'headwordlaw13.LineStarts', WHERE WHAT IT READS IS OF BULK AT MOST 1048576: true; the input reads as it did. -/
def lineStartsUptoRow : OpenClaim := { program := "ytlajhbpkogekfaa", sum := "9c987d46a26a022a41604680142a38c3fdeffef671369e4a60ec718e8a7699be", func := "headword/headwordlaw13.LineStarts", spec := "lineStarts", unfollowed := true, recurses := true, apart := false, narrowed := true }
def LineStartsUptoSaid : Prop := lineStartsUptoRow.holds Try.pinned (OpenSpec.upto lineStartsSpec)

end Rows
end Go.Proofs.Ytlajhbpkogekfaa
