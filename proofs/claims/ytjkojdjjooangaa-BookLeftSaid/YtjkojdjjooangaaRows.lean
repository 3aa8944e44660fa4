/-
  No cell of these rows narrows 'for every input' (looked for: loops, veiled, ifaces, maps, wideKeys, modest, calm, conditions, laid).
  DERIVED. THE GIVEN ROWS OF THIS SEAT. 19 by the template 'for every input the law returns true; each argument reads behind the call as it read before'; 0 by the template 'total and deterministic' (their statements: YtjkojdjjooangaaTotals.lean).
  GIVEN WITH THE SEED: the statements are not yours to turn. If you find one false, say at which input.
  Laid BY PROGRAM, IN A SANDBOX (cutbox-rows.mjs): the forced cells as the released guide's own fill.sh prints them over the translation cee2507685eef513… (all of the seat's roots in one cut). By AI agents, Wed Nov 11 2026. No macro, syntax, notation, axiom, sorry.
-/
import Derived.Test.YtjkojdjjooangaaChecked
import GoSem.Claim
import GoSem.ClaimJoined
import GoSem.ClaimMapViews
import Derived.JoinedTies
import Derived.KernelRfl
namespace Go.Proofs.Ytjkojdjjooangaa
/- THE CELL 'sum', in the pinned program and in every row, IS THE sha256 OF THE DUMP (.gsa) THAT YtjkojdjjooangaaProg.lean LOADS. Nothing in Lean hashes anything: it is a label: what it is worth is what the hold of that sum in a sandbox is worth. -/
noncomputable def Try.pinned : Pinned := { name := "ytjkojdjjooangaa", sum := "cee2507685eef51318335c3344d8f07b2a30bb04ba07464d2c9dedcd3a2fca0d", checked := Try.checked }
namespace Rows
def none {H : Type} : Left H := { results := [], args := [] }

/-- 'berthagelaw05.ProfEarliest': WHATEVER THE INPUT: true; the input reads as it did. -/
def profEarliestSpec : ChangeSpec := { name := "profEarliest", fn := fun _ => fun
  | [d1, d2, d3, d4, d5] => { results := [.lit (.bool true)], args := [d1, d2, d3, d4, d5] }
  | _ => none }
def profEarliestRow : OpenClaim := { program := "ytjkojdjjooangaa", sum := "cee2507685eef51318335c3344d8f07b2a30bb04ba07464d2c9dedcd3a2fca0d", func := "berthage/berthagelaw05.ProfEarliest", spec := "profEarliest", inPlace := ["slices.overlaps[berthage/api.Step]"], unfollowed := true, recurses := true, apart := false }
def ProfEarliestSaid : Prop := profEarliestRow.holds Try.pinned (OpenSpec.ofChange profEarliestSpec)

/-- ITS FALSE NEIGHBOUR: 'it returns false'. Refute it at one input. -/
def profEarliestWrong : ChangeSpec := { name := "profEarliest", fn := fun _ => fun
  | [d1, d2, d3, d4, d5] => { results := [.lit (.bool false)], args := [d1, d2, d3, d4, d5] }
  | _ => none }
def ProfEarliestWrongFalsely : Prop := profEarliestRow.holds Try.pinned (OpenSpec.ofChange profEarliestWrong)

/-- 'berthagelaw05.ProfPlays': WHATEVER THE INPUT: true; the input reads as it did. -/
def profPlaysSpec : ChangeSpec := { name := "profPlays", fn := fun _ => fun
  | [d1, d2] => { results := [.lit (.bool true)], args := [d1, d2] }
  | _ => none }
def profPlaysRow : OpenClaim := { program := "ytjkojdjjooangaa", sum := "cee2507685eef51318335c3344d8f07b2a30bb04ba07464d2c9dedcd3a2fca0d", func := "berthage/berthagelaw05.ProfPlays", spec := "profPlays", inPlace := ["slices.overlaps[berthage/api.Step]"], unfollowed := true, recurses := true, apart := false }
def ProfPlaysSaid : Prop := profPlaysRow.holds Try.pinned (OpenSpec.ofChange profPlaysSpec)

/-- ITS FALSE NEIGHBOUR: 'it returns false'. Refute it at one input. -/
def profPlaysWrong : ChangeSpec := { name := "profPlays", fn := fun _ => fun
  | [d1, d2] => { results := [.lit (.bool false)], args := [d1, d2] }
  | _ => none }
def ProfPlaysWrongFalsely : Prop := profPlaysRow.holds Try.pinned (OpenSpec.ofChange profPlaysWrong)

/-- 'berthagelaw05.ProfTells': WHATEVER THE INPUT: true; the input reads as it did. -/
def profTellsSpec : ChangeSpec := { name := "profTells", fn := fun _ => fun
  | [d1, d2, d3, d4, d5] => { results := [.lit (.bool true)], args := [d1, d2, d3, d4, d5] }
  | _ => none }
def profTellsRow : OpenClaim := { program := "ytjkojdjjooangaa", sum := "cee2507685eef51318335c3344d8f07b2a30bb04ba07464d2c9dedcd3a2fca0d", func := "berthage/berthagelaw05.ProfTells", spec := "profTells", inPlace := ["slices.overlaps[berthage/api.Step]"], unfollowed := true, recurses := true, apart := false }
def ProfTellsSaid : Prop := profTellsRow.holds Try.pinned (OpenSpec.ofChange profTellsSpec)

/-- ITS FALSE NEIGHBOUR: 'it returns false'. Refute it at one input. -/
def profTellsWrong : ChangeSpec := { name := "profTells", fn := fun _ => fun
  | [d1, d2, d3, d4, d5] => { results := [.lit (.bool false)], args := [d1, d2, d3, d4, d5] }
  | _ => none }
def ProfTellsWrongFalsely : Prop := profTellsRow.holds Try.pinned (OpenSpec.ofChange profTellsWrong)

/-- 'berthagelaw05.ProfBack': WHATEVER THE INPUT: true; the input reads as it did. -/
def profBackSpec : ChangeSpec := { name := "profBack", fn := fun _ => fun
  | [d1, d2, d3] => { results := [.lit (.bool true)], args := [d1, d2, d3] }
  | _ => none }
def profBackRow : OpenClaim := { program := "ytjkojdjjooangaa", sum := "cee2507685eef51318335c3344d8f07b2a30bb04ba07464d2c9dedcd3a2fca0d", func := "berthage/berthagelaw05.ProfBack", spec := "profBack", inPlace := ["slices.overlaps[berthage/api.Step]"], unfollowed := true, recurses := true, apart := false }
def ProfBackSaid : Prop := profBackRow.holds Try.pinned (OpenSpec.ofChange profBackSpec)

/-- ITS FALSE NEIGHBOUR: 'it returns false'. Refute it at one input. -/
def profBackWrong : ChangeSpec := { name := "profBack", fn := fun _ => fun
  | [d1, d2, d3] => { results := [.lit (.bool false)], args := [d1, d2, d3] }
  | _ => none }
def ProfBackWrongFalsely : Prop := profBackRow.holds Try.pinned (OpenSpec.ofChange profBackWrong)

/-- 'berthagelaw14.PlanChoices': WHATEVER THE INPUT: true; the input reads as it did. -/
def planChoicesSpec : ChangeSpec := { name := "planChoices", fn := fun _ => fun
  | [d1, d2, d3, d4] => { results := [.lit (.bool true)], args := [d1, d2, d3, d4] }
  | _ => none }
def planChoicesRow : OpenClaim := { program := "ytjkojdjjooangaa", sum := "cee2507685eef51318335c3344d8f07b2a30bb04ba07464d2c9dedcd3a2fca0d", func := "berthage/berthagelaw14.PlanChoices", spec := "planChoices", inPlace := ["slices.overlaps[berthage/api.Step]"], unfollowed := true, recurses := true, apart := false }
def PlanChoicesSaid : Prop := planChoicesRow.holds Try.pinned (OpenSpec.ofChange planChoicesSpec)

/-- ITS FALSE NEIGHBOUR: 'it returns false'. Refute it at one input. -/
def planChoicesWrong : ChangeSpec := { name := "planChoices", fn := fun _ => fun
  | [d1, d2, d3, d4] => { results := [.lit (.bool false)], args := [d1, d2, d3, d4] }
  | _ => none }
def PlanChoicesWrongFalsely : Prop := planChoicesRow.holds Try.pinned (OpenSpec.ofChange planChoicesWrong)

/-- 'berthagelaw14.PlanParts': WHATEVER THE INPUT: true; the input reads as it did. -/
def planPartsSpec : ChangeSpec := { name := "planParts", fn := fun _ => fun
  | [d1, d2, d3, d4] => { results := [.lit (.bool true)], args := [d1, d2, d3, d4] }
  | _ => none }
def planPartsRow : OpenClaim := { program := "ytjkojdjjooangaa", sum := "cee2507685eef51318335c3344d8f07b2a30bb04ba07464d2c9dedcd3a2fca0d", func := "berthage/berthagelaw14.PlanParts", spec := "planParts", inPlace := ["slices.overlaps[berthage/api.Step]"], unfollowed := true, recurses := true, apart := false }
def PlanPartsSaid : Prop := planPartsRow.holds Try.pinned (OpenSpec.ofChange planPartsSpec)

/-- ITS FALSE NEIGHBOUR: 'it returns false'. Refute it at one input. -/
def planPartsWrong : ChangeSpec := { name := "planParts", fn := fun _ => fun
  | [d1, d2, d3, d4] => { results := [.lit (.bool false)], args := [d1, d2, d3, d4] }
  | _ => none }
def PlanPartsWrongFalsely : Prop := planPartsRow.holds Try.pinned (OpenSpec.ofChange planPartsWrong)

/-- 'berthagelaw14.PlanLower': WHATEVER THE INPUT: true; the input reads as it did. -/
def planLowerSpec : ChangeSpec := { name := "planLower", fn := fun _ => fun
  | [d1, d2, d3] => { results := [.lit (.bool true)], args := [d1, d2, d3] }
  | _ => none }
def planLowerRow : OpenClaim := { program := "ytjkojdjjooangaa", sum := "cee2507685eef51318335c3344d8f07b2a30bb04ba07464d2c9dedcd3a2fca0d", func := "berthage/berthagelaw14.PlanLower", spec := "planLower", inPlace := ["slices.overlaps[berthage/api.Step]"], unfollowed := true, recurses := true, apart := false }
def PlanLowerSaid : Prop := planLowerRow.holds Try.pinned (OpenSpec.ofChange planLowerSpec)

/-- ITS FALSE NEIGHBOUR: 'it returns false'. Refute it at one input. -/
def planLowerWrong : ChangeSpec := { name := "planLower", fn := fun _ => fun
  | [d1, d2, d3] => { results := [.lit (.bool false)], args := [d1, d2, d3] }
  | _ => none }
def PlanLowerWrongFalsely : Prop := planLowerRow.holds Try.pinned (OpenSpec.ofChange planLowerWrong)

/-- 'berthagelaw14.PlanNobody': WHATEVER THE INPUT: true; the input reads as it did. -/
def planNobodySpec : ChangeSpec := { name := "planNobody", fn := fun _ => fun
  | [d1, d2] => { results := [.lit (.bool true)], args := [d1, d2] }
  | _ => none }
def planNobodyRow : OpenClaim := { program := "ytjkojdjjooangaa", sum := "cee2507685eef51318335c3344d8f07b2a30bb04ba07464d2c9dedcd3a2fca0d", func := "berthage/berthagelaw14.PlanNobody", spec := "planNobody", inPlace := ["slices.overlaps[berthage/api.Step]"], unfollowed := true, recurses := true, apart := false }
def PlanNobodySaid : Prop := planNobodyRow.holds Try.pinned (OpenSpec.ofChange planNobodySpec)

/-- ITS FALSE NEIGHBOUR: 'it returns false'. Refute it at one input. -/
def planNobodyWrong : ChangeSpec := { name := "planNobody", fn := fun _ => fun
  | [d1, d2] => { results := [.lit (.bool false)], args := [d1, d2] }
  | _ => none }
def PlanNobodyWrongFalsely : Prop := planNobodyRow.holds Try.pinned (OpenSpec.ofChange planNobodyWrong)

/-- 'berthagelaw04.SpanPeaks': WHATEVER THE INPUT: true; the input reads as it did. -/
def spanPeaksSpec : ChangeSpec := { name := "spanPeaks", fn := fun _ => fun
  | [d1, d2, d3] => { results := [.lit (.bool true)], args := [d1, d2, d3] }
  | _ => none }
def spanPeaksRow : OpenClaim := { program := "ytjkojdjjooangaa", sum := "cee2507685eef51318335c3344d8f07b2a30bb04ba07464d2c9dedcd3a2fca0d", func := "berthage/berthagelaw04.SpanPeaks", spec := "spanPeaks", recurses := true, apart := false }
def SpanPeaksSaid : Prop := spanPeaksRow.holds Try.pinned (OpenSpec.ofChange spanPeaksSpec)

/-- ITS FALSE NEIGHBOUR: 'it returns false'. Refute it at one input. -/
def spanPeaksWrong : ChangeSpec := { name := "spanPeaks", fn := fun _ => fun
  | [d1, d2, d3] => { results := [.lit (.bool false)], args := [d1, d2, d3] }
  | _ => none }
def SpanPeaksWrongFalsely : Prop := spanPeaksRow.holds Try.pinned (OpenSpec.ofChange spanPeaksWrong)

/-- 'berthagelaw04.SpanTimes': WHATEVER THE INPUT: true; the input reads as it did. -/
def spanTimesSpec : ChangeSpec := { name := "spanTimes", fn := fun _ => fun
  | [d1, d2] => { results := [.lit (.bool true)], args := [d1, d2] }
  | _ => none }
def spanTimesRow : OpenClaim := { program := "ytjkojdjjooangaa", sum := "cee2507685eef51318335c3344d8f07b2a30bb04ba07464d2c9dedcd3a2fca0d", func := "berthage/berthagelaw04.SpanTimes", spec := "spanTimes", recurses := true, apart := false }
def SpanTimesSaid : Prop := spanTimesRow.holds Try.pinned (OpenSpec.ofChange spanTimesSpec)

/-- ITS FALSE NEIGHBOUR: 'it returns false'. Refute it at one input. -/
def spanTimesWrong : ChangeSpec := { name := "spanTimes", fn := fun _ => fun
  | [d1, d2] => { results := [.lit (.bool false)], args := [d1, d2] }
  | _ => none }
def SpanTimesWrongFalsely : Prop := spanTimesRow.holds Try.pinned (OpenSpec.ofChange spanTimesWrong)

/-- 'berthagelaw04.SpanSteps': WHATEVER THE INPUT: true; the input reads as it did. -/
def spanStepsSpec : ChangeSpec := { name := "spanSteps", fn := fun _ => fun
  | [d1, d2, d3] => { results := [.lit (.bool true)], args := [d1, d2, d3] }
  | _ => none }
def spanStepsRow : OpenClaim := { program := "ytjkojdjjooangaa", sum := "cee2507685eef51318335c3344d8f07b2a30bb04ba07464d2c9dedcd3a2fca0d", func := "berthage/berthagelaw04.SpanSteps", spec := "spanSteps", recurses := true, apart := false }
def SpanStepsSaid : Prop := spanStepsRow.holds Try.pinned (OpenSpec.ofChange spanStepsSpec)

/-- ITS FALSE NEIGHBOUR: 'it returns false'. Refute it at one input. -/
def spanStepsWrong : ChangeSpec := { name := "spanSteps", fn := fun _ => fun
  | [d1, d2, d3] => { results := [.lit (.bool false)], args := [d1, d2, d3] }
  | _ => none }
def SpanStepsWrongFalsely : Prop := spanStepsRow.holds Try.pinned (OpenSpec.ofChange spanStepsWrong)

/-- 'berthagelaw45.CalTakes': WHATEVER THE INPUT: true; the input reads as it did. -/
def calTakesSpec : ChangeSpec := { name := "calTakes", fn := fun _ => fun
  | [d1, d2] => { results := [.lit (.bool true)], args := [d1, d2] }
  | _ => none }
def calTakesRow : OpenClaim := { program := "ytjkojdjjooangaa", sum := "cee2507685eef51318335c3344d8f07b2a30bb04ba07464d2c9dedcd3a2fca0d", func := "berthage/berthagelaw45.CalTakes", spec := "calTakes", unfollowed := true, recurses := true, apart := false }
def CalTakesSaid : Prop := calTakesRow.holds Try.pinned (OpenSpec.ofChange calTakesSpec)

/-- ITS FALSE NEIGHBOUR: 'it returns false'. Refute it at one input. -/
def calTakesWrong : ChangeSpec := { name := "calTakes", fn := fun _ => fun
  | [d1, d2] => { results := [.lit (.bool false)], args := [d1, d2] }
  | _ => none }
def CalTakesWrongFalsely : Prop := calTakesRow.holds Try.pinned (OpenSpec.ofChange calTakesWrong)

/-- 'berthagelaw04.SpanAreas': WHATEVER THE INPUT: true; the input reads as it did. -/
def spanAreasSpec : ChangeSpec := { name := "spanAreas", fn := fun _ => fun
  | [d1, d2, d3] => { results := [.lit (.bool true)], args := [d1, d2, d3] }
  | _ => none }
def spanAreasRow : OpenClaim := { program := "ytjkojdjjooangaa", sum := "cee2507685eef51318335c3344d8f07b2a30bb04ba07464d2c9dedcd3a2fca0d", func := "berthage/berthagelaw04.SpanAreas", spec := "spanAreas", recurses := true, apart := false }
def SpanAreasSaid : Prop := spanAreasRow.holds Try.pinned (OpenSpec.ofChange spanAreasSpec)

/-- ITS FALSE NEIGHBOUR: 'it returns false'. Refute it at one input. -/
def spanAreasWrong : ChangeSpec := { name := "spanAreas", fn := fun _ => fun
  | [d1, d2, d3] => { results := [.lit (.bool false)], args := [d1, d2, d3] }
  | _ => none }
def SpanAreasWrongFalsely : Prop := spanAreasRow.holds Try.pinned (OpenSpec.ofChange spanAreasWrong)

/-- 'berthagelaw45.CalSpans': WHATEVER THE INPUT: true; the input reads as it did. -/
def calSpansSpec : ChangeSpec := { name := "calSpans", fn := fun _ => fun
  | [d1, d2, d3] => { results := [.lit (.bool true)], args := [d1, d2, d3] }
  | _ => none }
def calSpansRow : OpenClaim := { program := "ytjkojdjjooangaa", sum := "cee2507685eef51318335c3344d8f07b2a30bb04ba07464d2c9dedcd3a2fca0d", func := "berthage/berthagelaw45.CalSpans", spec := "calSpans", unfollowed := true, recurses := true, apart := false }
def CalSpansSaid : Prop := calSpansRow.holds Try.pinned (OpenSpec.ofChange calSpansSpec)

/-- ITS FALSE NEIGHBOUR: 'it returns false'. Refute it at one input. -/
def calSpansWrong : ChangeSpec := { name := "calSpans", fn := fun _ => fun
  | [d1, d2, d3] => { results := [.lit (.bool false)], args := [d1, d2, d3] }
  | _ => none }
def CalSpansWrongFalsely : Prop := calSpansRow.holds Try.pinned (OpenSpec.ofChange calSpansWrong)

/-- 'berthagelaw45.CalNobody': WHATEVER THE INPUT: true; the input reads as it did. -/
def calNobodySpec : ChangeSpec := { name := "calNobody", fn := fun _ => fun
  | [d] => { results := [.lit (.bool true)], args := [d] }
  | _ => none }
def calNobodyRow : OpenClaim := { program := "ytjkojdjjooangaa", sum := "cee2507685eef51318335c3344d8f07b2a30bb04ba07464d2c9dedcd3a2fca0d", func := "berthage/berthagelaw45.CalNobody", spec := "calNobody", unfollowed := true, recurses := true, apart := false }
def CalNobodySaid : Prop := calNobodyRow.holds Try.pinned (OpenSpec.ofChange calNobodySpec)

/-- ITS FALSE NEIGHBOUR: 'it returns false'. Refute it at one input. -/
def calNobodyWrong : ChangeSpec := { name := "calNobody", fn := fun _ => fun
  | [d] => { results := [.lit (.bool false)], args := [d] }
  | _ => none }
def CalNobodyWrongFalsely : Prop := calNobodyRow.holds Try.pinned (OpenSpec.ofChange calNobodyWrong)

/-- 'berthagelaw36.BookFits': WHATEVER THE INPUT: true; the input reads as it did. -/
def bookFitsSpec : ChangeSpec := { name := "bookFits", fn := fun _ => fun
  | [d1, d2, d3, d4] => { results := [.lit (.bool true)], args := [d1, d2, d3, d4] }
  | _ => none }
def bookFitsRow : OpenClaim := { program := "ytjkojdjjooangaa", sum := "cee2507685eef51318335c3344d8f07b2a30bb04ba07464d2c9dedcd3a2fca0d", func := "berthage/berthagelaw36.BookFits", spec := "bookFits", inPlace := ["slices.overlaps[berthage/book.Entry]", "slices.overlaps[berthage/api.Step]"], unfollowed := true, recurses := true, apart := false }
def BookFitsSaid : Prop := bookFitsRow.holds Try.pinned (OpenSpec.ofChange bookFitsSpec)

/-- ITS FALSE NEIGHBOUR: 'it returns false'. Refute it at one input. -/
def bookFitsWrong : ChangeSpec := { name := "bookFits", fn := fun _ => fun
  | [d1, d2, d3, d4] => { results := [.lit (.bool false)], args := [d1, d2, d3, d4] }
  | _ => none }
def BookFitsWrongFalsely : Prop := bookFitsRow.holds Try.pinned (OpenSpec.ofChange bookFitsWrong)

/-- 'berthagelaw36.BookPlays': WHATEVER THE INPUT: true; the input reads as it did. -/
def bookPlaysSpec : ChangeSpec := { name := "bookPlays", fn := fun _ => fun
  | [d1, d2, d3] => { results := [.lit (.bool true)], args := [d1, d2, d3] }
  | _ => none }
def bookPlaysRow : OpenClaim := { program := "ytjkojdjjooangaa", sum := "cee2507685eef51318335c3344d8f07b2a30bb04ba07464d2c9dedcd3a2fca0d", func := "berthage/berthagelaw36.BookPlays", spec := "bookPlays", inPlace := ["slices.overlaps[berthage/book.Entry]", "slices.overlaps[berthage/api.Step]"], unfollowed := true, recurses := true, apart := false }
def BookPlaysSaid : Prop := bookPlaysRow.holds Try.pinned (OpenSpec.ofChange bookPlaysSpec)

/-- ITS FALSE NEIGHBOUR: 'it returns false'. Refute it at one input. -/
def bookPlaysWrong : ChangeSpec := { name := "bookPlays", fn := fun _ => fun
  | [d1, d2, d3] => { results := [.lit (.bool false)], args := [d1, d2, d3] }
  | _ => none }
def BookPlaysWrongFalsely : Prop := bookPlaysRow.holds Try.pinned (OpenSpec.ofChange bookPlaysWrong)

/-- 'berthagelaw36.BookLeft': WHATEVER THE INPUT: true; the input reads as it did. -/
def bookLeftSpec : ChangeSpec := { name := "bookLeft", fn := fun _ => fun
  | [d1, d2, d3, d4, d5] => { results := [.lit (.bool true)], args := [d1, d2, d3, d4, d5] }
  | _ => none }
def bookLeftRow : OpenClaim := { program := "ytjkojdjjooangaa", sum := "cee2507685eef51318335c3344d8f07b2a30bb04ba07464d2c9dedcd3a2fca0d", func := "berthage/berthagelaw36.BookLeft", spec := "bookLeft", inPlace := ["slices.overlaps[berthage/book.Entry]", "slices.overlaps[berthage/api.Step]"], unfollowed := true, recurses := true, apart := false }
def BookLeftSaid : Prop := bookLeftRow.holds Try.pinned (OpenSpec.ofChange bookLeftSpec)

/-- ITS FALSE NEIGHBOUR: 'it returns false'. Refute it at one input. -/
def bookLeftWrong : ChangeSpec := { name := "bookLeft", fn := fun _ => fun
  | [d1, d2, d3, d4, d5] => { results := [.lit (.bool false)], args := [d1, d2, d3, d4, d5] }
  | _ => none }
def BookLeftWrongFalsely : Prop := bookLeftRow.holds Try.pinned (OpenSpec.ofChange bookLeftWrong)

/-- 'berthagelaw36.BookNobody': WHATEVER THE INPUT: true; the input reads as it did. -/
def bookNobodySpec : ChangeSpec := { name := "bookNobody", fn := fun _ => fun
  | [d] => { results := [.lit (.bool true)], args := [d] }
  | _ => none }
def bookNobodyRow : OpenClaim := { program := "ytjkojdjjooangaa", sum := "cee2507685eef51318335c3344d8f07b2a30bb04ba07464d2c9dedcd3a2fca0d", func := "berthage/berthagelaw36.BookNobody", spec := "bookNobody", inPlace := ["slices.overlaps[berthage/api.Step]", "slices.overlaps[berthage/book.Entry]"], unfollowed := true, recurses := true, apart := false }
def BookNobodySaid : Prop := bookNobodyRow.holds Try.pinned (OpenSpec.ofChange bookNobodySpec)

/-- ITS FALSE NEIGHBOUR: 'it returns false'. Refute it at one input. -/
def bookNobodyWrong : ChangeSpec := { name := "bookNobody", fn := fun _ => fun
  | [d] => { results := [.lit (.bool false)], args := [d] }
  | _ => none }
def BookNobodyWrongFalsely : Prop := bookNobodyRow.holds Try.pinned (OpenSpec.ofChange bookNobodyWrong)

/- THE SECOND FORM. 'bulk': how many values and letters a reading holds, each counted each time it is reached (what is shared counts as often as it is met; a slice's spare places count too). A statement '..UptoSaid' is the law's where the arguments, and the package variables that the reading takes, are together of bulk at most 1048576: NARROWER than '..Said'. Prove '..Said' where nothing that the law and all that it calls make is longer than what came in: it says more and counts as full. Else prove '..UptoSaid'. A law counts once. -/
mutual
def uptoBulk {H : Type} : DataW H → Nat
  | .lit (.string bytes) => bytes.length + 1
  | .lit _ => 1
  | .nil => 1
  | .ptr d => uptoBulk d + 1
  | .slice elems spare => uptoBulkAll elems + uptoBulkAll spare + 1
  | .agg parts => uptoBulkAll parts + 1
  | .iface _ d => uptoBulk d + 1
  | .map entries => uptoBulkEntries entries + 1
  | .held _ => 1
def uptoBulkAll {H : Type} : List (DataW H) → Nat
  | [] => 0
  | d :: r => uptoBulk d + uptoBulkAll r
def uptoBulkEntries {H : Type} : List (Lit × DataW H) → Nat
  | [] => 0
  | x :: r => uptoBulkEntry x + uptoBulkEntries r
def uptoBulkEntry {H : Type} : Lit × DataW H → Nat
  | (.string bytes, d) => bytes.length + uptoBulk d + 1
  | (_, d) => uptoBulk d + 1
 end
def uptoSmall : (H : Type) → List (DataW H) → Bool := fun _ ds => decide (uptoBulkAll ds ≤ 1048576)
def OpenSpec.upto (s : _root_.Go.ChangeSpec) : _root_.Go.OpenSpec := { _root_.Go.OpenSpec.ofChange s with cond := some uptoSmall }

/-- 'berthagelaw05.ProfEarliest', WHERE WHAT IT READS IS OF BULK AT MOST 1048576: true; the input reads as it did. -/
def profEarliestUptoRow : OpenClaim := { program := "ytjkojdjjooangaa", sum := "cee2507685eef51318335c3344d8f07b2a30bb04ba07464d2c9dedcd3a2fca0d", func := "berthage/berthagelaw05.ProfEarliest", spec := "profEarliest", inPlace := ["slices.overlaps[berthage/api.Step]"], unfollowed := true, recurses := true, apart := false, narrowed := true }
def ProfEarliestUptoSaid : Prop := profEarliestUptoRow.holds Try.pinned (OpenSpec.upto profEarliestSpec)

/-- 'berthagelaw05.ProfPlays', WHERE WHAT IT READS IS OF BULK AT MOST 1048576: true; the input reads as it did. -/
def profPlaysUptoRow : OpenClaim := { program := "ytjkojdjjooangaa", sum := "cee2507685eef51318335c3344d8f07b2a30bb04ba07464d2c9dedcd3a2fca0d", func := "berthage/berthagelaw05.ProfPlays", spec := "profPlays", inPlace := ["slices.overlaps[berthage/api.Step]"], unfollowed := true, recurses := true, apart := false, narrowed := true }
def ProfPlaysUptoSaid : Prop := profPlaysUptoRow.holds Try.pinned (OpenSpec.upto profPlaysSpec)

/-- 'berthagelaw05.ProfTells', WHERE WHAT IT READS IS OF BULK AT MOST 1048576: true; the input reads as it did. -/
def profTellsUptoRow : OpenClaim := { program := "ytjkojdjjooangaa", sum := "cee2507685eef51318335c3344d8f07b2a30bb04ba07464d2c9dedcd3a2fca0d", func := "berthage/berthagelaw05.ProfTells", spec := "profTells", inPlace := ["slices.overlaps[berthage/api.Step]"], unfollowed := true, recurses := true, apart := false, narrowed := true }
def ProfTellsUptoSaid : Prop := profTellsUptoRow.holds Try.pinned (OpenSpec.upto profTellsSpec)

/-- 'berthagelaw05.ProfBack', WHERE WHAT IT READS IS OF BULK AT MOST 1048576: true; the input reads as it did. -/
def profBackUptoRow : OpenClaim := { program := "ytjkojdjjooangaa", sum := "cee2507685eef51318335c3344d8f07b2a30bb04ba07464d2c9dedcd3a2fca0d", func := "berthage/berthagelaw05.ProfBack", spec := "profBack", inPlace := ["slices.overlaps[berthage/api.Step]"], unfollowed := true, recurses := true, apart := false, narrowed := true }
def ProfBackUptoSaid : Prop := profBackUptoRow.holds Try.pinned (OpenSpec.upto profBackSpec)

/-- 'berthagelaw14.PlanChoices', WHERE WHAT IT READS IS OF BULK AT MOST 1048576: true; the input reads as it did. -/
def planChoicesUptoRow : OpenClaim := { program := "ytjkojdjjooangaa", sum := "cee2507685eef51318335c3344d8f07b2a30bb04ba07464d2c9dedcd3a2fca0d", func := "berthage/berthagelaw14.PlanChoices", spec := "planChoices", inPlace := ["slices.overlaps[berthage/api.Step]"], unfollowed := true, recurses := true, apart := false, narrowed := true }
def PlanChoicesUptoSaid : Prop := planChoicesUptoRow.holds Try.pinned (OpenSpec.upto planChoicesSpec)

/-- 'berthagelaw14.PlanParts', WHERE WHAT IT READS IS OF BULK AT MOST 1048576: true; the input reads as it did. -/
def planPartsUptoRow : OpenClaim := { program := "ytjkojdjjooangaa", sum := "cee2507685eef51318335c3344d8f07b2a30bb04ba07464d2c9dedcd3a2fca0d", func := "berthage/berthagelaw14.PlanParts", spec := "planParts", inPlace := ["slices.overlaps[berthage/api.Step]"], unfollowed := true, recurses := true, apart := false, narrowed := true }
def PlanPartsUptoSaid : Prop := planPartsUptoRow.holds Try.pinned (OpenSpec.upto planPartsSpec)

/-- 'berthagelaw14.PlanLower', WHERE WHAT IT READS IS OF BULK AT MOST 1048576: true; the input reads as it did. -/
def planLowerUptoRow : OpenClaim := { program := "ytjkojdjjooangaa", sum := "cee2507685eef51318335c3344d8f07b2a30bb04ba07464d2c9dedcd3a2fca0d", func := "berthage/berthagelaw14.PlanLower", spec := "planLower", inPlace := ["slices.overlaps[berthage/api.Step]"], unfollowed := true, recurses := true, apart := false, narrowed := true }
def PlanLowerUptoSaid : Prop := planLowerUptoRow.holds Try.pinned (OpenSpec.upto planLowerSpec)

/-- 'berthagelaw14.PlanNobody', WHERE WHAT IT READS IS OF BULK AT MOST 1048576: true; the input reads as it did. -/
def planNobodyUptoRow : OpenClaim := { program := "ytjkojdjjooangaa", sum := "cee2507685eef51318335c3344d8f07b2a30bb04ba07464d2c9dedcd3a2fca0d", func := "berthage/berthagelaw14.PlanNobody", spec := "planNobody", inPlace := ["slices.overlaps[berthage/api.Step]"], unfollowed := true, recurses := true, apart := false, narrowed := true }
def PlanNobodyUptoSaid : Prop := planNobodyUptoRow.holds Try.pinned (OpenSpec.upto planNobodySpec)

/-- 'berthagelaw04.SpanPeaks', WHERE WHAT IT READS IS OF BULK AT MOST 1048576: true; the input reads as it did. -/
def spanPeaksUptoRow : OpenClaim := { program := "ytjkojdjjooangaa", sum := "cee2507685eef51318335c3344d8f07b2a30bb04ba07464d2c9dedcd3a2fca0d", func := "berthage/berthagelaw04.SpanPeaks", spec := "spanPeaks", recurses := true, apart := false, narrowed := true }
def SpanPeaksUptoSaid : Prop := spanPeaksUptoRow.holds Try.pinned (OpenSpec.upto spanPeaksSpec)

/-- 'berthagelaw04.SpanTimes', WHERE WHAT IT READS IS OF BULK AT MOST 1048576: true; the input reads as it did. -/
def spanTimesUptoRow : OpenClaim := { program := "ytjkojdjjooangaa", sum := "cee2507685eef51318335c3344d8f07b2a30bb04ba07464d2c9dedcd3a2fca0d", func := "berthage/berthagelaw04.SpanTimes", spec := "spanTimes", recurses := true, apart := false, narrowed := true }
def SpanTimesUptoSaid : Prop := spanTimesUptoRow.holds Try.pinned (OpenSpec.upto spanTimesSpec)

/-- 'berthagelaw04.SpanSteps', WHERE WHAT IT READS IS OF BULK AT MOST 1048576: true; the input reads as it did. -/
def spanStepsUptoRow : OpenClaim := { program := "ytjkojdjjooangaa", sum := "cee2507685eef51318335c3344d8f07b2a30bb04ba07464d2c9dedcd3a2fca0d", func := "berthage/berthagelaw04.SpanSteps", spec := "spanSteps", recurses := true, apart := false, narrowed := true }
def SpanStepsUptoSaid : Prop := spanStepsUptoRow.holds Try.pinned (OpenSpec.upto spanStepsSpec)

/-- 'berthagelaw45.CalTakes', WHERE WHAT IT READS IS OF BULK AT MOST 1048576: true; the input reads as it did. -/
def calTakesUptoRow : OpenClaim := { program := "ytjkojdjjooangaa", sum := "cee2507685eef51318335c3344d8f07b2a30bb04ba07464d2c9dedcd3a2fca0d", func := "berthage/berthagelaw45.CalTakes", spec := "calTakes", unfollowed := true, recurses := true, apart := false, narrowed := true }
def CalTakesUptoSaid : Prop := calTakesUptoRow.holds Try.pinned (OpenSpec.upto calTakesSpec)

/-- 'berthagelaw04.SpanAreas', WHERE WHAT IT READS IS OF BULK AT MOST 1048576: true; the input reads as it did. -/
def spanAreasUptoRow : OpenClaim := { program := "ytjkojdjjooangaa", sum := "cee2507685eef51318335c3344d8f07b2a30bb04ba07464d2c9dedcd3a2fca0d", func := "berthage/berthagelaw04.SpanAreas", spec := "spanAreas", recurses := true, apart := false, narrowed := true }
def SpanAreasUptoSaid : Prop := spanAreasUptoRow.holds Try.pinned (OpenSpec.upto spanAreasSpec)

/-- 'berthagelaw45.CalSpans', WHERE WHAT IT READS IS OF BULK AT MOST 1048576: true; the input reads as it did. -/
def calSpansUptoRow : OpenClaim := { program := "ytjkojdjjooangaa", sum := "cee2507685eef51318335c3344d8f07b2a30bb04ba07464d2c9dedcd3a2fca0d", func := "berthage/berthagelaw45.CalSpans", spec := "calSpans", unfollowed := true, recurses := true, apart := false, narrowed := true }
def CalSpansUptoSaid : Prop := calSpansUptoRow.holds Try.pinned (OpenSpec.upto calSpansSpec)

/-- 'berthagelaw45.CalNobody', WHERE WHAT IT READS IS OF BULK AT MOST 1048576: true; the input reads as it did. -/
def calNobodyUptoRow : OpenClaim := { program := "ytjkojdjjooangaa", sum := "cee2507685eef51318335c3344d8f07b2a30bb04ba07464d2c9dedcd3a2fca0d", func := "berthage/berthagelaw45.CalNobody", spec := "calNobody", unfollowed := true, recurses := true, apart := false, narrowed := true }
def CalNobodyUptoSaid : Prop := calNobodyUptoRow.holds Try.pinned (OpenSpec.upto calNobodySpec)

/-- 'berthagelaw36.BookFits', WHERE WHAT IT READS IS OF BULK AT MOST 1048576: true; the input reads as it did. -/
def bookFitsUptoRow : OpenClaim := { program := "ytjkojdjjooangaa", sum := "cee2507685eef51318335c3344d8f07b2a30bb04ba07464d2c9dedcd3a2fca0d", func := "berthage/berthagelaw36.BookFits", spec := "bookFits", inPlace := ["slices.overlaps[berthage/book.Entry]", "slices.overlaps[berthage/api.Step]"], unfollowed := true, recurses := true, apart := false, narrowed := true }
def BookFitsUptoSaid : Prop := bookFitsUptoRow.holds Try.pinned (OpenSpec.upto bookFitsSpec)

/-- 'berthagelaw36.BookPlays', WHERE WHAT IT READS IS OF BULK AT MOST 1048576: true; the input reads as it did. -/
def bookPlaysUptoRow : OpenClaim := { program := "ytjkojdjjooangaa", sum := "cee2507685eef51318335c3344d8f07b2a30bb04ba07464d2c9dedcd3a2fca0d", func := "berthage/berthagelaw36.BookPlays", spec := "bookPlays", inPlace := ["slices.overlaps[berthage/book.Entry]", "slices.overlaps[berthage/api.Step]"], unfollowed := true, recurses := true, apart := false, narrowed := true }
def BookPlaysUptoSaid : Prop := bookPlaysUptoRow.holds Try.pinned (OpenSpec.upto bookPlaysSpec)

/-- 'berthagelaw36.BookLeft', WHERE WHAT IT READS IS OF BULK AT MOST 1048576: true; the input reads as it did. -/
def bookLeftUptoRow : OpenClaim := { program := "ytjkojdjjooangaa", sum := "cee2507685eef51318335c3344d8f07b2a30bb04ba07464d2c9dedcd3a2fca0d", func := "berthage/berthagelaw36.BookLeft", spec := "bookLeft", inPlace := ["slices.overlaps[berthage/book.Entry]", "slices.overlaps[berthage/api.Step]"], unfollowed := true, recurses := true, apart := false, narrowed := true }
def BookLeftUptoSaid : Prop := bookLeftUptoRow.holds Try.pinned (OpenSpec.upto bookLeftSpec)

/-- 'berthagelaw36.BookNobody', WHERE WHAT IT READS IS OF BULK AT MOST 1048576: true; the input reads as it did. -/
def bookNobodyUptoRow : OpenClaim := { program := "ytjkojdjjooangaa", sum := "cee2507685eef51318335c3344d8f07b2a30bb04ba07464d2c9dedcd3a2fca0d", func := "berthage/berthagelaw36.BookNobody", spec := "bookNobody", inPlace := ["slices.overlaps[berthage/api.Step]", "slices.overlaps[berthage/book.Entry]"], unfollowed := true, recurses := true, apart := false, narrowed := true }
def BookNobodyUptoSaid : Prop := bookNobodyUptoRow.holds Try.pinned (OpenSpec.upto bookNobodySpec)

end Rows
end Go.Proofs.Ytjkojdjjooangaa
