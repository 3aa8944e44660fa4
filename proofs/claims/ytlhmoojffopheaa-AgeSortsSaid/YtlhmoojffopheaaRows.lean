/-
  No cell of these rows narrows 'for every input' (looked for: loops, veiled, ifaces, maps, wideKeys, modest, calm, conditions, laid).
  DERIVED. THE GIVEN ROWS OF THIS SEAT. 10 by the template 'for every input the law returns true; each argument reads behind the call as it read before'; 0 by the template 'total and deterministic' (their statements: YtlhmoojffopheaaTotals.lean).
  GIVEN WITH THE SEED: the statements are not yours to turn. If you find one false, say at which input.
  Laid BY PROGRAM, IN A SANDBOX (cutbox-rows.mjs): the forced cells as the released guide's own fill.sh prints them over the translation f3ea69e2ead555c0… (all of the seat's roots in one cut). By AI agents, Wed Nov 11 2026. No macro, syntax, notation, axiom, sorry.
-/
import Derived.Test.YtlhmoojffopheaaChecked
import GoSem.Claim
import GoSem.ClaimJoined
import GoSem.ClaimMapViews
import Derived.JoinedTies
import Derived.KernelRfl
namespace Go.Proofs.Ytlhmoojffopheaa
/- THE CELL 'sum', in the pinned program and in every row, IS THE sha256 OF THE DUMP (.gsa) THAT YtlhmoojffopheaaProg.lean LOADS. Nothing in Lean hashes anything: it is a label: what it is worth is what the hold of that sum in a sandbox is worth. -/
noncomputable def Try.pinned : Pinned := { name := "ytlhmoojffopheaa", sum := "f3ea69e2ead555c057d999079615be68e1601e28001d590b15d113aa577fbbc4", checked := Try.checked }
namespace Rows
def none {H : Type} : Left H := { results := [], args := [] }

/-- 'berthagelaw30.GanttClashes': WHATEVER THE INPUT: true; the input reads as it did. -/
def ganttClashesSpec : ChangeSpec := { name := "ganttClashes", fn := fun _ => fun
  | [d] => { results := [.lit (.bool true)], args := [d] }
  | _ => none }
def ganttClashesRow : OpenClaim := { program := "ytlhmoojffopheaa", sum := "f3ea69e2ead555c057d999079615be68e1601e28001d590b15d113aa577fbbc4", func := "berthage/berthagelaw30.GanttClashes", spec := "ganttClashes", apart := false }
def GanttClashesSaid : Prop := ganttClashesRow.holds Try.pinned (OpenSpec.ofChange ganttClashesSpec)

/-- ITS FALSE NEIGHBOUR: 'it returns false'. Refute it at one input. -/
def ganttClashesWrong : ChangeSpec := { name := "ganttClashes", fn := fun _ => fun
  | [d] => { results := [.lit (.bool false)], args := [d] }
  | _ => none }
def GanttClashesWrongFalsely : Prop := ganttClashesRow.holds Try.pinned (OpenSpec.ofChange ganttClashesWrong)

/-- 'berthagelaw07.OrderCompares': WHATEVER THE INPUT: true; the input reads as it did. -/
def orderComparesSpec : ChangeSpec := { name := "orderCompares", fn := fun _ => fun
  | [d1, d2] => { results := [.lit (.bool true)], args := [d1, d2] }
  | _ => none }
def orderComparesRow : OpenClaim := { program := "ytlhmoojffopheaa", sum := "f3ea69e2ead555c057d999079615be68e1601e28001d590b15d113aa577fbbc4", func := "berthage/berthagelaw07.OrderCompares", spec := "orderCompares", apart := false }
def OrderComparesSaid : Prop := orderComparesRow.holds Try.pinned (OpenSpec.ofChange orderComparesSpec)

/-- ITS FALSE NEIGHBOUR: 'it returns false'. Refute it at one input. -/
def orderComparesWrong : ChangeSpec := { name := "orderCompares", fn := fun _ => fun
  | [d1, d2] => { results := [.lit (.bool false)], args := [d1, d2] }
  | _ => none }
def OrderComparesWrongFalsely : Prop := orderComparesRow.holds Try.pinned (OpenSpec.ofChange orderComparesWrong)

/-- 'berthagelaw30.GanttFits': WHATEVER THE INPUT: true; the input reads as it did. -/
def ganttFitsSpec : ChangeSpec := { name := "ganttFits", fn := fun _ => fun
  | [d1, d2] => { results := [.lit (.bool true)], args := [d1, d2] }
  | _ => none }
def ganttFitsRow : OpenClaim := { program := "ytlhmoojffopheaa", sum := "f3ea69e2ead555c057d999079615be68e1601e28001d590b15d113aa577fbbc4", func := "berthage/berthagelaw30.GanttFits", spec := "ganttFits", apart := false }
def GanttFitsSaid : Prop := ganttFitsRow.holds Try.pinned (OpenSpec.ofChange ganttFitsSpec)

/-- ITS FALSE NEIGHBOUR: 'it returns false'. Refute it at one input. -/
def ganttFitsWrong : ChangeSpec := { name := "ganttFits", fn := fun _ => fun
  | [d1, d2] => { results := [.lit (.bool false)], args := [d1, d2] }
  | _ => none }
def GanttFitsWrongFalsely : Prop := ganttFitsRow.holds Try.pinned (OpenSpec.ofChange ganttFitsWrong)

/-- 'berthagelaw31.AgePoints': WHATEVER THE INPUT: true; the input reads as it did. -/
def agePointsSpec : ChangeSpec := { name := "agePoints", fn := fun _ => fun
  | [d1, d2, d3] => { results := [.lit (.bool true)], args := [d1, d2, d3] }
  | _ => none }
def agePointsRow : OpenClaim := { program := "ytlhmoojffopheaa", sum := "f3ea69e2ead555c057d999079615be68e1601e28001d590b15d113aa577fbbc4", func := "berthage/berthagelaw31.AgePoints", spec := "agePoints", apart := false }
def AgePointsSaid : Prop := agePointsRow.holds Try.pinned (OpenSpec.ofChange agePointsSpec)

/-- ITS FALSE NEIGHBOUR: 'it returns false'. Refute it at one input. -/
def agePointsWrong : ChangeSpec := { name := "agePoints", fn := fun _ => fun
  | [d1, d2, d3] => { results := [.lit (.bool false)], args := [d1, d2, d3] }
  | _ => none }
def AgePointsWrongFalsely : Prop := agePointsRow.holds Try.pinned (OpenSpec.ofChange agePointsWrong)

/-- 'berthagelaw31.AgePrios': WHATEVER THE INPUT: true; the input reads as it did. -/
def agePriosSpec : ChangeSpec := { name := "agePrios", fn := fun _ => fun
  | [d] => { results := [.lit (.bool true)], args := [d] }
  | _ => none }
def agePriosRow : OpenClaim := { program := "ytlhmoojffopheaa", sum := "f3ea69e2ead555c057d999079615be68e1601e28001d590b15d113aa577fbbc4", func := "berthage/berthagelaw31.AgePrios", spec := "agePrios", apart := false }
def AgePriosSaid : Prop := agePriosRow.holds Try.pinned (OpenSpec.ofChange agePriosSpec)

/-- ITS FALSE NEIGHBOUR: 'it returns false'. Refute it at one input. -/
def agePriosWrong : ChangeSpec := { name := "agePrios", fn := fun _ => fun
  | [d] => { results := [.lit (.bool false)], args := [d] }
  | _ => none }
def AgePriosWrongFalsely : Prop := agePriosRow.holds Try.pinned (OpenSpec.ofChange agePriosWrong)

/-- 'berthagelaw30.GanttRows': WHATEVER THE INPUT: true; the input reads as it did. -/
def ganttRowsSpec : ChangeSpec := { name := "ganttRows", fn := fun _ => fun
  | [d1, d2, d3, d4] => { results := [.lit (.bool true)], args := [d1, d2, d3, d4] }
  | _ => none }
def ganttRowsRow : OpenClaim := { program := "ytlhmoojffopheaa", sum := "f3ea69e2ead555c057d999079615be68e1601e28001d590b15d113aa577fbbc4", func := "berthage/berthagelaw30.GanttRows", spec := "ganttRows", inPlace := ["internal/abi.NoEscape"], apart := false }
def GanttRowsSaid : Prop := ganttRowsRow.holds Try.pinned (OpenSpec.ofChange ganttRowsSpec)

/-- ITS FALSE NEIGHBOUR: 'it returns false'. Refute it at one input. -/
def ganttRowsWrong : ChangeSpec := { name := "ganttRows", fn := fun _ => fun
  | [d1, d2, d3, d4] => { results := [.lit (.bool false)], args := [d1, d2, d3, d4] }
  | _ => none }
def GanttRowsWrongFalsely : Prop := ganttRowsRow.holds Try.pinned (OpenSpec.ofChange ganttRowsWrong)

/-- 'berthagelaw07.OrderNobody': WHATEVER THE INPUT: true; the input reads as it did. -/
def orderNobodySpec : ChangeSpec := { name := "orderNobody", fn := fun _ => fun
  | [d] => { results := [.lit (.bool true)], args := [d] }
  | _ => none }
def orderNobodyRow : OpenClaim := { program := "ytlhmoojffopheaa", sum := "f3ea69e2ead555c057d999079615be68e1601e28001d590b15d113aa577fbbc4", func := "berthage/berthagelaw07.OrderNobody", spec := "orderNobody", apart := false }
def OrderNobodySaid : Prop := orderNobodyRow.holds Try.pinned (OpenSpec.ofChange orderNobodySpec)

/-- ITS FALSE NEIGHBOUR: 'it returns false'. Refute it at one input. -/
def orderNobodyWrong : ChangeSpec := { name := "orderNobody", fn := fun _ => fun
  | [d] => { results := [.lit (.bool false)], args := [d] }
  | _ => none }
def OrderNobodyWrongFalsely : Prop := orderNobodyRow.holds Try.pinned (OpenSpec.ofChange orderNobodyWrong)

/-- 'berthagelaw07.OrderQueues': WHATEVER THE INPUT: true; the input reads as it did. -/
def orderQueuesSpec : ChangeSpec := { name := "orderQueues", fn := fun _ => fun
  | [d1, d2] => { results := [.lit (.bool true)], args := [d1, d2] }
  | _ => none }
def orderQueuesRow : OpenClaim := { program := "ytlhmoojffopheaa", sum := "f3ea69e2ead555c057d999079615be68e1601e28001d590b15d113aa577fbbc4", func := "berthage/berthagelaw07.OrderQueues", spec := "orderQueues", apart := false }
def OrderQueuesSaid : Prop := orderQueuesRow.holds Try.pinned (OpenSpec.ofChange orderQueuesSpec)

/-- ITS FALSE NEIGHBOUR: 'it returns false'. Refute it at one input. -/
def orderQueuesWrong : ChangeSpec := { name := "orderQueues", fn := fun _ => fun
  | [d1, d2] => { results := [.lit (.bool false)], args := [d1, d2] }
  | _ => none }
def OrderQueuesWrongFalsely : Prop := orderQueuesRow.holds Try.pinned (OpenSpec.ofChange orderQueuesWrong)

/-- 'berthagelaw07.OrderSorts': WHATEVER THE INPUT: true; the input reads as it did. -/
def orderSortsSpec : ChangeSpec := { name := "orderSorts", fn := fun _ => fun
  | [d1, d2] => { results := [.lit (.bool true)], args := [d1, d2] }
  | _ => none }
def orderSortsRow : OpenClaim := { program := "ytlhmoojffopheaa", sum := "f3ea69e2ead555c057d999079615be68e1601e28001d590b15d113aa577fbbc4", func := "berthage/berthagelaw07.OrderSorts", spec := "orderSorts", unfollowed := true, recurses := true, apart := false }
def OrderSortsSaid : Prop := orderSortsRow.holds Try.pinned (OpenSpec.ofChange orderSortsSpec)

/-- ITS FALSE NEIGHBOUR: 'it returns false'. Refute it at one input. -/
def orderSortsWrong : ChangeSpec := { name := "orderSorts", fn := fun _ => fun
  | [d1, d2] => { results := [.lit (.bool false)], args := [d1, d2] }
  | _ => none }
def OrderSortsWrongFalsely : Prop := orderSortsRow.holds Try.pinned (OpenSpec.ofChange orderSortsWrong)

/-- 'berthagelaw31.AgeSorts': WHATEVER THE INPUT: true; the input reads as it did. -/
def ageSortsSpec : ChangeSpec := { name := "ageSorts", fn := fun _ => fun
  | [d1, d2, d3] => { results := [.lit (.bool true)], args := [d1, d2, d3] }
  | _ => none }
def ageSortsRow : OpenClaim := { program := "ytlhmoojffopheaa", sum := "f3ea69e2ead555c057d999079615be68e1601e28001d590b15d113aa577fbbc4", func := "berthage/berthagelaw31.AgeSorts", spec := "ageSorts", unfollowed := true, recurses := true, apart := false }
def AgeSortsSaid : Prop := ageSortsRow.holds Try.pinned (OpenSpec.ofChange ageSortsSpec)

/-- ITS FALSE NEIGHBOUR: 'it returns false'. Refute it at one input. -/
def ageSortsWrong : ChangeSpec := { name := "ageSorts", fn := fun _ => fun
  | [d1, d2, d3] => { results := [.lit (.bool false)], args := [d1, d2, d3] }
  | _ => none }
def AgeSortsWrongFalsely : Prop := ageSortsRow.holds Try.pinned (OpenSpec.ofChange ageSortsWrong)

/- THE SECOND FORM. 'bulk': how many values and letters a reading holds, each counted each time it is reached (what is shared counts as often as it is met; a slice's spare places count too). A statement '..UptoSaid' is the law's where the arguments, and the package variables that the reading takes, are together of bulk at most 1048576: NARROWER than '..Said'. Prove '..Said' where nothing that the law and all that it calls make is longer than what came in: it says more and counts as full. Else prove '..UptoSaid'. A law counts once. -/
mutual
def uptoBulk {H : Type} : DataW H → Nat
  | .lit (.string bytes) => bytes.length + 1
  | .lit _ => 1
  | .nil => 1
  | .ptr d => uptoBulk d + 1
  | .slice elems spare => uptoBulkAll elems + uptoBulkAll spare + 1
  | .agg parts => uptoBulkAll parts + 1
  | .iface _ d => uptoBulk d + 1
  | .map entries => uptoBulkEntries entries + 1
  | .held _ => 1
def uptoBulkAll {H : Type} : List (DataW H) → Nat
  | [] => 0
  | d :: r => uptoBulk d + uptoBulkAll r
def uptoBulkEntries {H : Type} : List (Lit × DataW H) → Nat
  | [] => 0
  | x :: r => uptoBulkEntry x + uptoBulkEntries r
def uptoBulkEntry {H : Type} : Lit × DataW H → Nat
  | (.string bytes, d) => bytes.length + uptoBulk d + 1
  | (_, d) => uptoBulk d + 1
 end
def uptoSmall : (H : Type) → List (DataW H) → Bool := fun _ ds => decide (uptoBulkAll ds ≤ 1048576)
def OpenSpec.upto (s : _root_.Go.ChangeSpec) : _root_.Go.OpenSpec := { _root_.Go.OpenSpec.ofChange s with cond := some uptoSmall }

/-- 'berthagelaw30.GanttClashes', WHERE WHAT IT READS IS OF BULK AT MOST 1048576: true; the input reads as it did. -/
def ganttClashesUptoRow : OpenClaim := { program := "ytlhmoojffopheaa", sum := "f3ea69e2ead555c057d999079615be68e1601e28001d590b15d113aa577fbbc4", func := "berthage/berthagelaw30.GanttClashes", spec := "ganttClashes", apart := false, narrowed := true }
def GanttClashesUptoSaid : Prop := ganttClashesUptoRow.holds Try.pinned (OpenSpec.upto ganttClashesSpec)

/-- 'berthagelaw07.OrderCompares', WHERE WHAT IT READS IS OF BULK AT MOST 1048576: true; the input reads as it did. -/
def orderComparesUptoRow : OpenClaim := { program := "ytlhmoojffopheaa", sum := "f3ea69e2ead555c057d999079615be68e1601e28001d590b15d113aa577fbbc4", func := "berthage/berthagelaw07.OrderCompares", spec := "orderCompares", apart := false, narrowed := true }
def OrderComparesUptoSaid : Prop := orderComparesUptoRow.holds Try.pinned (OpenSpec.upto orderComparesSpec)

/-- 'berthagelaw30.GanttFits', WHERE WHAT IT READS IS OF BULK AT MOST 1048576: true; the input reads as it did. -/
def ganttFitsUptoRow : OpenClaim := { program := "ytlhmoojffopheaa", sum := "f3ea69e2ead555c057d999079615be68e1601e28001d590b15d113aa577fbbc4", func := "berthage/berthagelaw30.GanttFits", spec := "ganttFits", apart := false, narrowed := true }
def GanttFitsUptoSaid : Prop := ganttFitsUptoRow.holds Try.pinned (OpenSpec.upto ganttFitsSpec)

/-- 'berthagelaw31.AgePoints', WHERE WHAT IT READS IS OF BULK AT MOST 1048576: true; the input reads as it did. -/
def agePointsUptoRow : OpenClaim := { program := "ytlhmoojffopheaa", sum := "f3ea69e2ead555c057d999079615be68e1601e28001d590b15d113aa577fbbc4", func := "berthage/berthagelaw31.AgePoints", spec := "agePoints", apart := false, narrowed := true }
def AgePointsUptoSaid : Prop := agePointsUptoRow.holds Try.pinned (OpenSpec.upto agePointsSpec)

/-- 'berthagelaw31.AgePrios', WHERE WHAT IT READS IS OF BULK AT MOST 1048576: true; the input reads as it did. -/
def agePriosUptoRow : OpenClaim := { program := "ytlhmoojffopheaa", sum := "f3ea69e2ead555c057d999079615be68e1601e28001d590b15d113aa577fbbc4", func := "berthage/berthagelaw31.AgePrios", spec := "agePrios", apart := false, narrowed := true }
def AgePriosUptoSaid : Prop := agePriosUptoRow.holds Try.pinned (OpenSpec.upto agePriosSpec)

/-- 'berthagelaw30.GanttRows', WHERE WHAT IT READS IS OF BULK AT MOST 1048576: true; the input reads as it did. -/
def ganttRowsUptoRow : OpenClaim := { program := "ytlhmoojffopheaa", sum := "f3ea69e2ead555c057d999079615be68e1601e28001d590b15d113aa577fbbc4", func := "berthage/berthagelaw30.GanttRows", spec := "ganttRows", inPlace := ["internal/abi.NoEscape"], apart := false, narrowed := true }
def GanttRowsUptoSaid : Prop := ganttRowsUptoRow.holds Try.pinned (OpenSpec.upto ganttRowsSpec)

/-- 'berthagelaw07.OrderNobody', WHERE WHAT IT READS IS OF BULK AT MOST 1048576: true; the input reads as it did. -/
def orderNobodyUptoRow : OpenClaim := { program := "ytlhmoojffopheaa", sum := "f3ea69e2ead555c057d999079615be68e1601e28001d590b15d113aa577fbbc4", func := "berthage/berthagelaw07.OrderNobody", spec := "orderNobody", apart := false, narrowed := true }
def OrderNobodyUptoSaid : Prop := orderNobodyUptoRow.holds Try.pinned (OpenSpec.upto orderNobodySpec)

/-- 'berthagelaw07.OrderQueues', WHERE WHAT IT READS IS OF BULK AT MOST 1048576: true; the input reads as it did. -/
def orderQueuesUptoRow : OpenClaim := { program := "ytlhmoojffopheaa", sum := "f3ea69e2ead555c057d999079615be68e1601e28001d590b15d113aa577fbbc4", func := "berthage/berthagelaw07.OrderQueues", spec := "orderQueues", apart := false, narrowed := true }
def OrderQueuesUptoSaid : Prop := orderQueuesUptoRow.holds Try.pinned (OpenSpec.upto orderQueuesSpec)

/-- 'berthagelaw07.OrderSorts', WHERE WHAT IT READS IS OF BULK AT MOST 1048576: true; the input reads as it did. -/
def orderSortsUptoRow : OpenClaim := { program := "ytlhmoojffopheaa", sum := "f3ea69e2ead555c057d999079615be68e1601e28001d590b15d113aa577fbbc4", func := "berthage/berthagelaw07.OrderSorts", spec := "orderSorts", unfollowed := true, recurses := true, apart := false, narrowed := true }
def OrderSortsUptoSaid : Prop := orderSortsUptoRow.holds Try.pinned (OpenSpec.upto orderSortsSpec)

/-- 'berthagelaw31.AgeSorts', WHERE WHAT IT READS IS OF BULK AT MOST 1048576: true; the input reads as it did. -/
def ageSortsUptoRow : OpenClaim := { program := "ytlhmoojffopheaa", sum := "f3ea69e2ead555c057d999079615be68e1601e28001d590b15d113aa577fbbc4", func := "berthage/berthagelaw31.AgeSorts", spec := "ageSorts", unfollowed := true, recurses := true, apart := false, narrowed := true }
def AgeSortsUptoSaid : Prop := ageSortsUptoRow.holds Try.pinned (OpenSpec.upto ageSortsSpec)

end Rows
end Go.Proofs.Ytlhmoojffopheaa
