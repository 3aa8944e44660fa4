/-
  No cell of these rows narrows 'for every input' (looked for: loops, veiled, ifaces, maps, wideKeys, modest, calm, conditions, laid).
  DERIVED. THE GIVEN ROWS OF THIS SEAT. 16 by the template 'for every input the law returns true; each argument reads behind the call as it read before'; 0 by the template 'total and deterministic' (their statements: YteilocpjikmmdaaTotals.lean).
  GIVEN WITH THE SEED: the statements are not yours to turn. If you find one false, say at which input.
  Laid BY PROGRAM, IN A SANDBOX (cutbox-rows.mjs): the forced cells as the released guide's own fill.sh prints them over the translation 18c16f86153323ca… (all of the seat's roots in one cut). By AI agents, Wed Nov 11 2026. No macro, syntax, notation, axiom, sorry.
-/
import Derived.Test.YteilocpjikmmdaaChecked
import GoSem.Claim
import GoSem.ClaimJoined
import GoSem.ClaimMapViews
import Derived.JoinedTies
import Derived.KernelRfl
namespace Go.Proofs.Yteilocpjikmmdaa
/- THE CELL 'sum', in the pinned program and in every row, IS THE sha256 OF THE DUMP (.gsa) THAT YteilocpjikmmdaaProg.lean LOADS. Nothing in Lean hashes anything: it is a label: what it is worth is what the hold of that sum in a sandbox is worth. -/
noncomputable def Try.pinned : Pinned := { name := "yteilocpjikmmdaa", sum := "18c16f86153323ca1b20ed137906db5c0726a8911e4dd75874afc2319906a55a", checked := Try.checked }
namespace Rows
def none {H : Type} : Left H := { results := [], args := [] }

/-- 'berthagelaw33.QuotaUses': WHATEVER THE INPUT: true; the input reads as it did. -/
def quotaUsesSpec : ChangeSpec := { name := "quotaUses", fn := fun _ => fun
  | [d1, d2, d3, d4, d5] => { results := [.lit (.bool true)], args := [d1, d2, d3, d4, d5] }
  | _ => none }
def quotaUsesRow : OpenClaim := { program := "yteilocpjikmmdaa", sum := "18c16f86153323ca1b20ed137906db5c0726a8911e4dd75874afc2319906a55a", func := "berthage/berthagelaw33.QuotaUses", spec := "quotaUses", apart := false }
def QuotaUsesSaid : Prop := quotaUsesRow.holds Try.pinned (OpenSpec.ofChange quotaUsesSpec)

/-- ITS FALSE NEIGHBOUR: 'it returns false'. Refute it at one input. -/
def quotaUsesWrong : ChangeSpec := { name := "quotaUses", fn := fun _ => fun
  | [d1, d2, d3, d4, d5] => { results := [.lit (.bool false)], args := [d1, d2, d3, d4, d5] }
  | _ => none }
def QuotaUsesWrongFalsely : Prop := quotaUsesRow.holds Try.pinned (OpenSpec.ofChange quotaUsesWrong)

/-- 'berthagelaw08.JobRights': WHATEVER THE INPUT: true; the input reads as it did. -/
def jobRightsSpec : ChangeSpec := { name := "jobRights", fn := fun _ => fun
  | [d1, d2] => { results := [.lit (.bool true)], args := [d1, d2] }
  | _ => none }
def jobRightsRow : OpenClaim := { program := "yteilocpjikmmdaa", sum := "18c16f86153323ca1b20ed137906db5c0726a8911e4dd75874afc2319906a55a", func := "berthage/berthagelaw08.JobRights", spec := "jobRights", apart := false }
def JobRightsSaid : Prop := jobRightsRow.holds Try.pinned (OpenSpec.ofChange jobRightsSpec)

/-- ITS FALSE NEIGHBOUR: 'it returns false'. Refute it at one input. -/
def jobRightsWrong : ChangeSpec := { name := "jobRights", fn := fun _ => fun
  | [d1, d2] => { results := [.lit (.bool false)], args := [d1, d2] }
  | _ => none }
def JobRightsWrongFalsely : Prop := jobRightsRow.holds Try.pinned (OpenSpec.ofChange jobRightsWrong)

/-- 'berthagelaw08.JobFull': WHATEVER THE INPUT: true; the input reads as it did. -/
def jobFullSpec : ChangeSpec := { name := "jobFull", fn := fun _ => fun
  | [d1, d2] => { results := [.lit (.bool true)], args := [d1, d2] }
  | _ => none }
def jobFullRow : OpenClaim := { program := "yteilocpjikmmdaa", sum := "18c16f86153323ca1b20ed137906db5c0726a8911e4dd75874afc2319906a55a", func := "berthage/berthagelaw08.JobFull", spec := "jobFull", apart := false }
def JobFullSaid : Prop := jobFullRow.holds Try.pinned (OpenSpec.ofChange jobFullSpec)

/-- ITS FALSE NEIGHBOUR: 'it returns false'. Refute it at one input. -/
def jobFullWrong : ChangeSpec := { name := "jobFull", fn := fun _ => fun
  | [d1, d2] => { results := [.lit (.bool false)], args := [d1, d2] }
  | _ => none }
def JobFullWrongFalsely : Prop := jobFullRow.holds Try.pinned (OpenSpec.ofChange jobFullWrong)

/-- 'berthagelaw08.JobPlays': WHATEVER THE INPUT: true; the input reads as it did. -/
def jobPlaysSpec : ChangeSpec := { name := "jobPlays", fn := fun _ => fun
  | [d] => { results := [.lit (.bool true)], args := [d] }
  | _ => none }
def jobPlaysRow : OpenClaim := { program := "yteilocpjikmmdaa", sum := "18c16f86153323ca1b20ed137906db5c0726a8911e4dd75874afc2319906a55a", func := "berthage/berthagelaw08.JobPlays", spec := "jobPlays", apart := false }
def JobPlaysSaid : Prop := jobPlaysRow.holds Try.pinned (OpenSpec.ofChange jobPlaysSpec)

/-- ITS FALSE NEIGHBOUR: 'it returns false'. Refute it at one input. -/
def jobPlaysWrong : ChangeSpec := { name := "jobPlays", fn := fun _ => fun
  | [d] => { results := [.lit (.bool false)], args := [d] }
  | _ => none }
def JobPlaysWrongFalsely : Prop := jobPlaysRow.holds Try.pinned (OpenSpec.ofChange jobPlaysWrong)

/-- 'berthagelaw43.TraceCounts': WHATEVER THE INPUT: true; the input reads as it did. -/
def traceCountsSpec : ChangeSpec := { name := "traceCounts", fn := fun _ => fun
  | [d] => { results := [.lit (.bool true)], args := [d] }
  | _ => none }
def traceCountsRow : OpenClaim := { program := "yteilocpjikmmdaa", sum := "18c16f86153323ca1b20ed137906db5c0726a8911e4dd75874afc2319906a55a", func := "berthage/berthagelaw43.TraceCounts", spec := "traceCounts", unfollowed := true, recurses := true, apart := false }
def TraceCountsSaid : Prop := traceCountsRow.holds Try.pinned (OpenSpec.ofChange traceCountsSpec)

/-- ITS FALSE NEIGHBOUR: 'it returns false'. Refute it at one input. -/
def traceCountsWrong : ChangeSpec := { name := "traceCounts", fn := fun _ => fun
  | [d] => { results := [.lit (.bool false)], args := [d] }
  | _ => none }
def TraceCountsWrongFalsely : Prop := traceCountsRow.holds Try.pinned (OpenSpec.ofChange traceCountsWrong)

/-- 'berthagelaw32.ShareNews': WHATEVER THE INPUT: true; the input reads as it did. -/
def shareNewsSpec : ChangeSpec := { name := "shareNews", fn := fun _ => fun
  | [d1, d2] => { results := [.lit (.bool true)], args := [d1, d2] }
  | _ => none }
def shareNewsRow : OpenClaim := { program := "yteilocpjikmmdaa", sum := "18c16f86153323ca1b20ed137906db5c0726a8911e4dd75874afc2319906a55a", func := "berthage/berthagelaw32.ShareNews", spec := "shareNews", inPlace := ["slices.overlaps[berthage/share.User]"], unfollowed := true, recurses := true, apart := false }
def ShareNewsSaid : Prop := shareNewsRow.holds Try.pinned (OpenSpec.ofChange shareNewsSpec)

/-- ITS FALSE NEIGHBOUR: 'it returns false'. Refute it at one input. -/
def shareNewsWrong : ChangeSpec := { name := "shareNews", fn := fun _ => fun
  | [d1, d2] => { results := [.lit (.bool false)], args := [d1, d2] }
  | _ => none }
def ShareNewsWrongFalsely : Prop := shareNewsRow.holds Try.pinned (OpenSpec.ofChange shareNewsWrong)

/-- 'berthagelaw46.RetryAgain': WHATEVER THE INPUT: true; the input reads as it did. -/
def retryAgainSpec : ChangeSpec := { name := "retryAgain", fn := fun _ => fun
  | [d1, d2, d3] => { results := [.lit (.bool true)], args := [d1, d2, d3] }
  | _ => none }
def retryAgainRow : OpenClaim := { program := "yteilocpjikmmdaa", sum := "18c16f86153323ca1b20ed137906db5c0726a8911e4dd75874afc2319906a55a", func := "berthage/berthagelaw46.RetryAgain", spec := "retryAgain", inPlace := ["slices.overlaps[berthage/retry.Entry]"], unfollowed := true, recurses := true, apart := false }
def RetryAgainSaid : Prop := retryAgainRow.holds Try.pinned (OpenSpec.ofChange retryAgainSpec)

/-- ITS FALSE NEIGHBOUR: 'it returns false'. Refute it at one input. -/
def retryAgainWrong : ChangeSpec := { name := "retryAgain", fn := fun _ => fun
  | [d1, d2, d3] => { results := [.lit (.bool false)], args := [d1, d2, d3] }
  | _ => none }
def RetryAgainWrongFalsely : Prop := retryAgainRow.holds Try.pinned (OpenSpec.ofChange retryAgainWrong)

/-- 'berthagelaw46.RetryGrows': WHATEVER THE INPUT: true; the input reads as it did. -/
def retryGrowsSpec : ChangeSpec := { name := "retryGrows", fn := fun _ => fun
  | [d1, d2, d3] => { results := [.lit (.bool true)], args := [d1, d2, d3] }
  | _ => none }
def retryGrowsRow : OpenClaim := { program := "yteilocpjikmmdaa", sum := "18c16f86153323ca1b20ed137906db5c0726a8911e4dd75874afc2319906a55a", func := "berthage/berthagelaw46.RetryGrows", spec := "retryGrows", inPlace := ["slices.overlaps[berthage/retry.Entry]"], unfollowed := true, recurses := true, apart := false }
def RetryGrowsSaid : Prop := retryGrowsRow.holds Try.pinned (OpenSpec.ofChange retryGrowsSpec)

/-- ITS FALSE NEIGHBOUR: 'it returns false'. Refute it at one input. -/
def retryGrowsWrong : ChangeSpec := { name := "retryGrows", fn := fun _ => fun
  | [d1, d2, d3] => { results := [.lit (.bool false)], args := [d1, d2, d3] }
  | _ => none }
def RetryGrowsWrongFalsely : Prop := retryGrowsRow.holds Try.pinned (OpenSpec.ofChange retryGrowsWrong)

/-- 'berthagelaw46.RetryPlays': WHATEVER THE INPUT: true; the input reads as it did. -/
def retryPlaysSpec : ChangeSpec := { name := "retryPlays", fn := fun _ => fun
  | [d1, d2] => { results := [.lit (.bool true)], args := [d1, d2] }
  | _ => none }
def retryPlaysRow : OpenClaim := { program := "yteilocpjikmmdaa", sum := "18c16f86153323ca1b20ed137906db5c0726a8911e4dd75874afc2319906a55a", func := "berthage/berthagelaw46.RetryPlays", spec := "retryPlays", inPlace := ["slices.overlaps[berthage/retry.Entry]"], unfollowed := true, recurses := true, apart := false }
def RetryPlaysSaid : Prop := retryPlaysRow.holds Try.pinned (OpenSpec.ofChange retryPlaysSpec)

/-- ITS FALSE NEIGHBOUR: 'it returns false'. Refute it at one input. -/
def retryPlaysWrong : ChangeSpec := { name := "retryPlays", fn := fun _ => fun
  | [d1, d2] => { results := [.lit (.bool false)], args := [d1, d2] }
  | _ => none }
def RetryPlaysWrongFalsely : Prop := retryPlaysRow.holds Try.pinned (OpenSpec.ofChange retryPlaysWrong)

/-- 'berthagelaw46.RetryEnds': WHATEVER THE INPUT: true; the input reads as it did. -/
def retryEndsSpec : ChangeSpec := { name := "retryEnds", fn := fun _ => fun
  | [d1, d2] => { results := [.lit (.bool true)], args := [d1, d2] }
  | _ => none }
def retryEndsRow : OpenClaim := { program := "yteilocpjikmmdaa", sum := "18c16f86153323ca1b20ed137906db5c0726a8911e4dd75874afc2319906a55a", func := "berthage/berthagelaw46.RetryEnds", spec := "retryEnds", inPlace := ["slices.overlaps[berthage/retry.Entry]"], unfollowed := true, recurses := true, apart := false }
def RetryEndsSaid : Prop := retryEndsRow.holds Try.pinned (OpenSpec.ofChange retryEndsSpec)

/-- ITS FALSE NEIGHBOUR: 'it returns false'. Refute it at one input. -/
def retryEndsWrong : ChangeSpec := { name := "retryEnds", fn := fun _ => fun
  | [d1, d2] => { results := [.lit (.bool false)], args := [d1, d2] }
  | _ => none }
def RetryEndsWrongFalsely : Prop := retryEndsRow.holds Try.pinned (OpenSpec.ofChange retryEndsWrong)

/-- 'berthagelaw08.JobLists': WHATEVER THE INPUT: true; the input reads as it did. -/
def jobListsSpec : ChangeSpec := { name := "jobLists", fn := fun _ => fun
  | [d1, d2, d3] => { results := [.lit (.bool true)], args := [d1, d2, d3] }
  | _ => none }
def jobListsRow : OpenClaim := { program := "yteilocpjikmmdaa", sum := "18c16f86153323ca1b20ed137906db5c0726a8911e4dd75874afc2319906a55a", func := "berthage/berthagelaw08.JobLists", spec := "jobLists", unfollowed := true, recurses := true, apart := false }
def JobListsSaid : Prop := jobListsRow.holds Try.pinned (OpenSpec.ofChange jobListsSpec)

/-- ITS FALSE NEIGHBOUR: 'it returns false'. Refute it at one input. -/
def jobListsWrong : ChangeSpec := { name := "jobLists", fn := fun _ => fun
  | [d1, d2, d3] => { results := [.lit (.bool false)], args := [d1, d2, d3] }
  | _ => none }
def JobListsWrongFalsely : Prop := jobListsRow.holds Try.pinned (OpenSpec.ofChange jobListsWrong)

/-- 'berthagelaw32.SharePlays': WHATEVER THE INPUT: true; the input reads as it did. -/
def sharePlaysSpec : ChangeSpec := { name := "sharePlays", fn := fun _ => fun
  | [d1, d2, d3] => { results := [.lit (.bool true)], args := [d1, d2, d3] }
  | _ => none }
def sharePlaysRow : OpenClaim := { program := "yteilocpjikmmdaa", sum := "18c16f86153323ca1b20ed137906db5c0726a8911e4dd75874afc2319906a55a", func := "berthage/berthagelaw32.SharePlays", spec := "sharePlays", inPlace := ["slices.overlaps[berthage/share.User]"], unfollowed := true, recurses := true, apart := false }
def SharePlaysSaid : Prop := sharePlaysRow.holds Try.pinned (OpenSpec.ofChange sharePlaysSpec)

/-- ITS FALSE NEIGHBOUR: 'it returns false'. Refute it at one input. -/
def sharePlaysWrong : ChangeSpec := { name := "sharePlays", fn := fun _ => fun
  | [d1, d2, d3] => { results := [.lit (.bool false)], args := [d1, d2, d3] }
  | _ => none }
def SharePlaysWrongFalsely : Prop := sharePlaysRow.holds Try.pinned (OpenSpec.ofChange sharePlaysWrong)

/-- 'berthagelaw32.ShareNobody': WHATEVER THE INPUT: true; the input reads as it did. -/
def shareNobodySpec : ChangeSpec := { name := "shareNobody", fn := fun _ => fun
  | [d1, d2] => { results := [.lit (.bool true)], args := [d1, d2] }
  | _ => none }
def shareNobodyRow : OpenClaim := { program := "yteilocpjikmmdaa", sum := "18c16f86153323ca1b20ed137906db5c0726a8911e4dd75874afc2319906a55a", func := "berthage/berthagelaw32.ShareNobody", spec := "shareNobody", inPlace := ["slices.overlaps[berthage/share.User]"], unfollowed := true, recurses := true, apart := false }
def ShareNobodySaid : Prop := shareNobodyRow.holds Try.pinned (OpenSpec.ofChange shareNobodySpec)

/-- ITS FALSE NEIGHBOUR: 'it returns false'. Refute it at one input. -/
def shareNobodyWrong : ChangeSpec := { name := "shareNobody", fn := fun _ => fun
  | [d1, d2] => { results := [.lit (.bool false)], args := [d1, d2] }
  | _ => none }
def ShareNobodyWrongFalsely : Prop := shareNobodyRow.holds Try.pinned (OpenSpec.ofChange shareNobodyWrong)

/-- 'berthagelaw33.QuotaGates': WHATEVER THE INPUT: true; the input reads as it did. -/
def quotaGatesSpec : ChangeSpec := { name := "quotaGates", fn := fun _ => fun
  | [d1, d2, d3] => { results := [.lit (.bool true)], args := [d1, d2, d3] }
  | _ => none }
def quotaGatesRow : OpenClaim := { program := "yteilocpjikmmdaa", sum := "18c16f86153323ca1b20ed137906db5c0726a8911e4dd75874afc2319906a55a", func := "berthage/berthagelaw33.QuotaGates", spec := "quotaGates", recurses := true, apart := false }
def QuotaGatesSaid : Prop := quotaGatesRow.holds Try.pinned (OpenSpec.ofChange quotaGatesSpec)

/-- ITS FALSE NEIGHBOUR: 'it returns false'. Refute it at one input. -/
def quotaGatesWrong : ChangeSpec := { name := "quotaGates", fn := fun _ => fun
  | [d1, d2, d3] => { results := [.lit (.bool false)], args := [d1, d2, d3] }
  | _ => none }
def QuotaGatesWrongFalsely : Prop := quotaGatesRow.holds Try.pinned (OpenSpec.ofChange quotaGatesWrong)

/-- 'berthagelaw33.QuotaChecks': WHATEVER THE INPUT: true; the input reads as it did. -/
def quotaChecksSpec : ChangeSpec := { name := "quotaChecks", fn := fun _ => fun
  | [d1, d2, d3, d4] => { results := [.lit (.bool true)], args := [d1, d2, d3, d4] }
  | _ => none }
def quotaChecksRow : OpenClaim := { program := "yteilocpjikmmdaa", sum := "18c16f86153323ca1b20ed137906db5c0726a8911e4dd75874afc2319906a55a", func := "berthage/berthagelaw33.QuotaChecks", spec := "quotaChecks", recurses := true, apart := false }
def QuotaChecksSaid : Prop := quotaChecksRow.holds Try.pinned (OpenSpec.ofChange quotaChecksSpec)

/-- ITS FALSE NEIGHBOUR: 'it returns false'. Refute it at one input. -/
def quotaChecksWrong : ChangeSpec := { name := "quotaChecks", fn := fun _ => fun
  | [d1, d2, d3, d4] => { results := [.lit (.bool false)], args := [d1, d2, d3, d4] }
  | _ => none }
def QuotaChecksWrongFalsely : Prop := quotaChecksRow.holds Try.pinned (OpenSpec.ofChange quotaChecksWrong)

/-- 'berthagelaw33.QuotaNobody': WHATEVER THE INPUT: true; the input reads as it did. -/
def quotaNobodySpec : ChangeSpec := { name := "quotaNobody", fn := fun _ => fun
  | [d1, d2] => { results := [.lit (.bool true)], args := [d1, d2] }
  | _ => none }
def quotaNobodyRow : OpenClaim := { program := "yteilocpjikmmdaa", sum := "18c16f86153323ca1b20ed137906db5c0726a8911e4dd75874afc2319906a55a", func := "berthage/berthagelaw33.QuotaNobody", spec := "quotaNobody", recurses := true, apart := false }
def QuotaNobodySaid : Prop := quotaNobodyRow.holds Try.pinned (OpenSpec.ofChange quotaNobodySpec)

/-- ITS FALSE NEIGHBOUR: 'it returns false'. Refute it at one input. -/
def quotaNobodyWrong : ChangeSpec := { name := "quotaNobody", fn := fun _ => fun
  | [d1, d2] => { results := [.lit (.bool false)], args := [d1, d2] }
  | _ => none }
def QuotaNobodyWrongFalsely : Prop := quotaNobodyRow.holds Try.pinned (OpenSpec.ofChange quotaNobodyWrong)

/- THE SECOND FORM. 'bulk': how many values and letters a reading holds, each counted each time it is reached (what is shared counts as often as it is met; a slice's spare places count too). A statement '..UptoSaid' is the law's where the arguments, and the package variables that the reading takes, are together of bulk at most 1048576: NARROWER than '..Said'. Prove '..Said' where nothing that the law and all that it calls make is longer than what came in: it says more and counts as full. Else prove '..UptoSaid'. A law counts once. -/
mutual
def uptoBulk {H : Type} : DataW H → Nat
  | .lit (.string bytes) => bytes.length + 1
  | .lit _ => 1
  | .nil => 1
  | .ptr d => uptoBulk d + 1
  | .slice elems spare => uptoBulkAll elems + uptoBulkAll spare + 1
  | .agg parts => uptoBulkAll parts + 1
  | .iface _ d => uptoBulk d + 1
  | .map entries => uptoBulkEntries entries + 1
  | .held _ => 1
def uptoBulkAll {H : Type} : List (DataW H) → Nat
  | [] => 0
  | d :: r => uptoBulk d + uptoBulkAll r
def uptoBulkEntries {H : Type} : List (Lit × DataW H) → Nat
  | [] => 0
  | x :: r => uptoBulkEntry x + uptoBulkEntries r
def uptoBulkEntry {H : Type} : Lit × DataW H → Nat
  | (.string bytes, d) => bytes.length + uptoBulk d + 1
  | (_, d) => uptoBulk d + 1
 end
def uptoSmall : (H : Type) → List (DataW H) → Bool := fun _ ds => decide (uptoBulkAll ds ≤ 1048576)
def OpenSpec.upto (s : _root_.Go.ChangeSpec) : _root_.Go.OpenSpec := { _root_.Go.OpenSpec.ofChange s with cond := some uptoSmall }

/-- 'berthagelaw33.QuotaUses', WHERE WHAT IT READS IS OF BULK AT MOST 1048576: true; the input reads as it did. -/
def quotaUsesUptoRow : OpenClaim := { program := "yteilocpjikmmdaa", sum := "18c16f86153323ca1b20ed137906db5c0726a8911e4dd75874afc2319906a55a", func := "berthage/berthagelaw33.QuotaUses", spec := "quotaUses", apart := false, narrowed := true }
def QuotaUsesUptoSaid : Prop := quotaUsesUptoRow.holds Try.pinned (OpenSpec.upto quotaUsesSpec)

/-- 'berthagelaw08.JobRights', WHERE WHAT IT READS IS OF BULK AT MOST 1048576: true; the input reads as it did. -/
def jobRightsUptoRow : OpenClaim := { program := "yteilocpjikmmdaa", sum := "18c16f86153323ca1b20ed137906db5c0726a8911e4dd75874afc2319906a55a", func := "berthage/berthagelaw08.JobRights", spec := "jobRights", apart := false, narrowed := true }
def JobRightsUptoSaid : Prop := jobRightsUptoRow.holds Try.pinned (OpenSpec.upto jobRightsSpec)

/-- 'berthagelaw08.JobFull', WHERE WHAT IT READS IS OF BULK AT MOST 1048576: true; the input reads as it did. -/
def jobFullUptoRow : OpenClaim := { program := "yteilocpjikmmdaa", sum := "18c16f86153323ca1b20ed137906db5c0726a8911e4dd75874afc2319906a55a", func := "berthage/berthagelaw08.JobFull", spec := "jobFull", apart := false, narrowed := true }
def JobFullUptoSaid : Prop := jobFullUptoRow.holds Try.pinned (OpenSpec.upto jobFullSpec)

/-- 'berthagelaw08.JobPlays', WHERE WHAT IT READS IS OF BULK AT MOST 1048576: true; the input reads as it did. -/
def jobPlaysUptoRow : OpenClaim := { program := "yteilocpjikmmdaa", sum := "18c16f86153323ca1b20ed137906db5c0726a8911e4dd75874afc2319906a55a", func := "berthage/berthagelaw08.JobPlays", spec := "jobPlays", apart := false, narrowed := true }
def JobPlaysUptoSaid : Prop := jobPlaysUptoRow.holds Try.pinned (OpenSpec.upto jobPlaysSpec)

/-- 'berthagelaw43.TraceCounts', WHERE WHAT IT READS IS OF BULK AT MOST 1048576: true; the input reads as it did. -/
def traceCountsUptoRow : OpenClaim := { program := "yteilocpjikmmdaa", sum := "18c16f86153323ca1b20ed137906db5c0726a8911e4dd75874afc2319906a55a", func := "berthage/berthagelaw43.TraceCounts", spec := "traceCounts", unfollowed := true, recurses := true, apart := false, narrowed := true }
def TraceCountsUptoSaid : Prop := traceCountsUptoRow.holds Try.pinned (OpenSpec.upto traceCountsSpec)

/-- 'berthagelaw32.ShareNews', WHERE WHAT IT READS IS OF BULK AT MOST 1048576: true; the input reads as it did. -/
def shareNewsUptoRow : OpenClaim := { program := "yteilocpjikmmdaa", sum := "18c16f86153323ca1b20ed137906db5c0726a8911e4dd75874afc2319906a55a", func := "berthage/berthagelaw32.ShareNews", spec := "shareNews", inPlace := ["slices.overlaps[berthage/share.User]"], unfollowed := true, recurses := true, apart := false, narrowed := true }
def ShareNewsUptoSaid : Prop := shareNewsUptoRow.holds Try.pinned (OpenSpec.upto shareNewsSpec)

/-- 'berthagelaw46.RetryAgain', WHERE WHAT IT READS IS OF BULK AT MOST 1048576: true; the input reads as it did. -/
def retryAgainUptoRow : OpenClaim := { program := "yteilocpjikmmdaa", sum := "18c16f86153323ca1b20ed137906db5c0726a8911e4dd75874afc2319906a55a", func := "berthage/berthagelaw46.RetryAgain", spec := "retryAgain", inPlace := ["slices.overlaps[berthage/retry.Entry]"], unfollowed := true, recurses := true, apart := false, narrowed := true }
def RetryAgainUptoSaid : Prop := retryAgainUptoRow.holds Try.pinned (OpenSpec.upto retryAgainSpec)

/-- 'berthagelaw46.RetryGrows', WHERE WHAT IT READS IS OF BULK AT MOST 1048576: true; the input reads as it did. -/
def retryGrowsUptoRow : OpenClaim := { program := "yteilocpjikmmdaa", sum := "18c16f86153323ca1b20ed137906db5c0726a8911e4dd75874afc2319906a55a", func := "berthage/berthagelaw46.RetryGrows", spec := "retryGrows", inPlace := ["slices.overlaps[berthage/retry.Entry]"], unfollowed := true, recurses := true, apart := false, narrowed := true }
def RetryGrowsUptoSaid : Prop := retryGrowsUptoRow.holds Try.pinned (OpenSpec.upto retryGrowsSpec)

/-- 'berthagelaw46.RetryPlays', WHERE WHAT IT READS IS OF BULK AT MOST 1048576: true; the input reads as it did. -/
def retryPlaysUptoRow : OpenClaim := { program := "yteilocpjikmmdaa", sum := "18c16f86153323ca1b20ed137906db5c0726a8911e4dd75874afc2319906a55a", func := "berthage/berthagelaw46.RetryPlays", spec := "retryPlays", inPlace := ["slices.overlaps[berthage/retry.Entry]"], unfollowed := true, recurses := true, apart := false, narrowed := true }
def RetryPlaysUptoSaid : Prop := retryPlaysUptoRow.holds Try.pinned (OpenSpec.upto retryPlaysSpec)

/-- 'berthagelaw46.RetryEnds', WHERE WHAT IT READS IS OF BULK AT MOST 1048576: true; the input reads as it did. -/
def retryEndsUptoRow : OpenClaim := { program := "yteilocpjikmmdaa", sum := "18c16f86153323ca1b20ed137906db5c0726a8911e4dd75874afc2319906a55a", func := "berthage/berthagelaw46.RetryEnds", spec := "retryEnds", inPlace := ["slices.overlaps[berthage/retry.Entry]"], unfollowed := true, recurses := true, apart := false, narrowed := true }
def RetryEndsUptoSaid : Prop := retryEndsUptoRow.holds Try.pinned (OpenSpec.upto retryEndsSpec)

/-- 'berthagelaw08.JobLists', WHERE WHAT IT READS IS OF BULK AT MOST 1048576: true; the input reads as it did. -/
def jobListsUptoRow : OpenClaim := { program := "yteilocpjikmmdaa", sum := "18c16f86153323ca1b20ed137906db5c0726a8911e4dd75874afc2319906a55a", func := "berthage/berthagelaw08.JobLists", spec := "jobLists", unfollowed := true, recurses := true, apart := false, narrowed := true }
def JobListsUptoSaid : Prop := jobListsUptoRow.holds Try.pinned (OpenSpec.upto jobListsSpec)

/-- 'berthagelaw32.SharePlays', WHERE WHAT IT READS IS OF BULK AT MOST 1048576: true; the input reads as it did. -/
def sharePlaysUptoRow : OpenClaim := { program := "yteilocpjikmmdaa", sum := "18c16f86153323ca1b20ed137906db5c0726a8911e4dd75874afc2319906a55a", func := "berthage/berthagelaw32.SharePlays", spec := "sharePlays", inPlace := ["slices.overlaps[berthage/share.User]"], unfollowed := true, recurses := true, apart := false, narrowed := true }
def SharePlaysUptoSaid : Prop := sharePlaysUptoRow.holds Try.pinned (OpenSpec.upto sharePlaysSpec)

/-- 'berthagelaw32.ShareNobody', WHERE WHAT IT READS IS OF BULK AT MOST 1048576: true; the input reads as it did. -/
def shareNobodyUptoRow : OpenClaim := { program := "yteilocpjikmmdaa", sum := "18c16f86153323ca1b20ed137906db5c0726a8911e4dd75874afc2319906a55a", func := "berthage/berthagelaw32.ShareNobody", spec := "shareNobody", inPlace := ["slices.overlaps[berthage/share.User]"], unfollowed := true, recurses := true, apart := false, narrowed := true }
def ShareNobodyUptoSaid : Prop := shareNobodyUptoRow.holds Try.pinned (OpenSpec.upto shareNobodySpec)

/-- 'berthagelaw33.QuotaGates', WHERE WHAT IT READS IS OF BULK AT MOST 1048576: true; the input reads as it did. -/
def quotaGatesUptoRow : OpenClaim := { program := "yteilocpjikmmdaa", sum := "18c16f86153323ca1b20ed137906db5c0726a8911e4dd75874afc2319906a55a", func := "berthage/berthagelaw33.QuotaGates", spec := "quotaGates", recurses := true, apart := false, narrowed := true }
def QuotaGatesUptoSaid : Prop := quotaGatesUptoRow.holds Try.pinned (OpenSpec.upto quotaGatesSpec)

/-- 'berthagelaw33.QuotaChecks', WHERE WHAT IT READS IS OF BULK AT MOST 1048576: true; the input reads as it did. -/
def quotaChecksUptoRow : OpenClaim := { program := "yteilocpjikmmdaa", sum := "18c16f86153323ca1b20ed137906db5c0726a8911e4dd75874afc2319906a55a", func := "berthage/berthagelaw33.QuotaChecks", spec := "quotaChecks", recurses := true, apart := false, narrowed := true }
def QuotaChecksUptoSaid : Prop := quotaChecksUptoRow.holds Try.pinned (OpenSpec.upto quotaChecksSpec)

/-- 'berthagelaw33.QuotaNobody', WHERE WHAT IT READS IS OF BULK AT MOST 1048576: true; the input reads as it did. -/
def quotaNobodyUptoRow : OpenClaim := { program := "yteilocpjikmmdaa", sum := "18c16f86153323ca1b20ed137906db5c0726a8911e4dd75874afc2319906a55a", func := "berthage/berthagelaw33.QuotaNobody", spec := "quotaNobody", recurses := true, apart := false, narrowed := true }
def QuotaNobodyUptoSaid : Prop := quotaNobodyUptoRow.holds Try.pinned (OpenSpec.upto quotaNobodySpec)

end Rows
end Go.Proofs.Yteilocpjikmmdaa
