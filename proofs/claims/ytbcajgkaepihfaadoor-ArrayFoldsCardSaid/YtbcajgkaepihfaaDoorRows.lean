/-
  NARROWER THAN 'FOR EVERY INPUT', by the rows' own cells (each row's printed sentence says how): SwfFull: laid · SwfReads: laid · SayParses: laid · SayNumbers: laid · SwfTexts: laid · SayReplies: laid · SayLong: laid · SayLines: laid · SayTexts: laid · SwfSorts: laid · ArrayNumbers: laid · ArrayParses: laid · ArrayFolds: laid · ArrayRequests: laid · ArrayTexts: laid.
  DERIVED. THE GIVEN ROWS OF THIS SEAT. 15 by the template 'for every input the law returns true; each argument reads behind the call as it read before'; 0 by the template 'total and deterministic' (their statements: YtbcajgkaepihfaaDoorTotals.lean).
  GIVEN WITH THE SEED: the statements are not yours to turn. If you find one false, say at which input.
  Laid BY PROGRAM, IN A SANDBOX (cutbox-rows.mjs): the forced cells as the released guide's own fill.sh prints them over the translation ce60f41dc90fe89e… (all of the seat's roots in one cut). By AI agents, Wed Nov 11 2026. No macro, syntax, notation, axiom, sorry.
-/
import Derived.Test.YtbcajgkaepihfaaDoorChecked
import GoSem.PinnedTables
import GoSem.Claim
import GoSem.ClaimJoined
import GoSem.ClaimMapViews
import Derived.JoinedTies
import Derived.KernelRfl
namespace Go.Proofs.YtbcajgkaepihfaaDoor
/- THE CELL 'sum', in the pinned program and in every row, IS THE sha256 OF THE DUMP (.gsa) THAT YtbcajgkaepihfaaDoorProg.lean LOADS. Nothing in Lean hashes anything: it is a label: what it is worth is what the hold of that sum in a sandbox is worth. -/
noncomputable def Tryd.pinned : Pinned := { name := "ytbcajgkaepihfaadoor", sum := "ce60f41dc90fe89ee7b069f9f8f973be4f814b98edf3a73ef01669206fcb661b", checked := Tryd.checked }
namespace Rows
def none {H : Type} : Left H := { results := [], args := [] }

/- WHAT THE LISTED PACKAGE-LEVEL VARIABLES READ AS WHEN THE CALL BEGINS. Each datum BY PROGRAM (the guide's laid-datum.mjs) off the statement by which the dump's own 'gosem.cut.vars' lays the variable. In a bare row this is a premise. The card (YtbcajgkaepihfaaDoorCards.lean) ties it to the program's text. -/
def laid_unicode_utf8_acceptRanges {H : Type} : DataW H := .agg [.agg [.lit (.int .u8 128), .lit (.int .u8 191)], .agg [.lit (.int .u8 160), .lit (.int .u8 191)], .agg [.lit (.int .u8 128), .lit (.int .u8 159)], .agg [.lit (.int .u8 144), .lit (.int .u8 191)], .agg [.lit (.int .u8 128), .lit (.int .u8 143)], .agg [.lit (.int .u8 0), .lit (.int .u8 0)], .agg [.lit (.int .u8 0), .lit (.int .u8 0)], .agg [.lit (.int .u8 0), .lit (.int .u8 0)], .agg [.lit (.int .u8 0), .lit (.int .u8 0)], .agg [.lit (.int .u8 0), .lit (.int .u8 0)], .agg [.lit (.int .u8 0), .lit (.int .u8 0)], .agg [.lit (.int .u8 0), .lit (.int .u8 0)], .agg [.lit (.int .u8 0), .lit (.int .u8 0)], .agg [.lit (.int .u8 0), .lit (.int .u8 0)], .agg [.lit (.int .u8 0), .lit (.int .u8 0)], .agg [.lit (.int .u8 0), .lit (.int .u8 0)]]
/-- One of Go's own tables, pinned by name: the form's constant. -/
def laid_unicode_utf8_first : DataW Unit := Go.Pinned.utf8First

/-- 'berthagelaw27.SwfFull': WHATEVER THE INPUT: true; the input reads as it did. -/
def swfFullSpec : ChangeSpec := { name := "swfFull", fn := fun _ => fun
  | [d] => { results := [.lit (.bool true)], args := [d] }
  | _ => none }
def swfFullRow : OpenClaim := { program := "ytbcajgkaepihfaadoor", sum := "ce60f41dc90fe89ee7b069f9f8f973be4f814b98edf3a73ef01669206fcb661b", func := "berthage/berthagelaw27.SwfFull", spec := "swfFull", inPlace := ["internal/bytealg.CountString", "internal/bytealg.IndexByteString", "internal/bytealg.IndexString"], named := ["unicode/utf8.first", "unicode/utf8.acceptRanges", "internal/bytealg.MaxLen"], apart := false, laid := [("unicode/utf8.acceptRanges", laid_unicode_utf8_acceptRanges), ("unicode/utf8.first", laid_unicode_utf8_first)] }
def SwfFullSaid : Prop := swfFullRow.holds Tryd.pinned (OpenSpec.ofChange swfFullSpec)

/-- ITS FALSE NEIGHBOUR: 'it returns false'. Refute it at one input. -/
def swfFullWrong : ChangeSpec := { name := "swfFull", fn := fun _ => fun
  | [d] => { results := [.lit (.bool false)], args := [d] }
  | _ => none }
def SwfFullWrongFalsely : Prop := swfFullRow.holds Tryd.pinned (OpenSpec.ofChange swfFullWrong)

/-- 'berthagelaw27.SwfReads': WHATEVER THE INPUT: true; the input reads as it did. -/
def swfReadsSpec : ChangeSpec := { name := "swfReads", fn := fun _ => fun
  | [d1, d2, d3] => { results := [.lit (.bool true)], args := [d1, d2, d3] }
  | _ => none }
def swfReadsRow : OpenClaim := { program := "ytbcajgkaepihfaadoor", sum := "ce60f41dc90fe89ee7b069f9f8f973be4f814b98edf3a73ef01669206fcb661b", func := "berthage/berthagelaw27.SwfReads", spec := "swfReads", inPlace := ["internal/bytealg.CountString", "internal/bytealg.IndexByteString", "internal/bytealg.IndexString"], named := ["unicode/utf8.first", "unicode/utf8.acceptRanges", "internal/bytealg.MaxLen"], apart := false, laid := [("unicode/utf8.acceptRanges", laid_unicode_utf8_acceptRanges), ("unicode/utf8.first", laid_unicode_utf8_first)] }
def SwfReadsSaid : Prop := swfReadsRow.holds Tryd.pinned (OpenSpec.ofChange swfReadsSpec)

/-- ITS FALSE NEIGHBOUR: 'it returns false'. Refute it at one input. -/
def swfReadsWrong : ChangeSpec := { name := "swfReads", fn := fun _ => fun
  | [d1, d2, d3] => { results := [.lit (.bool false)], args := [d1, d2, d3] }
  | _ => none }
def SwfReadsWrongFalsely : Prop := swfReadsRow.holds Tryd.pinned (OpenSpec.ofChange swfReadsWrong)

/-- 'berthagelaw26.SayParses': WHATEVER THE INPUT: true; the input reads as it did. -/
def sayParsesSpec : ChangeSpec := { name := "sayParses", fn := fun _ => fun
  | [d1, d2] => { results := [.lit (.bool true)], args := [d1, d2] }
  | _ => none }
def sayParsesRow : OpenClaim := { program := "ytbcajgkaepihfaadoor", sum := "ce60f41dc90fe89ee7b069f9f8f973be4f814b98edf3a73ef01669206fcb661b", func := "berthage/berthagelaw26.SayParses", spec := "sayParses", inPlace := ["internal/bytealg.CountString", "internal/bytealg.IndexByteString", "internal/bytealg.IndexString"], named := ["unicode/utf8.first", "unicode/utf8.acceptRanges", "internal/bytealg.MaxLen"], apart := false, laid := [("unicode/utf8.acceptRanges", laid_unicode_utf8_acceptRanges), ("unicode/utf8.first", laid_unicode_utf8_first)] }
def SayParsesSaid : Prop := sayParsesRow.holds Tryd.pinned (OpenSpec.ofChange sayParsesSpec)

/-- ITS FALSE NEIGHBOUR: 'it returns false'. Refute it at one input. -/
def sayParsesWrong : ChangeSpec := { name := "sayParses", fn := fun _ => fun
  | [d1, d2] => { results := [.lit (.bool false)], args := [d1, d2] }
  | _ => none }
def SayParsesWrongFalsely : Prop := sayParsesRow.holds Tryd.pinned (OpenSpec.ofChange sayParsesWrong)

/-- 'berthagelaw26.SayNumbers': WHATEVER THE INPUT: true; the input reads as it did. -/
def sayNumbersSpec : ChangeSpec := { name := "sayNumbers", fn := fun _ => fun
  | [d1, d2] => { results := [.lit (.bool true)], args := [d1, d2] }
  | _ => none }
def sayNumbersRow : OpenClaim := { program := "ytbcajgkaepihfaadoor", sum := "ce60f41dc90fe89ee7b069f9f8f973be4f814b98edf3a73ef01669206fcb661b", func := "berthage/berthagelaw26.SayNumbers", spec := "sayNumbers", inPlace := ["internal/bytealg.CountString", "internal/bytealg.IndexByteString", "internal/bytealg.IndexString"], named := ["unicode/utf8.first", "unicode/utf8.acceptRanges", "internal/bytealg.MaxLen"], apart := false, laid := [("unicode/utf8.acceptRanges", laid_unicode_utf8_acceptRanges), ("unicode/utf8.first", laid_unicode_utf8_first)] }
def SayNumbersSaid : Prop := sayNumbersRow.holds Tryd.pinned (OpenSpec.ofChange sayNumbersSpec)

/-- ITS FALSE NEIGHBOUR: 'it returns false'. Refute it at one input. -/
def sayNumbersWrong : ChangeSpec := { name := "sayNumbers", fn := fun _ => fun
  | [d1, d2] => { results := [.lit (.bool false)], args := [d1, d2] }
  | _ => none }
def SayNumbersWrongFalsely : Prop := sayNumbersRow.holds Tryd.pinned (OpenSpec.ofChange sayNumbersWrong)

/-- 'berthagelaw27.SwfTexts': WHATEVER THE INPUT: true; the input reads as it did. -/
def swfTextsSpec : ChangeSpec := { name := "swfTexts", fn := fun _ => fun
  | [d1, d2] => { results := [.lit (.bool true)], args := [d1, d2] }
  | _ => none }
def swfTextsRow : OpenClaim := { program := "ytbcajgkaepihfaadoor", sum := "ce60f41dc90fe89ee7b069f9f8f973be4f814b98edf3a73ef01669206fcb661b", func := "berthage/berthagelaw27.SwfTexts", spec := "swfTexts", inPlace := ["internal/bytealg.CountString", "internal/bytealg.IndexByteString", "internal/bytealg.IndexString", "internal/abi.NoEscape"], named := ["unicode/utf8.first", "unicode/utf8.acceptRanges", "internal/bytealg.MaxLen"], apart := false, laid := [("unicode/utf8.acceptRanges", laid_unicode_utf8_acceptRanges), ("unicode/utf8.first", laid_unicode_utf8_first)] }
def SwfTextsSaid : Prop := swfTextsRow.holds Tryd.pinned (OpenSpec.ofChange swfTextsSpec)

/-- ITS FALSE NEIGHBOUR: 'it returns false'. Refute it at one input. -/
def swfTextsWrong : ChangeSpec := { name := "swfTexts", fn := fun _ => fun
  | [d1, d2] => { results := [.lit (.bool false)], args := [d1, d2] }
  | _ => none }
def SwfTextsWrongFalsely : Prop := swfTextsRow.holds Tryd.pinned (OpenSpec.ofChange swfTextsWrong)

/-- 'berthagelaw26.SayReplies': WHATEVER THE INPUT: true; the input reads as it did. -/
def sayRepliesSpec : ChangeSpec := { name := "sayReplies", fn := fun _ => fun
  | [d] => { results := [.lit (.bool true)], args := [d] }
  | _ => none }
def sayRepliesRow : OpenClaim := { program := "ytbcajgkaepihfaadoor", sum := "ce60f41dc90fe89ee7b069f9f8f973be4f814b98edf3a73ef01669206fcb661b", func := "berthage/berthagelaw26.SayReplies", spec := "sayReplies", inPlace := ["internal/bytealg.CountString", "internal/bytealg.IndexByteString", "internal/bytealg.IndexString"], named := ["unicode/utf8.first", "unicode/utf8.acceptRanges", "internal/bytealg.MaxLen"], apart := false, laid := [("unicode/utf8.acceptRanges", laid_unicode_utf8_acceptRanges), ("unicode/utf8.first", laid_unicode_utf8_first)] }
def SayRepliesSaid : Prop := sayRepliesRow.holds Tryd.pinned (OpenSpec.ofChange sayRepliesSpec)

/-- ITS FALSE NEIGHBOUR: 'it returns false'. Refute it at one input. -/
def sayRepliesWrong : ChangeSpec := { name := "sayReplies", fn := fun _ => fun
  | [d] => { results := [.lit (.bool false)], args := [d] }
  | _ => none }
def SayRepliesWrongFalsely : Prop := sayRepliesRow.holds Tryd.pinned (OpenSpec.ofChange sayRepliesWrong)

/-- 'berthagelaw26.SayLong': WHATEVER THE INPUT: true; the input reads as it did. -/
def sayLongSpec : ChangeSpec := { name := "sayLong", fn := fun _ => fun
  | [d] => { results := [.lit (.bool true)], args := [d] }
  | _ => none }
def sayLongRow : OpenClaim := { program := "ytbcajgkaepihfaadoor", sum := "ce60f41dc90fe89ee7b069f9f8f973be4f814b98edf3a73ef01669206fcb661b", func := "berthage/berthagelaw26.SayLong", spec := "sayLong", inPlace := ["internal/bytealg.CountString", "internal/bytealg.IndexByteString", "internal/bytealg.IndexString"], named := ["unicode/utf8.first", "unicode/utf8.acceptRanges", "internal/bytealg.MaxLen"], apart := false, laid := [("unicode/utf8.acceptRanges", laid_unicode_utf8_acceptRanges), ("unicode/utf8.first", laid_unicode_utf8_first)] }
def SayLongSaid : Prop := sayLongRow.holds Tryd.pinned (OpenSpec.ofChange sayLongSpec)

/-- ITS FALSE NEIGHBOUR: 'it returns false'. Refute it at one input. -/
def sayLongWrong : ChangeSpec := { name := "sayLong", fn := fun _ => fun
  | [d] => { results := [.lit (.bool false)], args := [d] }
  | _ => none }
def SayLongWrongFalsely : Prop := sayLongRow.holds Tryd.pinned (OpenSpec.ofChange sayLongWrong)

/-- 'berthagelaw26.SayLines': WHATEVER THE INPUT: true; the input reads as it did. -/
def sayLinesSpec : ChangeSpec := { name := "sayLines", fn := fun _ => fun
  | [d] => { results := [.lit (.bool true)], args := [d] }
  | _ => none }
def sayLinesRow : OpenClaim := { program := "ytbcajgkaepihfaadoor", sum := "ce60f41dc90fe89ee7b069f9f8f973be4f814b98edf3a73ef01669206fcb661b", func := "berthage/berthagelaw26.SayLines", spec := "sayLines", inPlace := ["internal/bytealg.CountString", "internal/bytealg.IndexByteString", "internal/bytealg.IndexString"], named := ["unicode/utf8.first", "unicode/utf8.acceptRanges", "internal/bytealg.MaxLen"], apart := false, laid := [("unicode/utf8.acceptRanges", laid_unicode_utf8_acceptRanges), ("unicode/utf8.first", laid_unicode_utf8_first)] }
def SayLinesSaid : Prop := sayLinesRow.holds Tryd.pinned (OpenSpec.ofChange sayLinesSpec)

/-- ITS FALSE NEIGHBOUR: 'it returns false'. Refute it at one input. -/
def sayLinesWrong : ChangeSpec := { name := "sayLines", fn := fun _ => fun
  | [d] => { results := [.lit (.bool false)], args := [d] }
  | _ => none }
def SayLinesWrongFalsely : Prop := sayLinesRow.holds Tryd.pinned (OpenSpec.ofChange sayLinesWrong)

/-- 'berthagelaw26.SayTexts': WHATEVER THE INPUT: true; the input reads as it did. -/
def sayTextsSpec : ChangeSpec := { name := "sayTexts", fn := fun _ => fun
  | [d1, d2] => { results := [.lit (.bool true)], args := [d1, d2] }
  | _ => none }
def sayTextsRow : OpenClaim := { program := "ytbcajgkaepihfaadoor", sum := "ce60f41dc90fe89ee7b069f9f8f973be4f814b98edf3a73ef01669206fcb661b", func := "berthage/berthagelaw26.SayTexts", spec := "sayTexts", inPlace := ["internal/bytealg.CountString", "internal/bytealg.IndexByteString", "internal/bytealg.IndexString", "internal/abi.NoEscape"], named := ["unicode/utf8.first", "unicode/utf8.acceptRanges", "internal/bytealg.MaxLen"], apart := false, laid := [("unicode/utf8.acceptRanges", laid_unicode_utf8_acceptRanges), ("unicode/utf8.first", laid_unicode_utf8_first)] }
def SayTextsSaid : Prop := sayTextsRow.holds Tryd.pinned (OpenSpec.ofChange sayTextsSpec)

/-- ITS FALSE NEIGHBOUR: 'it returns false'. Refute it at one input. -/
def sayTextsWrong : ChangeSpec := { name := "sayTexts", fn := fun _ => fun
  | [d1, d2] => { results := [.lit (.bool false)], args := [d1, d2] }
  | _ => none }
def SayTextsWrongFalsely : Prop := sayTextsRow.holds Tryd.pinned (OpenSpec.ofChange sayTextsWrong)

/-- 'berthagelaw27.SwfSorts': WHATEVER THE INPUT: true; the input reads as it did. -/
def swfSortsSpec : ChangeSpec := { name := "swfSorts", fn := fun _ => fun
  | [d] => { results := [.lit (.bool true)], args := [d] }
  | _ => none }
def swfSortsRow : OpenClaim := { program := "ytbcajgkaepihfaadoor", sum := "ce60f41dc90fe89ee7b069f9f8f973be4f814b98edf3a73ef01669206fcb661b", func := "berthage/berthagelaw27.SwfSorts", spec := "swfSorts", inPlace := ["internal/bytealg.CountString", "internal/bytealg.IndexByteString", "internal/bytealg.IndexString"], unfollowed := true, recurses := true, named := ["unicode/utf8.first", "unicode/utf8.acceptRanges", "internal/bytealg.MaxLen"], apart := false, laid := [("unicode/utf8.acceptRanges", laid_unicode_utf8_acceptRanges), ("unicode/utf8.first", laid_unicode_utf8_first)] }
def SwfSortsSaid : Prop := swfSortsRow.holds Tryd.pinned (OpenSpec.ofChange swfSortsSpec)

/-- ITS FALSE NEIGHBOUR: 'it returns false'. Refute it at one input. -/
def swfSortsWrong : ChangeSpec := { name := "swfSorts", fn := fun _ => fun
  | [d] => { results := [.lit (.bool false)], args := [d] }
  | _ => none }
def SwfSortsWrongFalsely : Prop := swfSortsRow.holds Tryd.pinned (OpenSpec.ofChange swfSortsWrong)

/-- 'berthagelaw35.ArrayNumbers': WHATEVER THE INPUT: true; the input reads as it did. -/
def arrayNumbersSpec : ChangeSpec := { name := "arrayNumbers", fn := fun _ => fun
  | [d] => { results := [.lit (.bool true)], args := [d] }
  | _ => none }
def arrayNumbersRow : OpenClaim := { program := "ytbcajgkaepihfaadoor", sum := "ce60f41dc90fe89ee7b069f9f8f973be4f814b98edf3a73ef01669206fcb661b", func := "berthage/berthagelaw35.ArrayNumbers", spec := "arrayNumbers", inPlace := ["internal/bytealg.CountString", "internal/bytealg.IndexByteString", "internal/bytealg.IndexString"], recurses := true, named := ["unicode/utf8.first", "unicode/utf8.acceptRanges", "internal/bytealg.MaxLen"], apart := false, laid := [("unicode/utf8.acceptRanges", laid_unicode_utf8_acceptRanges), ("unicode/utf8.first", laid_unicode_utf8_first)] }
def ArrayNumbersSaid : Prop := arrayNumbersRow.holds Tryd.pinned (OpenSpec.ofChange arrayNumbersSpec)

/-- ITS FALSE NEIGHBOUR: 'it returns false'. Refute it at one input. -/
def arrayNumbersWrong : ChangeSpec := { name := "arrayNumbers", fn := fun _ => fun
  | [d] => { results := [.lit (.bool false)], args := [d] }
  | _ => none }
def ArrayNumbersWrongFalsely : Prop := arrayNumbersRow.holds Tryd.pinned (OpenSpec.ofChange arrayNumbersWrong)

/-- 'berthagelaw35.ArrayParses': WHATEVER THE INPUT: true; the input reads as it did. -/
def arrayParsesSpec : ChangeSpec := { name := "arrayParses", fn := fun _ => fun
  | [d1, d2] => { results := [.lit (.bool true)], args := [d1, d2] }
  | _ => none }
def arrayParsesRow : OpenClaim := { program := "ytbcajgkaepihfaadoor", sum := "ce60f41dc90fe89ee7b069f9f8f973be4f814b98edf3a73ef01669206fcb661b", func := "berthage/berthagelaw35.ArrayParses", spec := "arrayParses", inPlace := ["internal/bytealg.CountString", "internal/bytealg.IndexByteString", "internal/bytealg.IndexString"], recurses := true, named := ["unicode/utf8.first", "unicode/utf8.acceptRanges", "internal/bytealg.MaxLen"], apart := false, laid := [("unicode/utf8.acceptRanges", laid_unicode_utf8_acceptRanges), ("unicode/utf8.first", laid_unicode_utf8_first)] }
def ArrayParsesSaid : Prop := arrayParsesRow.holds Tryd.pinned (OpenSpec.ofChange arrayParsesSpec)

/-- ITS FALSE NEIGHBOUR: 'it returns false'. Refute it at one input. -/
def arrayParsesWrong : ChangeSpec := { name := "arrayParses", fn := fun _ => fun
  | [d1, d2] => { results := [.lit (.bool false)], args := [d1, d2] }
  | _ => none }
def ArrayParsesWrongFalsely : Prop := arrayParsesRow.holds Tryd.pinned (OpenSpec.ofChange arrayParsesWrong)

/-- 'berthagelaw35.ArrayFolds': WHATEVER THE INPUT: true; the input reads as it did. -/
def arrayFoldsSpec : ChangeSpec := { name := "arrayFolds", fn := fun _ => fun
  | [d] => { results := [.lit (.bool true)], args := [d] }
  | _ => none }
def arrayFoldsRow : OpenClaim := { program := "ytbcajgkaepihfaadoor", sum := "ce60f41dc90fe89ee7b069f9f8f973be4f814b98edf3a73ef01669206fcb661b", func := "berthage/berthagelaw35.ArrayFolds", spec := "arrayFolds", inPlace := ["internal/bytealg.CountString", "internal/bytealg.IndexByteString", "internal/bytealg.IndexString"], recurses := true, named := ["unicode/utf8.first", "unicode/utf8.acceptRanges", "internal/bytealg.MaxLen"], apart := false, laid := [("unicode/utf8.acceptRanges", laid_unicode_utf8_acceptRanges), ("unicode/utf8.first", laid_unicode_utf8_first)] }
def ArrayFoldsSaid : Prop := arrayFoldsRow.holds Tryd.pinned (OpenSpec.ofChange arrayFoldsSpec)

/-- ITS FALSE NEIGHBOUR: 'it returns false'. Refute it at one input. -/
def arrayFoldsWrong : ChangeSpec := { name := "arrayFolds", fn := fun _ => fun
  | [d] => { results := [.lit (.bool false)], args := [d] }
  | _ => none }
def ArrayFoldsWrongFalsely : Prop := arrayFoldsRow.holds Tryd.pinned (OpenSpec.ofChange arrayFoldsWrong)

/-- 'berthagelaw35.ArrayRequests': WHATEVER THE INPUT: true; the input reads as it did. -/
def arrayRequestsSpec : ChangeSpec := { name := "arrayRequests", fn := fun _ => fun
  | [d1, d2] => { results := [.lit (.bool true)], args := [d1, d2] }
  | _ => none }
def arrayRequestsRow : OpenClaim := { program := "ytbcajgkaepihfaadoor", sum := "ce60f41dc90fe89ee7b069f9f8f973be4f814b98edf3a73ef01669206fcb661b", func := "berthage/berthagelaw35.ArrayRequests", spec := "arrayRequests", inPlace := ["internal/bytealg.CountString", "internal/bytealg.IndexByteString", "internal/bytealg.IndexString"], recurses := true, named := ["unicode/utf8.first", "unicode/utf8.acceptRanges", "internal/bytealg.MaxLen"], apart := false, laid := [("unicode/utf8.acceptRanges", laid_unicode_utf8_acceptRanges), ("unicode/utf8.first", laid_unicode_utf8_first)] }
def ArrayRequestsSaid : Prop := arrayRequestsRow.holds Tryd.pinned (OpenSpec.ofChange arrayRequestsSpec)

/-- ITS FALSE NEIGHBOUR: 'it returns false'. Refute it at one input. -/
def arrayRequestsWrong : ChangeSpec := { name := "arrayRequests", fn := fun _ => fun
  | [d1, d2] => { results := [.lit (.bool false)], args := [d1, d2] }
  | _ => none }
def ArrayRequestsWrongFalsely : Prop := arrayRequestsRow.holds Tryd.pinned (OpenSpec.ofChange arrayRequestsWrong)

/-- 'berthagelaw35.ArrayTexts': WHATEVER THE INPUT: true; the input reads as it did. -/
def arrayTextsSpec : ChangeSpec := { name := "arrayTexts", fn := fun _ => fun
  | [d] => { results := [.lit (.bool true)], args := [d] }
  | _ => none }
def arrayTextsRow : OpenClaim := { program := "ytbcajgkaepihfaadoor", sum := "ce60f41dc90fe89ee7b069f9f8f973be4f814b98edf3a73ef01669206fcb661b", func := "berthage/berthagelaw35.ArrayTexts", spec := "arrayTexts", inPlace := ["internal/abi.NoEscape", "internal/bytealg.MakeNoZero", "internal/bytealg.CountString", "internal/bytealg.IndexByteString", "internal/bytealg.IndexString"], recurses := true, named := ["unicode/utf8.first", "unicode/utf8.acceptRanges", "internal/bytealg.MaxLen"], apart := false, laid := [("unicode/utf8.acceptRanges", laid_unicode_utf8_acceptRanges), ("unicode/utf8.first", laid_unicode_utf8_first)] }
def ArrayTextsSaid : Prop := arrayTextsRow.holds Tryd.pinned (OpenSpec.ofChange arrayTextsSpec)

/-- ITS FALSE NEIGHBOUR: 'it returns false'. Refute it at one input. -/
def arrayTextsWrong : ChangeSpec := { name := "arrayTexts", fn := fun _ => fun
  | [d] => { results := [.lit (.bool false)], args := [d] }
  | _ => none }
def ArrayTextsWrongFalsely : Prop := arrayTextsRow.holds Tryd.pinned (OpenSpec.ofChange arrayTextsWrong)

/- THE SECOND FORM. 'bulk': how many values and letters a reading holds, each counted each time it is reached (what is shared counts as often as it is met; a slice's spare places count too). A statement '..UptoSaid' is the law's where the arguments, and the package variables that the reading takes, are together of bulk at most 1048576: NARROWER than '..Said'. Prove '..Said' where nothing that the law and all that it calls make is longer than what came in: it says more and counts as full. Else prove '..UptoSaid'. A law counts once. -/
mutual
def uptoBulk {H : Type} : DataW H → Nat
  | .lit (.string bytes) => bytes.length + 1
  | .lit _ => 1
  | .nil => 1
  | .ptr d => uptoBulk d + 1
  | .slice elems spare => uptoBulkAll elems + uptoBulkAll spare + 1
  | .agg parts => uptoBulkAll parts + 1
  | .iface _ d => uptoBulk d + 1
  | .map entries => uptoBulkEntries entries + 1
  | .held _ => 1
def uptoBulkAll {H : Type} : List (DataW H) → Nat
  | [] => 0
  | d :: r => uptoBulk d + uptoBulkAll r
def uptoBulkEntries {H : Type} : List (Lit × DataW H) → Nat
  | [] => 0
  | x :: r => uptoBulkEntry x + uptoBulkEntries r
def uptoBulkEntry {H : Type} : Lit × DataW H → Nat
  | (.string bytes, d) => bytes.length + uptoBulk d + 1
  | (_, d) => uptoBulk d + 1
 end
def uptoSmall : (H : Type) → List (DataW H) → Bool := fun _ ds => decide (uptoBulkAll ds ≤ 1048576)
def OpenSpec.upto (s : _root_.Go.ChangeSpec) : _root_.Go.OpenSpec := { _root_.Go.OpenSpec.ofChange s with cond := some uptoSmall }

/-- 'berthagelaw27.SwfFull', WHERE WHAT IT READS IS OF BULK AT MOST 1048576: true; the input reads as it did. -/
def swfFullUptoRow : OpenClaim := { program := "ytbcajgkaepihfaadoor", sum := "ce60f41dc90fe89ee7b069f9f8f973be4f814b98edf3a73ef01669206fcb661b", func := "berthage/berthagelaw27.SwfFull", spec := "swfFull", inPlace := ["internal/bytealg.CountString", "internal/bytealg.IndexByteString", "internal/bytealg.IndexString"], named := ["unicode/utf8.first", "unicode/utf8.acceptRanges", "internal/bytealg.MaxLen"], apart := false, laid := [("unicode/utf8.acceptRanges", laid_unicode_utf8_acceptRanges), ("unicode/utf8.first", laid_unicode_utf8_first)], narrowed := true }
def SwfFullUptoSaid : Prop := swfFullUptoRow.holds Tryd.pinned (OpenSpec.upto swfFullSpec)

/-- 'berthagelaw27.SwfReads', WHERE WHAT IT READS IS OF BULK AT MOST 1048576: true; the input reads as it did. -/
def swfReadsUptoRow : OpenClaim := { program := "ytbcajgkaepihfaadoor", sum := "ce60f41dc90fe89ee7b069f9f8f973be4f814b98edf3a73ef01669206fcb661b", func := "berthage/berthagelaw27.SwfReads", spec := "swfReads", inPlace := ["internal/bytealg.CountString", "internal/bytealg.IndexByteString", "internal/bytealg.IndexString"], named := ["unicode/utf8.first", "unicode/utf8.acceptRanges", "internal/bytealg.MaxLen"], apart := false, laid := [("unicode/utf8.acceptRanges", laid_unicode_utf8_acceptRanges), ("unicode/utf8.first", laid_unicode_utf8_first)], narrowed := true }
def SwfReadsUptoSaid : Prop := swfReadsUptoRow.holds Tryd.pinned (OpenSpec.upto swfReadsSpec)

/-- 'berthagelaw26.SayParses', WHERE WHAT IT READS IS OF BULK AT MOST 1048576: true; the input reads as it did. -/
def sayParsesUptoRow : OpenClaim := { program := "ytbcajgkaepihfaadoor", sum := "ce60f41dc90fe89ee7b069f9f8f973be4f814b98edf3a73ef01669206fcb661b", func := "berthage/berthagelaw26.SayParses", spec := "sayParses", inPlace := ["internal/bytealg.CountString", "internal/bytealg.IndexByteString", "internal/bytealg.IndexString"], named := ["unicode/utf8.first", "unicode/utf8.acceptRanges", "internal/bytealg.MaxLen"], apart := false, laid := [("unicode/utf8.acceptRanges", laid_unicode_utf8_acceptRanges), ("unicode/utf8.first", laid_unicode_utf8_first)], narrowed := true }
def SayParsesUptoSaid : Prop := sayParsesUptoRow.holds Tryd.pinned (OpenSpec.upto sayParsesSpec)

/-- 'berthagelaw26.SayNumbers', WHERE WHAT IT READS IS OF BULK AT MOST 1048576: true; the input reads as it did. -/
def sayNumbersUptoRow : OpenClaim := { program := "ytbcajgkaepihfaadoor", sum := "ce60f41dc90fe89ee7b069f9f8f973be4f814b98edf3a73ef01669206fcb661b", func := "berthage/berthagelaw26.SayNumbers", spec := "sayNumbers", inPlace := ["internal/bytealg.CountString", "internal/bytealg.IndexByteString", "internal/bytealg.IndexString"], named := ["unicode/utf8.first", "unicode/utf8.acceptRanges", "internal/bytealg.MaxLen"], apart := false, laid := [("unicode/utf8.acceptRanges", laid_unicode_utf8_acceptRanges), ("unicode/utf8.first", laid_unicode_utf8_first)], narrowed := true }
def SayNumbersUptoSaid : Prop := sayNumbersUptoRow.holds Tryd.pinned (OpenSpec.upto sayNumbersSpec)

/-- 'berthagelaw27.SwfTexts', WHERE WHAT IT READS IS OF BULK AT MOST 1048576: true; the input reads as it did. -/
def swfTextsUptoRow : OpenClaim := { program := "ytbcajgkaepihfaadoor", sum := "ce60f41dc90fe89ee7b069f9f8f973be4f814b98edf3a73ef01669206fcb661b", func := "berthage/berthagelaw27.SwfTexts", spec := "swfTexts", inPlace := ["internal/bytealg.CountString", "internal/bytealg.IndexByteString", "internal/bytealg.IndexString", "internal/abi.NoEscape"], named := ["unicode/utf8.first", "unicode/utf8.acceptRanges", "internal/bytealg.MaxLen"], apart := false, laid := [("unicode/utf8.acceptRanges", laid_unicode_utf8_acceptRanges), ("unicode/utf8.first", laid_unicode_utf8_first)], narrowed := true }
def SwfTextsUptoSaid : Prop := swfTextsUptoRow.holds Tryd.pinned (OpenSpec.upto swfTextsSpec)

/-- 'berthagelaw26.SayReplies', WHERE WHAT IT READS IS OF BULK AT MOST 1048576: true; the input reads as it did. -/
def sayRepliesUptoRow : OpenClaim := { program := "ytbcajgkaepihfaadoor", sum := "ce60f41dc90fe89ee7b069f9f8f973be4f814b98edf3a73ef01669206fcb661b", func := "berthage/berthagelaw26.SayReplies", spec := "sayReplies", inPlace := ["internal/bytealg.CountString", "internal/bytealg.IndexByteString", "internal/bytealg.IndexString"], named := ["unicode/utf8.first", "unicode/utf8.acceptRanges", "internal/bytealg.MaxLen"], apart := false, laid := [("unicode/utf8.acceptRanges", laid_unicode_utf8_acceptRanges), ("unicode/utf8.first", laid_unicode_utf8_first)], narrowed := true }
def SayRepliesUptoSaid : Prop := sayRepliesUptoRow.holds Tryd.pinned (OpenSpec.upto sayRepliesSpec)

/-- 'berthagelaw26.SayLong', WHERE WHAT IT READS IS OF BULK AT MOST 1048576: true; the input reads as it did. -/
def sayLongUptoRow : OpenClaim := { program := "ytbcajgkaepihfaadoor", sum := "ce60f41dc90fe89ee7b069f9f8f973be4f814b98edf3a73ef01669206fcb661b", func := "berthage/berthagelaw26.SayLong", spec := "sayLong", inPlace := ["internal/bytealg.CountString", "internal/bytealg.IndexByteString", "internal/bytealg.IndexString"], named := ["unicode/utf8.first", "unicode/utf8.acceptRanges", "internal/bytealg.MaxLen"], apart := false, laid := [("unicode/utf8.acceptRanges", laid_unicode_utf8_acceptRanges), ("unicode/utf8.first", laid_unicode_utf8_first)], narrowed := true }
def SayLongUptoSaid : Prop := sayLongUptoRow.holds Tryd.pinned (OpenSpec.upto sayLongSpec)

/-- 'berthagelaw26.SayLines', WHERE WHAT IT READS IS OF BULK AT MOST 1048576: true; the input reads as it did. -/
def sayLinesUptoRow : OpenClaim := { program := "ytbcajgkaepihfaadoor", sum := "ce60f41dc90fe89ee7b069f9f8f973be4f814b98edf3a73ef01669206fcb661b", func := "berthage/berthagelaw26.SayLines", spec := "sayLines", inPlace := ["internal/bytealg.CountString", "internal/bytealg.IndexByteString", "internal/bytealg.IndexString"], named := ["unicode/utf8.first", "unicode/utf8.acceptRanges", "internal/bytealg.MaxLen"], apart := false, laid := [("unicode/utf8.acceptRanges", laid_unicode_utf8_acceptRanges), ("unicode/utf8.first", laid_unicode_utf8_first)], narrowed := true }
def SayLinesUptoSaid : Prop := sayLinesUptoRow.holds Tryd.pinned (OpenSpec.upto sayLinesSpec)

/-- 'berthagelaw26.SayTexts', WHERE WHAT IT READS IS OF BULK AT MOST 1048576: true; the input reads as it did. -/
def sayTextsUptoRow : OpenClaim := { program := "ytbcajgkaepihfaadoor", sum := "ce60f41dc90fe89ee7b069f9f8f973be4f814b98edf3a73ef01669206fcb661b", func := "berthage/berthagelaw26.SayTexts", spec := "sayTexts", inPlace := ["internal/bytealg.CountString", "internal/bytealg.IndexByteString", "internal/bytealg.IndexString", "internal/abi.NoEscape"], named := ["unicode/utf8.first", "unicode/utf8.acceptRanges", "internal/bytealg.MaxLen"], apart := false, laid := [("unicode/utf8.acceptRanges", laid_unicode_utf8_acceptRanges), ("unicode/utf8.first", laid_unicode_utf8_first)], narrowed := true }
def SayTextsUptoSaid : Prop := sayTextsUptoRow.holds Tryd.pinned (OpenSpec.upto sayTextsSpec)

/-- 'berthagelaw27.SwfSorts', WHERE WHAT IT READS IS OF BULK AT MOST 1048576: true; the input reads as it did. -/
def swfSortsUptoRow : OpenClaim := { program := "ytbcajgkaepihfaadoor", sum := "ce60f41dc90fe89ee7b069f9f8f973be4f814b98edf3a73ef01669206fcb661b", func := "berthage/berthagelaw27.SwfSorts", spec := "swfSorts", inPlace := ["internal/bytealg.CountString", "internal/bytealg.IndexByteString", "internal/bytealg.IndexString"], unfollowed := true, recurses := true, named := ["unicode/utf8.first", "unicode/utf8.acceptRanges", "internal/bytealg.MaxLen"], apart := false, laid := [("unicode/utf8.acceptRanges", laid_unicode_utf8_acceptRanges), ("unicode/utf8.first", laid_unicode_utf8_first)], narrowed := true }
def SwfSortsUptoSaid : Prop := swfSortsUptoRow.holds Tryd.pinned (OpenSpec.upto swfSortsSpec)

/-- 'berthagelaw35.ArrayNumbers', WHERE WHAT IT READS IS OF BULK AT MOST 1048576: true; the input reads as it did. -/
def arrayNumbersUptoRow : OpenClaim := { program := "ytbcajgkaepihfaadoor", sum := "ce60f41dc90fe89ee7b069f9f8f973be4f814b98edf3a73ef01669206fcb661b", func := "berthage/berthagelaw35.ArrayNumbers", spec := "arrayNumbers", inPlace := ["internal/bytealg.CountString", "internal/bytealg.IndexByteString", "internal/bytealg.IndexString"], recurses := true, named := ["unicode/utf8.first", "unicode/utf8.acceptRanges", "internal/bytealg.MaxLen"], apart := false, laid := [("unicode/utf8.acceptRanges", laid_unicode_utf8_acceptRanges), ("unicode/utf8.first", laid_unicode_utf8_first)], narrowed := true }
def ArrayNumbersUptoSaid : Prop := arrayNumbersUptoRow.holds Tryd.pinned (OpenSpec.upto arrayNumbersSpec)

/-- 'berthagelaw35.ArrayParses', WHERE WHAT IT READS IS OF BULK AT MOST 1048576: true; the input reads as it did. -/
def arrayParsesUptoRow : OpenClaim := { program := "ytbcajgkaepihfaadoor", sum := "ce60f41dc90fe89ee7b069f9f8f973be4f814b98edf3a73ef01669206fcb661b", func := "berthage/berthagelaw35.ArrayParses", spec := "arrayParses", inPlace := ["internal/bytealg.CountString", "internal/bytealg.IndexByteString", "internal/bytealg.IndexString"], recurses := true, named := ["unicode/utf8.first", "unicode/utf8.acceptRanges", "internal/bytealg.MaxLen"], apart := false, laid := [("unicode/utf8.acceptRanges", laid_unicode_utf8_acceptRanges), ("unicode/utf8.first", laid_unicode_utf8_first)], narrowed := true }
def ArrayParsesUptoSaid : Prop := arrayParsesUptoRow.holds Tryd.pinned (OpenSpec.upto arrayParsesSpec)

/-- 'berthagelaw35.ArrayFolds', WHERE WHAT IT READS IS OF BULK AT MOST 1048576: true; the input reads as it did. -/
def arrayFoldsUptoRow : OpenClaim := { program := "ytbcajgkaepihfaadoor", sum := "ce60f41dc90fe89ee7b069f9f8f973be4f814b98edf3a73ef01669206fcb661b", func := "berthage/berthagelaw35.ArrayFolds", spec := "arrayFolds", inPlace := ["internal/bytealg.CountString", "internal/bytealg.IndexByteString", "internal/bytealg.IndexString"], recurses := true, named := ["unicode/utf8.first", "unicode/utf8.acceptRanges", "internal/bytealg.MaxLen"], apart := false, laid := [("unicode/utf8.acceptRanges", laid_unicode_utf8_acceptRanges), ("unicode/utf8.first", laid_unicode_utf8_first)], narrowed := true }
def ArrayFoldsUptoSaid : Prop := arrayFoldsUptoRow.holds Tryd.pinned (OpenSpec.upto arrayFoldsSpec)

/-- 'berthagelaw35.ArrayRequests', WHERE WHAT IT READS IS OF BULK AT MOST 1048576: true; the input reads as it did. -/
def arrayRequestsUptoRow : OpenClaim := { program := "ytbcajgkaepihfaadoor", sum := "ce60f41dc90fe89ee7b069f9f8f973be4f814b98edf3a73ef01669206fcb661b", func := "berthage/berthagelaw35.ArrayRequests", spec := "arrayRequests", inPlace := ["internal/bytealg.CountString", "internal/bytealg.IndexByteString", "internal/bytealg.IndexString"], recurses := true, named := ["unicode/utf8.first", "unicode/utf8.acceptRanges", "internal/bytealg.MaxLen"], apart := false, laid := [("unicode/utf8.acceptRanges", laid_unicode_utf8_acceptRanges), ("unicode/utf8.first", laid_unicode_utf8_first)], narrowed := true }
def ArrayRequestsUptoSaid : Prop := arrayRequestsUptoRow.holds Tryd.pinned (OpenSpec.upto arrayRequestsSpec)

/-- 'berthagelaw35.ArrayTexts', WHERE WHAT IT READS IS OF BULK AT MOST 1048576: true; the input reads as it did. -/
def arrayTextsUptoRow : OpenClaim := { program := "ytbcajgkaepihfaadoor", sum := "ce60f41dc90fe89ee7b069f9f8f973be4f814b98edf3a73ef01669206fcb661b", func := "berthage/berthagelaw35.ArrayTexts", spec := "arrayTexts", inPlace := ["internal/abi.NoEscape", "internal/bytealg.MakeNoZero", "internal/bytealg.CountString", "internal/bytealg.IndexByteString", "internal/bytealg.IndexString"], recurses := true, named := ["unicode/utf8.first", "unicode/utf8.acceptRanges", "internal/bytealg.MaxLen"], apart := false, laid := [("unicode/utf8.acceptRanges", laid_unicode_utf8_acceptRanges), ("unicode/utf8.first", laid_unicode_utf8_first)], narrowed := true }
def ArrayTextsUptoSaid : Prop := arrayTextsUptoRow.holds Tryd.pinned (OpenSpec.upto arrayTextsSpec)

end Rows
end Go.Proofs.YtbcajgkaepihfaaDoor
