/-
  DERIVED. GIVEN WITH THE SEED: THE CARDS: each row of YtbcajgkaepihfaaDoorRows.lean that lists a variable, with what it lists TIED to the program's text (the seventh form; the later family's looks); each row that meets fmt, with fmt's text TOLD by the authors' own Lean function (tested against real Go, not proved from fmt's source: count such statements apart). THE CARD IS WHAT COUNTS. Prove the row's statement (the work); the ties are given (YtbcajgkaepihfaaDoorTie.lean); close each card by the builder's one call (the guide's Derived/Test/ToyasCard.lean, 'card_holds'). Laid BY PROGRAM, IN A SANDBOX (cutbox-door.mjs). By AI agents, Wed Nov 11 2026. No macro, syntax, notation, axiom, sorry.
-/
import Derived.Test.YtbcajgkaepihfaaDoorRows
import GoSem.ClaimSeven
namespace Go.Proofs.YtbcajgkaepihfaaDoor
namespace Rows

/-- THE TIED CARD OF 'berthagelaw27.SwfFull'. -/
def swfFullCard : Claim7 := { stood := { row := swfFullRow, standIns := [], harness := (true, "426c9bee184f4b528ab0760080dc1cc7cd819b0490f5c9691bd34e83eb6dee88"), looks := false }, kinds := [], alts := [], laidByText := true, laidKinds := [.data, .pinned], laidTests := true, laidLooks := .later }
def SwfFullCardSaid : Prop := Claim7.holds Tryd.pinned (.plain (OpenSpec.ofChange swfFullSpec)) swfFullCard

/-- THE TIED CARD OF 'berthagelaw27.SwfReads'. -/
def swfReadsCard : Claim7 := { stood := { row := swfReadsRow, standIns := [], harness := (true, "426c9bee184f4b528ab0760080dc1cc7cd819b0490f5c9691bd34e83eb6dee88"), looks := false }, kinds := [], alts := [], laidByText := true, laidKinds := [.data, .pinned], laidTests := true, laidLooks := .later }
def SwfReadsCardSaid : Prop := Claim7.holds Tryd.pinned (.plain (OpenSpec.ofChange swfReadsSpec)) swfReadsCard

/-- THE TIED CARD OF 'berthagelaw26.SayParses'. -/
def sayParsesCard : Claim7 := { stood := { row := sayParsesRow, standIns := [], harness := (true, "426c9bee184f4b528ab0760080dc1cc7cd819b0490f5c9691bd34e83eb6dee88"), looks := false }, kinds := [], alts := [], laidByText := true, laidKinds := [.data, .pinned], laidTests := true, laidLooks := .later }
def SayParsesCardSaid : Prop := Claim7.holds Tryd.pinned (.plain (OpenSpec.ofChange sayParsesSpec)) sayParsesCard

/-- THE TIED CARD OF 'berthagelaw26.SayNumbers'. -/
def sayNumbersCard : Claim7 := { stood := { row := sayNumbersRow, standIns := [], harness := (true, "426c9bee184f4b528ab0760080dc1cc7cd819b0490f5c9691bd34e83eb6dee88"), looks := false }, kinds := [], alts := [], laidByText := true, laidKinds := [.data, .pinned], laidTests := true, laidLooks := .later }
def SayNumbersCardSaid : Prop := Claim7.holds Tryd.pinned (.plain (OpenSpec.ofChange sayNumbersSpec)) sayNumbersCard

/-- THE TIED CARD OF 'berthagelaw27.SwfTexts'. -/
def swfTextsCard : Claim7 := { stood := { row := swfTextsRow, standIns := [], harness := (true, "426c9bee184f4b528ab0760080dc1cc7cd819b0490f5c9691bd34e83eb6dee88"), looks := false }, kinds := [], alts := [], laidByText := true, laidKinds := [.data, .pinned], laidTests := true, laidLooks := .later }
def SwfTextsCardSaid : Prop := Claim7.holds Tryd.pinned (.plain (OpenSpec.ofChange swfTextsSpec)) swfTextsCard

/-- THE TIED CARD OF 'berthagelaw26.SayReplies'. -/
def sayRepliesCard : Claim7 := { stood := { row := sayRepliesRow, standIns := [], harness := (true, "426c9bee184f4b528ab0760080dc1cc7cd819b0490f5c9691bd34e83eb6dee88"), looks := false }, kinds := [], alts := [], laidByText := true, laidKinds := [.data, .pinned], laidTests := true, laidLooks := .later }
def SayRepliesCardSaid : Prop := Claim7.holds Tryd.pinned (.plain (OpenSpec.ofChange sayRepliesSpec)) sayRepliesCard

/-- THE TIED CARD OF 'berthagelaw26.SayLong'. -/
def sayLongCard : Claim7 := { stood := { row := sayLongRow, standIns := [], harness := (true, "426c9bee184f4b528ab0760080dc1cc7cd819b0490f5c9691bd34e83eb6dee88"), looks := false }, kinds := [], alts := [], laidByText := true, laidKinds := [.data, .pinned], laidTests := true, laidLooks := .later }
def SayLongCardSaid : Prop := Claim7.holds Tryd.pinned (.plain (OpenSpec.ofChange sayLongSpec)) sayLongCard

/-- THE TIED CARD OF 'berthagelaw26.SayLines'. -/
def sayLinesCard : Claim7 := { stood := { row := sayLinesRow, standIns := [], harness := (true, "426c9bee184f4b528ab0760080dc1cc7cd819b0490f5c9691bd34e83eb6dee88"), looks := false }, kinds := [], alts := [], laidByText := true, laidKinds := [.data, .pinned], laidTests := true, laidLooks := .later }
def SayLinesCardSaid : Prop := Claim7.holds Tryd.pinned (.plain (OpenSpec.ofChange sayLinesSpec)) sayLinesCard

/-- THE TIED CARD OF 'berthagelaw26.SayTexts'. -/
def sayTextsCard : Claim7 := { stood := { row := sayTextsRow, standIns := [], harness := (true, "426c9bee184f4b528ab0760080dc1cc7cd819b0490f5c9691bd34e83eb6dee88"), looks := false }, kinds := [], alts := [], laidByText := true, laidKinds := [.data, .pinned], laidTests := true, laidLooks := .later }
def SayTextsCardSaid : Prop := Claim7.holds Tryd.pinned (.plain (OpenSpec.ofChange sayTextsSpec)) sayTextsCard

/-- THE TIED CARD OF 'berthagelaw27.SwfSorts'. -/
def swfSortsCard : Claim7 := { stood := { row := swfSortsRow, standIns := [], harness := (true, "426c9bee184f4b528ab0760080dc1cc7cd819b0490f5c9691bd34e83eb6dee88"), looks := false }, kinds := [], alts := [], laidByText := true, laidKinds := [.data, .pinned], laidTests := true, laidLooks := .later }
def SwfSortsCardSaid : Prop := Claim7.holds Tryd.pinned (.plain (OpenSpec.ofChange swfSortsSpec)) swfSortsCard

/-- THE TIED CARD OF 'berthagelaw35.ArrayNumbers'. -/
def arrayNumbersCard : Claim7 := { stood := { row := arrayNumbersRow, standIns := [], harness := (true, "426c9bee184f4b528ab0760080dc1cc7cd819b0490f5c9691bd34e83eb6dee88"), looks := false }, kinds := [], alts := [], laidByText := true, laidKinds := [.data, .pinned], laidTests := true, laidLooks := .later }
def ArrayNumbersCardSaid : Prop := Claim7.holds Tryd.pinned (.plain (OpenSpec.ofChange arrayNumbersSpec)) arrayNumbersCard

/-- THE TIED CARD OF 'berthagelaw35.ArrayParses'. -/
def arrayParsesCard : Claim7 := { stood := { row := arrayParsesRow, standIns := [], harness := (true, "426c9bee184f4b528ab0760080dc1cc7cd819b0490f5c9691bd34e83eb6dee88"), looks := false }, kinds := [], alts := [], laidByText := true, laidKinds := [.data, .pinned], laidTests := true, laidLooks := .later }
def ArrayParsesCardSaid : Prop := Claim7.holds Tryd.pinned (.plain (OpenSpec.ofChange arrayParsesSpec)) arrayParsesCard

/-- THE TIED CARD OF 'berthagelaw35.ArrayFolds'. -/
def arrayFoldsCard : Claim7 := { stood := { row := arrayFoldsRow, standIns := [], harness := (true, "426c9bee184f4b528ab0760080dc1cc7cd819b0490f5c9691bd34e83eb6dee88"), looks := false }, kinds := [], alts := [], laidByText := true, laidKinds := [.data, .pinned], laidTests := true, laidLooks := .later }
def ArrayFoldsCardSaid : Prop := Claim7.holds Tryd.pinned (.plain (OpenSpec.ofChange arrayFoldsSpec)) arrayFoldsCard

/-- THE TIED CARD OF 'berthagelaw35.ArrayRequests'. -/
def arrayRequestsCard : Claim7 := { stood := { row := arrayRequestsRow, standIns := [], harness := (true, "426c9bee184f4b528ab0760080dc1cc7cd819b0490f5c9691bd34e83eb6dee88"), looks := false }, kinds := [], alts := [], laidByText := true, laidKinds := [.data, .pinned], laidTests := true, laidLooks := .later }
def ArrayRequestsCardSaid : Prop := Claim7.holds Tryd.pinned (.plain (OpenSpec.ofChange arrayRequestsSpec)) arrayRequestsCard

/-- THE TIED CARD OF 'berthagelaw35.ArrayTexts'. -/
def arrayTextsCard : Claim7 := { stood := { row := arrayTextsRow, standIns := [], harness := (true, "426c9bee184f4b528ab0760080dc1cc7cd819b0490f5c9691bd34e83eb6dee88"), looks := false }, kinds := [], alts := [], laidByText := true, laidKinds := [.data, .pinned], laidTests := true, laidLooks := .later }
def ArrayTextsCardSaid : Prop := Claim7.holds Tryd.pinned (.plain (OpenSpec.ofChange arrayTextsSpec)) arrayTextsCard

/-- THE SECOND FORM's CARD OF 'berthagelaw27.SwfFull'. -/
def swfFullUptoCard : Claim7 := { stood := { row := swfFullUptoRow, standIns := [], harness := (true, "426c9bee184f4b528ab0760080dc1cc7cd819b0490f5c9691bd34e83eb6dee88"), looks := false }, kinds := [], alts := [], laidByText := true, laidKinds := [.data, .pinned], laidTests := true, laidLooks := .later }
def SwfFullUptoCardSaid : Prop := Claim7.holds Tryd.pinned (.plain (OpenSpec.upto swfFullSpec)) swfFullUptoCard

/-- THE SECOND FORM's CARD OF 'berthagelaw27.SwfReads'. -/
def swfReadsUptoCard : Claim7 := { stood := { row := swfReadsUptoRow, standIns := [], harness := (true, "426c9bee184f4b528ab0760080dc1cc7cd819b0490f5c9691bd34e83eb6dee88"), looks := false }, kinds := [], alts := [], laidByText := true, laidKinds := [.data, .pinned], laidTests := true, laidLooks := .later }
def SwfReadsUptoCardSaid : Prop := Claim7.holds Tryd.pinned (.plain (OpenSpec.upto swfReadsSpec)) swfReadsUptoCard

/-- THE SECOND FORM's CARD OF 'berthagelaw26.SayParses'. -/
def sayParsesUptoCard : Claim7 := { stood := { row := sayParsesUptoRow, standIns := [], harness := (true, "426c9bee184f4b528ab0760080dc1cc7cd819b0490f5c9691bd34e83eb6dee88"), looks := false }, kinds := [], alts := [], laidByText := true, laidKinds := [.data, .pinned], laidTests := true, laidLooks := .later }
def SayParsesUptoCardSaid : Prop := Claim7.holds Tryd.pinned (.plain (OpenSpec.upto sayParsesSpec)) sayParsesUptoCard

/-- THE SECOND FORM's CARD OF 'berthagelaw26.SayNumbers'. -/
def sayNumbersUptoCard : Claim7 := { stood := { row := sayNumbersUptoRow, standIns := [], harness := (true, "426c9bee184f4b528ab0760080dc1cc7cd819b0490f5c9691bd34e83eb6dee88"), looks := false }, kinds := [], alts := [], laidByText := true, laidKinds := [.data, .pinned], laidTests := true, laidLooks := .later }
def SayNumbersUptoCardSaid : Prop := Claim7.holds Tryd.pinned (.plain (OpenSpec.upto sayNumbersSpec)) sayNumbersUptoCard

/-- THE SECOND FORM's CARD OF 'berthagelaw27.SwfTexts'. -/
def swfTextsUptoCard : Claim7 := { stood := { row := swfTextsUptoRow, standIns := [], harness := (true, "426c9bee184f4b528ab0760080dc1cc7cd819b0490f5c9691bd34e83eb6dee88"), looks := false }, kinds := [], alts := [], laidByText := true, laidKinds := [.data, .pinned], laidTests := true, laidLooks := .later }
def SwfTextsUptoCardSaid : Prop := Claim7.holds Tryd.pinned (.plain (OpenSpec.upto swfTextsSpec)) swfTextsUptoCard

/-- THE SECOND FORM's CARD OF 'berthagelaw26.SayReplies'. -/
def sayRepliesUptoCard : Claim7 := { stood := { row := sayRepliesUptoRow, standIns := [], harness := (true, "426c9bee184f4b528ab0760080dc1cc7cd819b0490f5c9691bd34e83eb6dee88"), looks := false }, kinds := [], alts := [], laidByText := true, laidKinds := [.data, .pinned], laidTests := true, laidLooks := .later }
def SayRepliesUptoCardSaid : Prop := Claim7.holds Tryd.pinned (.plain (OpenSpec.upto sayRepliesSpec)) sayRepliesUptoCard

/-- THE SECOND FORM's CARD OF 'berthagelaw26.SayLong'. -/
def sayLongUptoCard : Claim7 := { stood := { row := sayLongUptoRow, standIns := [], harness := (true, "426c9bee184f4b528ab0760080dc1cc7cd819b0490f5c9691bd34e83eb6dee88"), looks := false }, kinds := [], alts := [], laidByText := true, laidKinds := [.data, .pinned], laidTests := true, laidLooks := .later }
def SayLongUptoCardSaid : Prop := Claim7.holds Tryd.pinned (.plain (OpenSpec.upto sayLongSpec)) sayLongUptoCard

/-- THE SECOND FORM's CARD OF 'berthagelaw26.SayLines'. -/
def sayLinesUptoCard : Claim7 := { stood := { row := sayLinesUptoRow, standIns := [], harness := (true, "426c9bee184f4b528ab0760080dc1cc7cd819b0490f5c9691bd34e83eb6dee88"), looks := false }, kinds := [], alts := [], laidByText := true, laidKinds := [.data, .pinned], laidTests := true, laidLooks := .later }
def SayLinesUptoCardSaid : Prop := Claim7.holds Tryd.pinned (.plain (OpenSpec.upto sayLinesSpec)) sayLinesUptoCard

/-- THE SECOND FORM's CARD OF 'berthagelaw26.SayTexts'. -/
def sayTextsUptoCard : Claim7 := { stood := { row := sayTextsUptoRow, standIns := [], harness := (true, "426c9bee184f4b528ab0760080dc1cc7cd819b0490f5c9691bd34e83eb6dee88"), looks := false }, kinds := [], alts := [], laidByText := true, laidKinds := [.data, .pinned], laidTests := true, laidLooks := .later }
def SayTextsUptoCardSaid : Prop := Claim7.holds Tryd.pinned (.plain (OpenSpec.upto sayTextsSpec)) sayTextsUptoCard

/-- THE SECOND FORM's CARD OF 'berthagelaw27.SwfSorts'. -/
def swfSortsUptoCard : Claim7 := { stood := { row := swfSortsUptoRow, standIns := [], harness := (true, "426c9bee184f4b528ab0760080dc1cc7cd819b0490f5c9691bd34e83eb6dee88"), looks := false }, kinds := [], alts := [], laidByText := true, laidKinds := [.data, .pinned], laidTests := true, laidLooks := .later }
def SwfSortsUptoCardSaid : Prop := Claim7.holds Tryd.pinned (.plain (OpenSpec.upto swfSortsSpec)) swfSortsUptoCard

/-- THE SECOND FORM's CARD OF 'berthagelaw35.ArrayNumbers'. -/
def arrayNumbersUptoCard : Claim7 := { stood := { row := arrayNumbersUptoRow, standIns := [], harness := (true, "426c9bee184f4b528ab0760080dc1cc7cd819b0490f5c9691bd34e83eb6dee88"), looks := false }, kinds := [], alts := [], laidByText := true, laidKinds := [.data, .pinned], laidTests := true, laidLooks := .later }
def ArrayNumbersUptoCardSaid : Prop := Claim7.holds Tryd.pinned (.plain (OpenSpec.upto arrayNumbersSpec)) arrayNumbersUptoCard

/-- THE SECOND FORM's CARD OF 'berthagelaw35.ArrayParses'. -/
def arrayParsesUptoCard : Claim7 := { stood := { row := arrayParsesUptoRow, standIns := [], harness := (true, "426c9bee184f4b528ab0760080dc1cc7cd819b0490f5c9691bd34e83eb6dee88"), looks := false }, kinds := [], alts := [], laidByText := true, laidKinds := [.data, .pinned], laidTests := true, laidLooks := .later }
def ArrayParsesUptoCardSaid : Prop := Claim7.holds Tryd.pinned (.plain (OpenSpec.upto arrayParsesSpec)) arrayParsesUptoCard

/-- THE SECOND FORM's CARD OF 'berthagelaw35.ArrayFolds'. -/
def arrayFoldsUptoCard : Claim7 := { stood := { row := arrayFoldsUptoRow, standIns := [], harness := (true, "426c9bee184f4b528ab0760080dc1cc7cd819b0490f5c9691bd34e83eb6dee88"), looks := false }, kinds := [], alts := [], laidByText := true, laidKinds := [.data, .pinned], laidTests := true, laidLooks := .later }
def ArrayFoldsUptoCardSaid : Prop := Claim7.holds Tryd.pinned (.plain (OpenSpec.upto arrayFoldsSpec)) arrayFoldsUptoCard

/-- THE SECOND FORM's CARD OF 'berthagelaw35.ArrayRequests'. -/
def arrayRequestsUptoCard : Claim7 := { stood := { row := arrayRequestsUptoRow, standIns := [], harness := (true, "426c9bee184f4b528ab0760080dc1cc7cd819b0490f5c9691bd34e83eb6dee88"), looks := false }, kinds := [], alts := [], laidByText := true, laidKinds := [.data, .pinned], laidTests := true, laidLooks := .later }
def ArrayRequestsUptoCardSaid : Prop := Claim7.holds Tryd.pinned (.plain (OpenSpec.upto arrayRequestsSpec)) arrayRequestsUptoCard

/-- THE SECOND FORM's CARD OF 'berthagelaw35.ArrayTexts'. -/
def arrayTextsUptoCard : Claim7 := { stood := { row := arrayTextsUptoRow, standIns := [], harness := (true, "426c9bee184f4b528ab0760080dc1cc7cd819b0490f5c9691bd34e83eb6dee88"), looks := false }, kinds := [], alts := [], laidByText := true, laidKinds := [.data, .pinned], laidTests := true, laidLooks := .later }
def ArrayTextsUptoCardSaid : Prop := Claim7.holds Tryd.pinned (.plain (OpenSpec.upto arrayTextsSpec)) arrayTextsUptoCard
end Rows
end Go.Proofs.YtbcajgkaepihfaaDoor
