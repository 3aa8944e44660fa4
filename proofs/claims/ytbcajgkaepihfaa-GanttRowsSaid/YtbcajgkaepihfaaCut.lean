/- What the program's own word says of its cut. -/
import Derived.Test.YtbcajgkaepihfaaProg
import Derived.Test.YtbcajgkaepihfaaSymCut
namespace Go.Proofs.Ytbcajgkaepihfaa
open Go.Proofs.Ytbcajgkaepihfaa.Sym
open Go.RowKit (Below)
set_option linter.unusedVariables false
set_option linter.unusedSimpArgs false
def cutCodes : List Nat := [104, 97, 114, 110, 101, 115, 115, 32, 101, 101, 97, 52, 50, 51, 49, 50, 55, 101, 48, 98, 53, 49, 54, 101, 99, 52, 100, 52, 98, 49, 51, 102, 98, 99, 55, 102, 100, 51, 101, 49, 56, 97, 51, 99, 56, 49, 52, 49, 49, 56, 56, 51, 48, 55, 100, 100, 100, 57, 99, 48, 55, 101, 53, 57, 50, 102, 52, 54, 55, 99, 101, 57, 32, 99, 117, 116, 32, 97, 116, 32, 98, 101, 114, 116, 104, 97, 103, 101, 47, 98, 101, 114, 116, 104, 97, 103, 101, 108, 97, 119, 51, 48, 46, 71, 97, 110, 116, 116, 82, 111, 119, 115]
theorem cutWordP : Sym.CutWord Try.prog := Sym.cutWord (l := cutCodes) (by kernel_rfl) (by kernel_rfl)
theorem cutMay : Try.prog.mayEnter = true := Sym.may0 cutWordP (by kernel_rfl) (by kernel_rfl) (by kernel_rfl)
theorem cutLif : Try.prog.liftsFinal = false := Sym.lif0 cutWordP
theorem cutMk : Try.prog.make = some .cut := Sym.mk0 cutWordP
end Go.Proofs.Ytbcajgkaepihfaa
