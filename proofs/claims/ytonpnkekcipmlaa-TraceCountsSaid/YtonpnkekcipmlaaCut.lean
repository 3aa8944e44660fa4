/- What the program's own word says of its cut. -/
import Derived.Test.YtonpnkekcipmlaaProg
import Derived.Test.YtonpnkekcipmlaaSymCut
namespace Go.Proofs.Ytonpnkekcipmlaa
open Go.Proofs.Ytonpnkekcipmlaa.Sym
open Go.RowKit (Below)
set_option linter.unusedVariables false
set_option linter.unusedSimpArgs false
def cutCodes : List Nat := [104, 97, 114, 110, 101, 115, 115, 32, 99, 101, 51, 49, 57, 56, 48, 52, 57, 98, 49, 50, 100, 57, 97, 50, 53, 52, 102, 56, 50, 54, 99, 102, 57, 54, 98, 51, 55, 99, 101, 56, 102, 52, 49, 98, 52, 102, 98, 54, 99, 100, 54, 53, 50, 98, 97, 52, 57, 101, 49, 53, 97, 57, 52, 98, 100, 101, 48, 50, 98, 50, 54, 49, 32, 99, 117, 116, 32, 97, 116, 32, 98, 101, 114, 116, 104, 97, 103, 101, 47, 98, 101, 114, 116, 104, 97, 103, 101, 108, 97, 119, 52, 51, 46, 84, 114, 97, 99, 101, 67, 111, 117, 110, 116, 115, 32, 98, 101, 114, 116, 104, 97, 103, 101, 47, 98, 101, 114, 116, 104, 97, 103, 101, 108, 97, 119, 51, 52, 46, 68, 101, 112, 65, 100, 100, 115, 32, 98, 101, 114, 116, 104, 97, 103, 101, 47, 98, 101, 114, 116, 104, 97, 103, 101, 108, 97, 119, 51, 52, 46, 68, 101, 112, 76, 97, 121, 101, 114, 115, 32, 98, 101, 114, 116, 104, 97, 103, 101, 47, 98, 101, 114, 116, 104, 97, 103, 101, 108, 97, 119, 51, 52, 46, 68, 101, 112, 78, 111, 98, 111, 100, 121]
theorem cutWordP : Sym.CutWord Try.prog := Sym.cutWord (l := cutCodes) (by kernel_rfl) (by kernel_rfl)
theorem cutMay : Try.prog.mayEnter = true := Sym.may0 cutWordP (by kernel_rfl) (by kernel_rfl) (by kernel_rfl)
theorem cutLif : Try.prog.liftsFinal = false := Sym.lif0 cutWordP
theorem cutMk : Try.prog.make = some .cut := Sym.mk0 cutWordP
end Go.Proofs.Ytonpnkekcipmlaa
