/- What the program's own word says of its cut, told once: the closed facts of a row, where the word is long. -/
import Derived.Test.YteilocpjikmmdaaSymRow
namespace Go.Proofs.Yteilocpjikmmdaa.Sym
theorem strip0 (rest : List (List Char)) : stripLifts liftWords ("cut".toList :: rest) = ([], "cut".toList :: rest) := by rfl
def CutWord (P : Program) : Prop := ∃ rest, behindMainWord (wordsSigns P.initOrder.toList) = "cut".toList :: rest
theorem cutWord {P : Program} {l : List Nat} (h : P.initOrder = String.ofList (l.map Char.ofNat)) (hw : (behindMainWord (wordsSigns (l.map Char.ofNat))).head? = some "cut".toList) : CutWord P := by
  unfold CutWord
  rw [h, String.toList_ofList]
  cases h2 : behindMainWord (wordsSigns (l.map Char.ofNat)) with
  | nil => rw [h2] at hw; cases hw
  | cons a l => rw [h2] at hw; cases hw; exact ⟨l, rfl⟩
theorem mk0 {P : Program} (h : CutWord P) : P.make = some .cut := by
  obtain ⟨rest, h⟩ := h
  unfold Program.make
  rw [h]
  rfl
theorem may0 {P : Program} (h : CutWord P) (h1 : P.laysLater = false) (h2 : P.bearsReflect = false) (h3 : P.doorFits [] = true) : P.mayEnter = true := by
  obtain ⟨rest, h⟩ := h
  unfold Program.mayEnter
  rw [h]
  simp only [strip0, h1, h2, h3]
  rfl
theorem lif0 {P : Program} (h : CutWord P) : P.liftsFinal = false := by
  obtain ⟨rest, h⟩ := h
  unfold Program.liftsFinal Program.headLifts
  rw [h]
  simp only [strip0]
  rfl
end Go.Proofs.Yteilocpjikmmdaa.Sym
