/- Whole elements of a row, written. -/
import Derived.Test.YteilocpjikmmdaaSymEq
namespace Go.Proofs.Yteilocpjikmmdaa.Sym
theorem spl_flat0 {α : Type} {n : Nat} {enc : α → List Value} (hn : ∀ x, (enc x).length = n) {xs : List α} {post : List Value} {i : Nat} {x' : α} (hi : i < xs.length) : Spl (xs.flatMap enc ++ post) (0 + i * n) (enc x') ((xs.set i x').flatMap enc ++ post) := by
  rw [Nat.zero_add]; exact spl_flat hn hi
theorem OwnVec.snocS {α : Type} {size : Nat} {e : TypeId} {enc : α → List Value} {xs : List α} {x : α} {a : Option Addr} {c : Nat} {E : SHeap} (h : OwnVec size e (.slice a (xs.length + 1) c) (xs.length + 1) (xs.flatMap enc ++ enc x) E) : OwnVec size e (.slice a (xs ++ [x]).length c) (xs ++ [x]).length ((xs ++ [x]).flatMap enc) E := by
  have := OwnVec.snoc h
  rw [List.length_append] at this ⊢; exact this
end Go.Proofs.Yteilocpjikmmdaa.Sym
