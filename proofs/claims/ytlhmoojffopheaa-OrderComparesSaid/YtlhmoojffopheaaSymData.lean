/- Slices whose elements are read as data, and how arguments are opened. -/
import Derived.Test.YtlhmoojffopheaaSymRow
import Derived.Deep.Slices
namespace Go.Proofs.Ytlhmoojffopheaa.Sym
open Go.RowKit (Below)
open Go.ChangeShapes Go.WideShapes Go.ChangeAt Go.RowKit
set_option linter.unusedVariables false
set_option linter.unusedSimpArgs false

/-- A slice that reads as the list xs: n cells an element. -/
structure SlV {α : Type} (W0 : World) (H : SHeap) (n : Nat) (enc : α → List Value) (a : Option Addr) (cap : Nat) (xs : List α) : Prop where
  le : xs.length ≤ cap
  capb : cap ≤ 9223372036854775807
  at_ : ∀ i x, xs[i]? = some x → ∃ b off, a = some ⟨b, off, none⟩ ∧ Cells W0 H b (off + i * n) (enc x)

section
variable {P : Program} {W0 : World} {F : Fm} {H : SHeap} {ro : Option Nat} {d : Option Tmp} {ty : TypeId} {pos : String} {af : Array Edge} {g : Option (Nat × Bool)} {t t' : TypeId} {x y : Operand}
theorem x_indexAddrV {e : TypeId} {b off len cap n : Nat} {a : Option Addr} {k : IntKind} {i : Int} (h : P.underlying t = some (.slice e)) (hs : szOf P e = some n) (hx : val F x = some (.slice a len cap)) (ha : a = some ⟨b, off, none⟩) (hy : val F y = some (.int k i)) (h0 : 0 ≤ i) (hi : i < len) :
    Rd P W0 F H ⟨d, .indexAddr t x y, ty, pos, af, g⟩ (.pointer (some ⟨b, off + i.toNat * n, none⟩)) := by subst ha; exact x_indexAddr h hs hx hy h0 hi

/-- The same at a place in Nat. -/
theorem x_indexAddrN {e : TypeId} {b off len cap n : Nat} {a : Option Addr} {k : IntKind} {i : Int} (j : Nat) (h : P.underlying t = some (.slice e)) (hs : szOf P e = some n) (hx : val F x = some (.slice a len cap)) (ha : a = some ⟨b, off, none⟩) (hy : val F y = some (.int k i)) (hj : i = (j : Int)) (hi : j < len) :
    Rd P W0 F H ⟨d, .indexAddr t x y, ty, pos, af, g⟩ (.pointer (some ⟨b, off + j * n, none⟩)) := by
  subst hj; subst ha; exact x_indexAddr h hs hx hy (by omega) (by omega)
end

theorem SlV.take {α : Type} {W0 : World} {H : SHeap} {n : Nat} {enc : α → List Value} {a : Option Addr} {cap : Nat} {xs : List α} (h : SlV W0 H n enc a cap xs) (k : Nat) : SlV W0 H n enc a cap (xs.take k) :=
  ⟨by have := h.le; have := List.length_take_le k xs; have := List.length_take_le' k xs; omega, h.capb, fun i x hx => by
    rw [List.getElem?_take] at hx
    split at hx
    · exact h.at_ i x hx
    · cases hx⟩
theorem SlV.any {α : Type} {W0 : World} {n : Nat} {enc : α → List Value} {a : Option Addr} {cap : Nat} {xs : List α} (h : ∀ H, SlV W0 H n enc a cap xs) {H : SHeap} : SlV W0 H n enc a cap xs := h H
theorem slv_nil {α : Type} {W0 : World} {H : SHeap} {n : Nat} {enc : α → List Value} : SlV W0 H n enc none 0 ([] : List α) := ⟨by simp, by simp, by simp⟩

theorem choose_list {α : Type} {p : Nat → α → Prop} : ∀ n : Nat, (∀ i, i < n → ∃ a, p i a) → ∃ l : List α, l.length = n ∧ ∀ i a, l[i]? = some a → p i a
  | 0, _ => ⟨[], rfl, by simp⟩
  | n + 1, h => by
    obtain ⟨l, h1, h2⟩ := choose_list n fun i hi => h i (by omega)
    obtain ⟨a, ha⟩ := h n (by omega)
    refine ⟨l ++ [a], by simp [h1], fun i b hb => ?_⟩
    rw [List.getElem?_append] at hb
    split at hb
    · exact h2 i b hb
    · next hi =>
      have e : i = n := by
        rcases Nat.lt_or_ge (i - l.length) 1 with h | h
        · omega
        · rw [List.getElem?_eq_none (by simpa using h)] at hb; cases hb
      subst e; rw [h1] at hb; simp at hb; subst hb; exact ha

section reads
variable {H : Type} {enc : TypeId × Value → H} {P : Program} {w : World} {base : Nat} {spare : Nat → Bool} {held : Bool} {fuel : Nat} {t : TypeId} {cs : List Value} {x : DataW H × List MemPlace}
theorem read_struct {fs : Array Field} (ht : P.underlying t = some (.struct fs)) (h : DataW.trod enc P w base spare held fuel t cs = some x) :
    cs.length = P.cellsOf t ∧ ∃ n, ∀ (i : Nat) (f : Field), fs[i]? = some f → ∃ y, DataW.trod enc P w base spare held n f.type ((cs.drop f.offset).take (P.cellsOf f.type)) = some y := by
  obtain ⟨xs, n, _, _, h1, h2, h3⟩ := DataW.trod_struct ht h
  refine ⟨h1, n, fun i f hf => ?_⟩
  have hi : i < fs.size := by
    rcases Nat.lt_or_ge i fs.size with h | h
    · exact h
    · simp [Array.getElem?_eq_none h] at hf
  rw [h3 i f hf]
  exact ⟨xs[i]'(by omega), List.getElem?_eq_getElem (by omega)⟩
theorem one_of {cs : List Value} {off : Nat} {v : Value} (h : (cs.drop off).take 1 = [v]) : cs[off]? = some v := by
  have := congrArg (·[0]?) h
  simpa using this
theorem kbounds {k : IntKind} {n : Int} (h : (Lit.int k n).wf = true) : k.min ≤ n ∧ n ≤ k.max := by simpa [Lit.wf] using h
theorem read_int {k : IntKind} {off : Nat} (ht : P.underlying t = some (.int k)) (hc : P.cellsOf t = 1) (h : ∃ y, DataW.trod enc P w base spare held fuel t ((cs.drop off).take (P.cellsOf t)) = some y) : ∃ n, cs[off]? = some (.int k n) ∧ k.min ≤ n ∧ n ≤ k.max := by
  obtain ⟨y, h⟩ := h
  obtain ⟨n, h1, _, h2⟩ := DataW.trod_int ht h
  rw [hc] at h1
  exact ⟨n, one_of h1, kbounds h2⟩
theorem read_bool {off : Nat} (ht : P.underlying t = some .bool) (hc : P.cellsOf t = 1) (h : ∃ y, DataW.trod enc P w base spare held fuel t ((cs.drop off).take (P.cellsOf t)) = some y) : ∃ b, cs[off]? = some (.bool b) := by
  obtain ⟨y, h⟩ := h
  obtain ⟨n, h1, _⟩ := DataW.trod_bool ht h
  rw [hc] at h1
  exact ⟨n, one_of h1⟩
theorem read_str {off : Nat} (ht : P.underlying t = some .string) (hc : P.cellsOf t = 1) (h : ∃ y, DataW.trod enc P w base spare held fuel t ((cs.drop off).take (P.cellsOf t)) = some y) : ∃ s : ByteArray, cs[off]? = some (.string s) ∧ s.size ≤ maxLen := by
  obtain ⟨y, h⟩ := h
  obtain ⟨n, h1, _, h2⟩ := DataW.trod_string ht h
  rw [hc] at h1
  exact ⟨n, one_of h1, h2⟩
/-- A slice, opened, its elements read by a reader of one's own. -/
theorem read_slice {α : Type} {e : TypeId} {n : Nat} {en : α → List Value} {Ok : α → Prop} (ht : P.underlying t = some (.slice e)) (hn : P.cellsOf e = n) (hn0 : 0 < n)
    (rd : ∀ fuel cs x, DataW.trod enc P w base spare held fuel e cs = some x → ∃ a, cs = en a ∧ Ok a) (h : DataW.trod enc P w base spare held fuel t cs = some x) :
    ∃ a cap xs, cs = [.slice a xs.length cap] ∧ (∀ G, SlV w G n en a cap xs) ∧ ∀ y ∈ xs, Ok y := by
  rcases Go.Deep.open_slice ht h with ⟨rfl, _⟩ | ⟨a, len, cap, m, n', D, Pl, rfl, hbase, hl, hm, hmm, _, hel⟩
  · exact ⟨none, 0, [], rfl, fun G => slv_nil, by simp⟩
  · have hle : len ≤ m := by rw [hmm]; split <;> omega
    obtain ⟨xs, h1, h2⟩ := choose_list (p := fun i y => w.cells? base (a.add (i * n)) n = some (en y) ∧ Ok y) len fun i hi => by
      obtain ⟨cs', g1, g2⟩ := hel i (by omega)
      obtain ⟨y, rfl, hy⟩ := rd _ _ _ g2
      rw [hn] at g1
      exact ⟨y, g1, hy⟩
    subst h1
    refine ⟨some a, cap, xs, rfl, fun G => ⟨hl, by unfold maxLen at hm; omega, fun i y hy => ?_⟩, fun y hy => ?_⟩
    · have hi : i < xs.length := by
        rcases Nat.lt_or_ge i xs.length with h | h
        · exact h
        · rw [List.getElem?_eq_none h] at hy; cases hy
      obtain ⟨y0, hy0⟩ : ∃ y0, xs[0]? = some y0 := ⟨xs[0]'(by omega), List.getElem?_eq_getElem (by omega)⟩
      obtain ⟨b, off, spot⟩ := a
      have hs : spot = none := by
        obtain ⟨g1, _⟩ := h2 0 y0 hy0
        obtain ⟨_, g3, g4⟩ := World.cells?_some g1
        have := g4 0 hn0
        simp only [Nat.zero_mul, Addr.add, if_true, World.cell?] at this
        rw [List.getElem?_eq_getElem (by omega)] at this
        split at this
        · cases spot with
          | none => rfl
          | some s => simp at this
        · cases this
      subst hs
      obtain ⟨g1, _⟩ := h2 i y hy
      obtain ⟨_, g3, g4⟩ := World.cells?_some g1
      rw [add_at] at g1 g4
      refine ⟨b, off, rfl, ?_⟩
      have h00 := g4 0 hn0
      rw [List.getElem?_eq_getElem (by omega)] at h00
      simp only [add_at, World.cell?] at h00
      split at h00
      · next c et fz ho =>
        have hblk : b < w.heap.size := by
          rcases Nat.lt_or_ge b w.heap.size with h | h
          · exact h
          · rw [Array.getElem?_eq_none h] at ho; cases ho
        refine cells_base hblk ho fun j v hj => ?_
        have hjn : j < n := by
          rcases Nat.lt_or_ge j n with h | h
          · exact h
          · rw [List.getElem?_eq_none (by omega)] at hj; cases hj
        have := g4 j hjn
        rw [add_at, hj] at this
        simp only [World.cell?, ho] at this
        simpa using this
      · cases h00
    · obtain ⟨i, hi⟩ := List.getElem?_of_mem hy
      exact (h2 i y hi).2
end reads

theorem i64_min : IntKind.min .i64 = -9223372036854775808 := by decide
theorem i64_max : IntKind.max .i64 = 9223372036854775807 := by decide
theorem u64_min : IntKind.min .u64 = 0 := by decide
theorem u64_max : IntKind.max .u64 = 18446744073709551615 := by decide
theorem u8_min : IntKind.min .u8 = 0 := by decide
theorem u8_max : IntKind.max .u8 = 255 := by decide
theorem cells_get {W0 : World} {H : SHeap} {b off : Nat} {vs : List Value} (h : Cells W0 H b off vs) (i : Nat) {v : Value} (hv : vs[i]? = some v) : Cells W0 H b (off + i) [v] := by
  obtain ⟨c, e, fz, h1, h2⟩ := h
  refine ⟨c, e, fz, h1, fun j u hj => ?_⟩
  cases j with
  | zero => simp at hj; subst hj; exact h2 i v hv
  | succ j => simp at hj
end Go.Proofs.Ytlhmoojffopheaa.Sym
