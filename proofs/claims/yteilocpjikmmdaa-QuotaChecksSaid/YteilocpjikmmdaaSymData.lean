/- Slices whose elements are read as data, and how arguments are opened. -/
import Derived.Test.YteilocpjikmmdaaSymRow
import Derived.Deep.Slices
namespace Go.Proofs.Yteilocpjikmmdaa.Sym
open Go.RowKit (Below)
open Go.ChangeShapes Go.WideShapes Go.ChangeAt Go.RowKit
set_option linter.unusedVariables false
set_option linter.unusedSimpArgs false

/-- A slice that reads as the list xs: n cells an element. -/
structure SlV {α : Type} (W0 : World) (H : SHeap) (n : Nat) (enc : α → List Value) (a : Option Addr) (cap : Nat) (xs : List α) : Prop where
  le : xs.length ≤ cap
  capb : cap ≤ 9223372036854775807
  at_ : ∀ i x, xs[i]? = some x → ∃ b off, a = some ⟨b, off, none⟩ ∧ Cells W0 H b (off + i * n) (enc x)

section
variable {P : Program} {W0 : World} {F : Fm} {H : SHeap} {ro : Option Nat} {d : Option Tmp} {ty : TypeId} {pos : String} {af : Array Edge} {g : Option (Nat × Bool)} {t t' : TypeId} {x y : Operand}
theorem x_indexAddrV {e : TypeId} {b off len cap n : Nat} {a : Option Addr} {k : IntKind} {i : Int} (h : P.underlying t = some (.slice e)) (hs : szOf P e = some n) (hx : val F x = some (.slice a len cap)) (ha : a = some ⟨b, off, none⟩) (hy : val F y = some (.int k i)) (h0 : 0 ≤ i) (hi : i < len) :
    Rd P W0 F H ⟨d, .indexAddr t x y, ty, pos, af, g⟩ (.pointer (some ⟨b, off + i.toNat * n, none⟩)) := by subst ha; exact x_indexAddr h hs hx hy h0 hi

/-- The same at a place in Nat. -/
theorem x_indexAddrN {e : TypeId} {b off len cap n : Nat} {a : Option Addr} {k : IntKind} {i : Int} (j : Nat) (h : P.underlying t = some (.slice e)) (hs : szOf P e = some n) (hx : val F x = some (.slice a len cap)) (ha : a = some ⟨b, off, none⟩) (hy : val F y = some (.int k i)) (hj : i = (j : Int)) (hi : j < len) :
    Rd P W0 F H ⟨d, .indexAddr t x y, ty, pos, af, g⟩ (.pointer (some ⟨b, off + j * n, none⟩)) := by
  subst hj; subst ha; exact x_indexAddr h hs hx hy (by omega) (by omega)
end

theorem SlV.take {α : Type} {W0 : World} {H : SHeap} {n : Nat} {enc : α → List Value} {a : Option Addr} {cap : Nat} {xs : List α} (h : SlV W0 H n enc a cap xs) (k : Nat) : SlV W0 H n enc a cap (xs.take k) :=
  ⟨by have := h.le; have := List.length_take_le k xs; have := List.length_take_le' k xs; omega, h.capb, fun i x hx => by
    rw [List.getElem?_take] at hx
    split at hx
    · exact h.at_ i x hx
    · cases hx⟩
theorem SlV.any {α : Type} {W0 : World} {n : Nat} {enc : α → List Value} {a : Option Addr} {cap : Nat} {xs : List α} (h : ∀ H, SlV W0 H n enc a cap xs) {H : SHeap} : SlV W0 H n enc a cap xs := h H
theorem slv_nil {α : Type} {W0 : World} {H : SHeap} {n : Nat} {enc : α → List Value} : SlV W0 H n enc none 0 ([] : List α) := ⟨by simp, by simp, by simp⟩

theorem choose_list {α : Type} {p : Nat → α → Prop} : ∀ n : Nat, (∀ i, i < n → ∃ a, p i a) → ∃ l : List α, l.length = n ∧ ∀ i a, l[i]? = some a → p i a
  | 0, _ => ⟨[], rfl, by simp⟩
  | n + 1, h => by
    obtain ⟨l, h1, h2⟩ := choose_list n fun i hi => h i (by omega)
    obtain ⟨a, ha⟩ := h n (by omega)
    refine ⟨l ++ [a], by simp [h1], fun i b hb => ?_⟩
    rw [List.getElem?_append] at hb
    split at hb
    · exact h2 i b hb
    · next hi =>
      have e : i = n := by
        rcases Nat.lt_or_ge (i - l.length) 1 with h | h
        · omega
        · rw [List.getElem?_eq_none (by simpa using h)] at hb; cases hb
      subst e; rw [h1] at hb; simp at hb; subst hb; exact ha

section reads
variable {H : Type} {enc : TypeId × Value → H} {P : Program} {w : World} {base : Nat} {spare : Nat → Bool} {held : Bool} {fuel : Nat} {t : TypeId} {cs : List Value} {x : DataW H × List MemPlace}
theorem read_struct {fs : Array Field} (ht : P.underlying t = some (.struct fs)) (h : DataW.trod enc P w base spare held fuel t cs = some x) :
    cs.length = P.cellsOf t ∧ ∃ n, ∀ (i : Nat) (f : Field), fs[i]? = some f → ∃ y, DataW.trod enc P w base spare held n f.type ((cs.drop f.offset).take (P.cellsOf f.type)) = some y := by
  obtain ⟨xs, n, _, _, h1, h2, h3⟩ := DataW.trod_struct ht h
  refine ⟨h1, n, fun i f hf => ?_⟩
  have hi : i < fs.size := by
    rcases Nat.lt_or_ge i fs.size with h | h
    · exact h
    · simp [Array.getElem?_eq_none h] at hf
  rw [h3 i f hf]
  exact ⟨xs[i]'(by omega), List.getElem?_eq_getElem (by omega)⟩
theorem one_of {cs : List Value} {off : Nat} {v : Value} (h : (cs.drop off).take 1 = [v]) : cs[off]? = some v := by
  have := congrArg (·[0]?) h
  simpa using this
theorem kbounds {k : IntKind} {n : Int} (h : (Lit.int k n).wf = true) : k.min ≤ n ∧ n ≤ k.max := by simpa [Lit.wf] using h
theorem read_int {k : IntKind} {off : Nat} (ht : P.underlying t = some (.int k)) (hc : P.cellsOf t = 1) (h : ∃ y, DataW.trod enc P w base spare held fuel t ((cs.drop off).take (P.cellsOf t)) = some y) : ∃ n, cs[off]? = some (.int k n) ∧ k.min ≤ n ∧ n ≤ k.max := by
  obtain ⟨y, h⟩ := h
  obtain ⟨n, h1, _, h2⟩ := DataW.trod_int ht h
  rw [hc] at h1
  exact ⟨n, one_of h1, kbounds h2⟩
theorem read_bool {off : Nat} (ht : P.underlying t = some .bool) (hc : P.cellsOf t = 1) (h : ∃ y, DataW.trod enc P w base spare held fuel t ((cs.drop off).take (P.cellsOf t)) = some y) : ∃ b, cs[off]? = some (.bool b) := by
  obtain ⟨y, h⟩ := h
  obtain ⟨n, h1, _⟩ := DataW.trod_bool ht h
  rw [hc] at h1
  exact ⟨n, one_of h1⟩
theorem read_str {off : Nat} (ht : P.underlying t = some .string) (hc : P.cellsOf t = 1) (h : ∃ y, DataW.trod enc P w base spare held fuel t ((cs.drop off).take (P.cellsOf t)) = some y) : ∃ s : ByteArray, cs[off]? = some (.string s) ∧ s.size ≤ maxLen := by
  obtain ⟨y, h⟩ := h
  obtain ⟨n, h1, _, h2⟩ := DataW.trod_string ht h
  rw [hc] at h1
  exact ⟨n, one_of h1, h2⟩
/-- A slice, opened, its elements read by a reader of one's own. -/
theorem read_slice {α : Type} {e : TypeId} {n : Nat} {en : α → List Value} {Ok : α → Prop} (ht : P.underlying t = some (.slice e)) (hn : P.cellsOf e = n) (hn0 : 0 < n)
    (rd : ∀ fuel cs x, DataW.trod enc P w base spare held fuel e cs = some x → ∃ a, cs = en a ∧ Ok a) (h : DataW.trod enc P w base spare held fuel t cs = some x) :
    ∃ a cap xs, cs = [.slice a xs.length cap] ∧ (∀ G, SlV w G n en a cap xs) ∧ ∀ y ∈ xs, Ok y := by
  rcases Go.Deep.open_slice ht h with ⟨rfl, _⟩ | ⟨a, len, cap, m, n', D, Pl, rfl, hbase, hl, hm, hmm, _, hel⟩
  · exact ⟨none, 0, [], rfl, fun G => slv_nil, by simp⟩
  · have hle : len ≤ m := by rw [hmm]; split <;> omega
    obtain ⟨xs, h1, h2⟩ := choose_list (p := fun i y => w.cells? base (a.add (i * n)) n = some (en y) ∧ Ok y) len fun i hi => by
      obtain ⟨cs', g1, g2⟩ := hel i (by omega)
      obtain ⟨y, rfl, hy⟩ := rd _ _ _ g2
      rw [hn] at g1
      exact ⟨y, g1, hy⟩
    subst h1
    refine ⟨some a, cap, xs, rfl, fun G => ⟨hl, by unfold maxLen at hm; omega, fun i y hy => ?_⟩, fun y hy => ?_⟩
    · have hi : i < xs.length := by
        rcases Nat.lt_or_ge i xs.length with h | h
        · exact h
        · rw [List.getElem?_eq_none h] at hy; cases hy
      obtain ⟨y0, hy0⟩ : ∃ y0, xs[0]? = some y0 := ⟨xs[0]'(by omega), List.getElem?_eq_getElem (by omega)⟩
      obtain ⟨b, off, spot⟩ := a
      have hs : spot = none := by
        obtain ⟨g1, _⟩ := h2 0 y0 hy0
        obtain ⟨_, g3, g4⟩ := World.cells?_some g1
        have := g4 0 hn0
        simp only [Nat.zero_mul, Addr.add, if_true, World.cell?] at this
        rw [List.getElem?_eq_getElem (by omega)] at this
        split at this
        · cases spot with
          | none => rfl
          | some s => simp at this
        · cases this
      subst hs
      obtain ⟨g1, _⟩ := h2 i y hy
      obtain ⟨_, g3, g4⟩ := World.cells?_some g1
      rw [add_at] at g1 g4
      refine ⟨b, off, rfl, ?_⟩
      have h00 := g4 0 hn0
      rw [List.getElem?_eq_getElem (by omega)] at h00
      simp only [add_at, World.cell?] at h00
      split at h00
      · next c et fz ho =>
        have hblk : b < w.heap.size := by
          rcases Nat.lt_or_ge b w.heap.size with h | h
          · exact h
          · rw [Array.getElem?_eq_none h] at ho; cases ho
        refine cells_base hblk ho fun j v hj => ?_
        have hjn : j < n := by
          rcases Nat.lt_or_ge j n with h | h
          · exact h
          · rw [List.getElem?_eq_none (by omega)] at hj; cases hj
        have := g4 j hjn
        rw [add_at, hj] at this
        simp only [World.cell?, ho] at this
        simpa using this
      · cases h00
    · obtain ⟨i, hi⟩ := List.getElem?_of_mem hy
      exact (h2 i y hi).2
end reads

theorem i64_min : IntKind.min .i64 = -9223372036854775808 := by decide
theorem i64_max : IntKind.max .i64 = 9223372036854775807 := by decide
theorem u64_min : IntKind.min .u64 = 0 := by decide
theorem u64_max : IntKind.max .u64 = 18446744073709551615 := by decide
theorem u8_min : IntKind.min .u8 = 0 := by decide
theorem u8_max : IntKind.max .u8 = 255 := by decide
theorem cells_get {W0 : World} {H : SHeap} {b off : Nat} {vs : List Value} (h : Cells W0 H b off vs) (i : Nat) {v : Value} (hv : vs[i]? = some v) : Cells W0 H b (off + i) [v] := by
  obtain ⟨c, e, fz, h1, h2⟩ := h
  refine ⟨c, e, fz, h1, fun j u hj => ?_⟩
  cases j with
  | zero => simp at hj; subst hj; exact h2 i v hv
  | succ j => simp at hj

theorem Cells.mono {W0 : World} {H G : SHeap} {b off : Nat} {vs : List Value} (h : Cells W0 H b off vs) (hs : Sub H G) : Cells W0 G b off vs := by
  obtain ⟨c, e, fz, h1, h2⟩ := h
  refine ⟨c, e, fz, fun hw => ?_, h2⟩
  have := h1 (wf_sub hs hw)
  unfold objAt at this ⊢
  split at this
  · next hb => rw [if_pos hb]; exact this
  · next hb =>
    rw [if_neg hb]
    obtain ⟨E, hE⟩ := hs
    exact find_of_mem hw.1 (hE.mem_iff.1 (List.mem_append_left _ (find_mem this)))
theorem SlV.mono {α : Type} {W0 : World} {H G : SHeap} {n : Nat} {enc : α → List Value} {a : Option Addr} {cap : Nat} {xs : List α} (h : SlV W0 H n enc a cap xs) (hs : Sub H G) : SlV W0 G n enc a cap xs :=
  ⟨h.le, h.capb, fun i x hx => let ⟨b, off, h1, h2⟩ := h.at_ i x hx; ⟨b, off, h1, h2.mono hs⟩⟩

section bits
variable {P : Program} {W0 : World} {F : Fm} {H : SHeap} {d : Option Tmp} {ty : TypeId} {pos : String} {af : Array Edge} {g : Option (Nat × Bool)} {t t' : TypeId} {x y : Operand} {a b : Int}
theorem ofInt64 {a : Int} (h0 : 0 ≤ a) (h1 : a ≤ 18446744073709551615) : (BitVec.ofInt 64 a).toNat = a.toNat := by
  obtain ⟨n, rfl⟩ := Int.eq_ofNat_of_zero_le h0
  rw [BitVec.ofInt_natCast, BitVec.toNat_ofNat]
  exact Nat.mod_eq_of_lt (by omega)
theorem x_andU (hx : val F x = some (.int .u64 a)) (hy : val F y = some (.int .u64 b)) (ha : 0 ≤ a ∧ a ≤ 18446744073709551615) (hb : 0 ≤ b ∧ b ≤ 18446744073709551615) : Rd P W0 F H ⟨d, .binOp .and t x y t', ty, pos, af, g⟩ (.int .u64 ((a.toNat &&& b.toNat : Nat) : Int)) := by
  have h := x_and (P := P) (W0 := W0) (F := F) (H := H) (d := d) (ty := ty) (pos := pos) (af := af) (g := g) (t := t) (t' := t') hx hy
  have e : IntKind.u64.wrap ((BitVec.ofInt IntKind.u64.bits a &&& BitVec.ofInt IntKind.u64.bits b).toNat : Nat) = ((a.toNat &&& b.toNat : Nat) : Int) := by
    show IntKind.u64.wrap ((BitVec.ofInt 64 a &&& BitVec.ofInt 64 b).toNat : Nat) = _
    rw [BitVec.toNat_and, ofInt64 ha.1 ha.2, ofInt64 hb.1 hb.2]
    have := Nat.and_le_left (n := a.toNat) (m := b.toNat)
    exact u64w (by omega) (by omega)
  rw [e] at h; exact h
theorem x_shrU (hx : val F x = some (.int .u64 a)) (hy : val F y = some (.int .i64 b)) (ha : 0 ≤ a) (hb : 0 ≤ b ∧ b < 64) : Rd P W0 F H ⟨d, .binOp .shr t x y t', ty, pos, af, g⟩ (.int .u64 ((a.toNat >>> b.toNat : Nat) : Int)) := by
  have h := x_shr (P := P) (W0 := W0) (F := F) (H := H) (d := d) (ty := ty) (pos := pos) (af := af) (g := g) (t := t) (t' := t') hx hy hb.1
  have e : a.fdiv (2 ^ (min b.toNat IntKind.u64.bits)) = ((a.toNat >>> b.toNat : Nat) : Int) := by
    have : min b.toNat IntKind.u64.bits = b.toNat := by show min b.toNat 64 = _; omega
    rw [this, Nat.shiftRight_eq_div_pow]
    obtain ⟨n, rfl⟩ := Int.eq_ofNat_of_zero_le ha
    rw [Int.fdiv_eq_ediv_of_nonneg _ (by have : (0:Int) < 2 ^ b.toNat := Int.pow_pos (by omega); omega)]
    simp
  rw [e] at h; exact h
end bits

/-! ### rows of one's own that are written at a place -/
theorem spl_set : ∀ {cs : List Value} {i : Nat} {v : Value}, i < cs.length → Spl cs i [v] (cs.set i v)
  | _ :: cs, 0, v, _ => .put .done
  | _ :: cs, i + 1, v, h => .skip (spl_set (by simpa using h))
  | [], _, _, h => by simp at h
theorem spl_skip {cs cs' vs : List Value} {k : Nat} : ∀ {pre : List Value}, Spl cs k vs cs' → Spl (pre ++ cs) (pre.length + k) vs (pre ++ cs')
  | [], h => by simpa using h
  | p :: pre, h => by
    have := spl_skip (pre := pre) h
    rw [List.length_cons, Nat.add_right_comm]
    exact .skip this
theorem spl_pre {post : List Value} : ∀ {cs vs : List Value}, cs.length = vs.length → Spl (cs ++ post) 0 vs (vs ++ post)
  | [], [], _ => .done
  | _ :: cs, _ :: vs, h => .put (spl_pre (by simpa using h))
  | [], _ :: _, h => by simp at h
  | _ :: _, [], h => by simp at h
theorem spl_flat {α : Type} {n : Nat} {enc : α → List Value} (hn : ∀ x, (enc x).length = n) : ∀ {xs : List α} {post : List Value} {i : Nat} {x : α}, i < xs.length → Spl (xs.flatMap enc ++ post) (i * n) (enc x) ((xs.set i x).flatMap enc ++ post)
  | y :: xs, post, 0, x, _ => by
    rw [Nat.zero_mul, List.set_cons_zero, List.flatMap_cons, List.flatMap_cons, List.append_assoc, List.append_assoc]
    exact spl_pre (by rw [hn, hn])
  | y :: xs, post, i + 1, x, h => by
    have := spl_flat hn (post := post) (x := x) (show i < xs.length by simpa using h)
    rw [List.set_cons_succ, List.flatMap_cons, List.flatMap_cons, List.append_assoc, List.append_assoc, Nat.add_mul, Nat.one_mul, Nat.add_comm]
    have h2 := spl_skip (pre := enc y) this
    rwa [hn] at h2
  | [], _, _, _, h => by simp at h
theorem flat_len {α : Type} {n : Nat} {enc : α → List Value} (hn : ∀ x, (enc x).length = n) (xs : List α) : (xs.flatMap enc).length = xs.length * n := by
  induction xs with
  | nil => simp
  | cons x xs ih => rw [List.flatMap_cons, List.length_append, hn, ih, List.length_cons, Nat.add_mul, Nat.one_mul, Nat.add_comm]
/-- An element of a row of one's own. -/
theorem cells_flat {α : Type} {n : Nat} {enc : α → List Value} (hn : ∀ x, (enc x).length = n) {W0 : World} {H : SHeap} {b : Nat} {e : TypeId} {fz : Nat × Nat} {xs : List α} {post : List Value} (hm : (b, Obj.cells (xs.flatMap enc ++ post).toArray e fz) ∈ H) {i : Nat} {x : α} (hx : xs[i]? = some x) : Cells W0 H b (i * n) (enc x) := by
  have hi : i < xs.length := by
    rcases Nat.lt_or_ge i xs.length with h | h
    · exact h
    · rw [List.getElem?_eq_none h] at hx; cases hx
  have hsp : xs.flatMap enc ++ post = (xs.take i).flatMap enc ++ (enc x ++ ((xs.drop (i + 1)).flatMap enc ++ post)) := by
    have h1 : xs = xs.take i ++ x :: xs.drop (i + 1) := by
      have h2 : xs[i] = x := by rw [List.getElem?_eq_getElem hi] at hx; simpa using hx
      rw [← h2, ← List.drop_eq_getElem_cons hi, List.take_append_drop]
    conv => lhs; rw [h1]
    rw [List.flatMap_append, List.flatMap_cons]; simp
  rw [hsp] at hm
  exact cells_own hm (by rw [flat_len hn, List.length_take, Nat.min_eq_left (by omega)])

section made
variable {P : Program} {W0 : World} {F : Fm} {H : SHeap} {d : Option Tmp} {ty : TypeId} {pos : String} {af : Array Edge} {g : Option (Nat × Bool)} {t t' : TypeId} {x y : Operand}
def bytesOf (P : Program) (t : TypeId) : Option Nat := (P.info? t).map (·.bytes)
theorem x_makeSlice {e : TypeId} {z : Value} {n : Int} {by_ : Nat} {k k' : IntKind} (hu : P.underlying t = some (.slice e)) (hs : szOf P e = some 1) (hz : zeroOf P e = some z) (hzc : z.cells = #[z]) (hby : bytesOf P e = some by_) (hx : val F x = some (.int k n)) (hy : val F y = some (.int k' n)) (h0 : 0 ≤ n) (hb : by_ * n ≤ 281474976710656) (hn : n ≤ 9223372036854775807) (r : Nat) :
    Exec P W0 F H ⟨d, .makeSlice t x y, ty, pos, af, g⟩ (some r) (.slice (some ⟨r, 0, none⟩) n.toNat n.toNat) ((r, .cells (List.replicate n.toNat z).toArray e (0, 0)) :: H) := by
  refine ⟨by simp, by simp [Op.operands, some_of hx, some_of hy], fun hw => .inl (runSym_map _ _ ?_)⟩
  unfold bytesOf at hby
  obtain ⟨i, hi1, hi2⟩ := Option.map_eq_some_iff.1 hby
  have hti : rdSym P W0 H (typeInfo e) = some i := by unfold typeInfo; rw [rd_bind, rd_program]; simp [hi1, rd_pure]
  have hw1 : IntKind.i64.wrap n = n := i64w (by omega) hn
  simp only [Instr.makeSlice, ev_of hx, ev_of hy]
  rw [runSym_bind _ (rd_run _ (rd_underlying hu))]
  simp only []
  rw [runSym_bind _ (rd_run _ (show rdSym P W0 H (asInt (.int k n)) = some n from rfl))]
  rw [runSym_bind _ (rd_run _ (show rdSym P W0 H (asInt (.int k' n)) = some n from rfl))]
  rw [runSym_bind _ (rd_run _ hti)]
  simp only [hw1, hi2]
  have hc : ¬ ((decide (n < 0) || decide ((by_ : Int) * n > 2 ^ 48) || decide (n < 0) || decide (n > n)) = true) := by
    simp only [Bool.or_eq_true, decide_eq_true_eq]
    have h48 : (2 : Int) ^ 48 = 281474976710656 := by decide
    rw [h48]
    generalize (by_ : Int) * n = m at hb ⊢
    omega
  rw [if_neg (by simpa [or_assoc] using hc)]
  have har : runSym P W0 (askRoom (n.toNat * by_)) none H = some ((), H) := by
    unfold askRoom; split <;> rfl
  rw [runSym_bind _ har]
  rw [runSym_bind _ (rd_run _ (rd_sizeOf hs))]
  rw [Nat.mul_one]
  split
  · next h0 =>
    rw [runSym_bind _ (rd_run _ (rd_pure _)), h0]
    have h00 : ∀ f : Nat → Value, (Array.range 0).map f = (List.replicate 0 z).toArray := fun f => by simp
    rw [h00]; rfl
  · next h0 =>
    rw [runSym_bind _ (rd_run _ (rd_zero hz)), runSym_bind _ (rd_run _ (rd_pure _)), hzc]
    have hrep : (Array.range n.toNat).map (fun i => (#[z] : Array Value)[i % (#[z] : Array Value).size]!) = (List.replicate n.toNat z).toArray := by
      apply Array.toList_inj.1
      rw [Array.toList_map, Array.toList_range]
      apply List.ext_getElem
      · simp
      · intro i h1 h2; simp [Nat.mod_one]
    rw [hrep]; rfl

def b2sStep (c : Value) (s : ByteArray) : Sem (ForInStep ByteArray) :=
  match c with
  | .int .u8 n => Pure.pure (ForInStep.yield (s.push (UInt8.ofNat n.toNat)))
  | _ => do
    stuck "bytesToString: byte expected"
    Pure.pure (ForInStep.yield s)
theorem rd_b2s : ∀ (bs : List UInt8) (s : ByteArray), rdSym P W0 H (forIn (bs.map fun c : UInt8 => Value.int .u8 c.toNat) s b2sStep) = some ⟨(s.data.toList ++ bs).toArray⟩
  | [], s => by simp [rd_pure]
  | c :: bs, s => by
    rw [List.map_cons, List.forIn_cons, rd_bind]
    simp only [b2sStep, rd_pure, Option.bind_some]
    rw [rd_b2s bs]
    congr 2
    simp [ByteArray.push]
/-- Bytes as a string. -/
theorem x_b2s {t2 e : TypeId} {b off n cap : Nat} {bs : List UInt8} (h1 : P.underlying t = some (.slice e)) (h2 : P.underlying t2 = some .string) (he : P.underlying e = some (.int .u8)) (hx : val F x = some (.slice (some ⟨b, off, none⟩) n cap)) (hc : Cells W0 H b off (bs.map fun c : UInt8 => .int .u8 c.toNat)) (hn : bs.length = n) :
    Rd P W0 F H ⟨d, .convert t t2 x, ty, pos, af, g⟩ (.string ⟨bs.toArray⟩) :=
  exec_rd (by simp) (by simp [Op.operands, some_of hx]) fun hw => by
    have hl := rd_loadCells (P := P) hw hc (n := n) (by simp [hn])
    simp only [execOp, ev_of hx, convert, rd_bind, rd_underlying h1, rd_underlying h2, Option.bind_some, rd_underlying he, Conv.bytesToString, hl]
    have h3 := rd_b2s (P := P) (W0 := W0) (H := H) bs ByteArray.empty
    change (((rdSym P W0 H (forIn (List.map (fun c : UInt8 => Value.int .u8 c.toNat) bs).toArray ByteArray.empty b2sStep)).bind fun x => rdSym P W0 H (Pure.pure (Value.string x))).bind fun x => rdSym P W0 H (Pure.pure (Next.value x))) = _
    rw [List.forIn_toArray, h3]
    simp [rd_pure]
end made
end Go.Proofs.Yteilocpjikmmdaa.Sym
