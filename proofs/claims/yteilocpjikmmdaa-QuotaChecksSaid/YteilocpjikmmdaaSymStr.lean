/- Strings: what comparing, joining and converting them comes to; structs that are compared. -/
import Derived.Test.YteilocpjikmmdaaSymData
import Derived.Laws.Strings
namespace Go.Proofs.Yteilocpjikmmdaa.Sym
set_option linter.unusedVariables false
set_option linter.unusedSimpArgs false
section
variable {P : Program} {W0 : World} {F : Fm} {H : SHeap} {ro : Option Nat} {d : Option Tmp} {ty : TypeId} {pos : String} {af : Array Edge} {g : Option (Nat × Bool)} {t t' : TypeId} {x y : Operand} {a b : ByteArray}
theorem eqGuard_str {op : BinOp} : eqGuard op t x y (.string a) (.string b) = Pure.pure () := by unfold eqGuard; cases op <;> rfl
theorem exec_binS {op : BinOp} {v : Value} (hx : val F x = some (.string a)) (hy : val F y = some (.string b)) (h : rdSym P W0 H (binOp op t (.string a) (.string b)) = some v) : Rd P W0 F H ⟨d, .binOp op t x y t', ty, pos, af, g⟩ v :=
  exec_rd (by simp) (by simp [Op.operands, some_of hx, some_of hy]) fun _ => by
    simp only [execOp, ev_of hx, ev_of hy, eqGuard_str, rd_bind, rd_pure, Option.bind_some, h]
theorem str_eq : (a.toList == b.toList) = decide (a = b) := by
  rw [ByteArray.toList_eq, ByteArray.toList_eq]
  have : (a.data.toList == b.data.toList) = decide (a.data.toList = b.data.toList) := by
    rw [Bool.eq_iff_iff]; simp
  rw [this]
  congr 1
  rw [Array.toList_inj, ByteArray.ext_iff]
theorem x_eqS (hx : val F x = some (.string a)) (hy : val F y = some (.string b)) : Rd P W0 F H ⟨d, .binOp .eql t x y t', ty, pos, af, g⟩ (.bool (decide (a = b))) :=
  exec_binS hx hy (by simp only [binOp, Op.stringOp, str_eq]; rfl)
theorem x_neS (hx : val F x = some (.string a)) (hy : val F y = some (.string b)) : Rd P W0 F H ⟨d, .binOp .neq t x y t', ty, pos, af, g⟩ (.bool (decide (a ≠ b))) :=
  exec_binS hx hy (by simp only [binOp, Op.stringOp, str_eq, decide_not]; rfl)
theorem x_cat (hx : val F x = some (.string a)) (hy : val F y = some (.string b)) (hs : a.size + b.size ≤ 9223372036854775807) : Rd P W0 F H ⟨d, .binOp .add t x y t', ty, pos, af, g⟩ (.string (a ++ b)) :=
  exec_binS hx hy (by
    simp only [binOp, Op.stringOp]
    rw [if_neg (by have : IntKind.i64.max = 9223372036854775807 := by decide
                   omega)]; rfl)
theorem x_convS {t1 t2 : TypeId} (h1 : P.underlying t1 = some .string) (h2 : P.underlying t2 = some .string) (hx : val F x = some (.string a)) : Rd P W0 F H ⟨d, .convert t1 t2 x, ty, pos, af, g⟩ (.string a) :=
  exec_rd (by simp) (by simp [Op.operands, some_of hx]) fun _ => by
    simp only [execOp, ev_of hx, convert, rd_bind, rd_underlying h1, rd_underlying h2, Option.bind_some]; rfl
end
/-- A row of one's own, as a slice. -/
theorem slv_own {α : Type} {n : Nat} {enc : α → List Value} {W0 : World} {H : SHeap} {r : Nat} {e : TypeId} {fz : Nat × Nat} {xs : List α} {post : List Value} {cap : Nat} (hn : ∀ x, (enc x).length = n) (hm : (r, Obj.cells (xs.flatMap enc ++ post).toArray e fz) ∈ H) (hle : xs.length ≤ cap := by decide) (hcb : cap ≤ 9223372036854775807 := by decide) : SlV W0 H n enc (some ⟨r, 0, none⟩) cap xs :=
  ⟨hle, hcb, fun i x hx => ⟨r, 0, rfl, by rw [Nat.zero_add]; exact cells_flat hn hm hx⟩⟩

/-! ### structs of numbers, bools and strings, compared -/
inductive FK | int | bool | str
def sEq : Value → Value → Bool
  | .int _ a, .int _ b => decide (a = b)
  | .bool a, .bool b => decide (a = b)
  | .string a, .string b => decide (a = b)
  | _, _ => false
def eqC : List Value → List Value → Bool
  | x :: xs, y :: ys => sEq x y && eqC xs ys
  | _, _ => true
def fitsK : List FK → List Value → List Value → Bool
  | [], _, _ => true
  | .int :: ks, .int k _ :: xs, .int k' _ :: ys => decide (k = k') && fitsK ks xs ys
  | .bool :: ks, .bool _ :: xs, .bool _ :: ys => fitsK ks xs ys
  | .str :: ks, .string _ :: xs, .string _ :: ys => fitsK ks xs ys
  | _, _, _ => false
def kindOf (P : Program) (t : TypeId) : Option FK :=
  if aggOf P t = some false then
    match P.underlying t with
    | some (.int _) => some .int
    | some .bool => some .bool
    | some .string => some .str
    | _ => none
  else none
def kindsL (P : Program) : Nat → List Field → Option (List FK)
  | _, [] => some []
  | i, f :: fs => if f.offset = i ∧ f.name ≠ "_" then (kindOf P f.type).bind fun k => (kindsL P (i + 1) fs).map (k :: ·) else none
def kindsOf (P : Program) (t : TypeId) : Option (List FK) :=
  match P.underlying t with
  | some (.struct fs) => if P.stoodInHeld t || P.eqGuardType P.depth t then none else kindsL P 0 fs.toList
  | _ => none
def eqStep (d : Nat) (xs ys : Array Value) (f : Field) (r : Option Bool × Unit) : Sem (ForInStep (Option Bool × Unit)) :=
  if f.name ≠ "_" then do
    if !(← Op.equalIn d f.type (← part f.type xs f.offset) (← part f.type ys f.offset)) then Pure.pure (ForInStep.done (some false, ()))
    else Pure.pure (ForInStep.yield (none, ()))
  else Pure.pure (ForInStep.yield (none, ()))
section
variable {P : Program} {W0 : World} {F : Fm} {H : SHeap} {ro : Option Nat} {d : Option Tmp} {ty : TypeId} {pos : String} {af : Array Edge} {g : Option (Nat × Bool)} {t t' : TypeId} {x y : Operand}
theorem byte_beq {a b : ByteArray} : (a == b) = true ↔ a = b := by
  cases a; cases b
  simp only [BEq.beq, ByteArray.mk.injEq]
  first | exact beq_iff_eq | exact decide_eq_true_iff | simp
theorem rd_eqIn {k : FK} {u : TypeId} {n : Nat} {v w : Value} (hk : kindOf P u = some k) (hf : fitsK [k] [v] [w] = true) : rdSym P W0 H (Op.equalIn (n + 1) u v w) = some (sEq v w) := by
  unfold kindOf at hk
  split at hk
  · next ha =>
    split at hk
    · next q hu =>
      cases hk
      cases v <;> cases w <;> simp only [fitsK, Bool.and_eq_true, decide_eq_true_eq, Bool.false_eq_true] at hf
      obtain ⟨rfl, _⟩ := hf
      unfold Op.equalIn; rw [rd_bind, rd_underlying hu]
      simp only [Option.bind_some, if_true, rd_pure, sEq]; rfl
    · next hu =>
      cases hk
      cases v <;> cases w <;> simp only [fitsK, Bool.false_eq_true] at hf
      unfold Op.equalIn; rw [rd_bind, rd_underlying hu]
      simp only [Option.bind_some, rd_pure, sEq]; congr 1
    · next hu =>
      cases hk
      cases v <;> cases w <;> simp only [fitsK, Bool.false_eq_true] at hf
      unfold Op.equalIn; rw [rd_bind, rd_underlying hu]
      simp only [Option.bind_some, rd_pure, sEq]
      congr 1
      rename_i a b _
      rw [Bool.eq_iff_iff, decide_eq_true_iff]
      exact byte_beq
    · cases hk
  · cases hk
theorem kind_agg {k : FK} {u : TypeId} (hk : kindOf P u = some k) : aggOf P u = some false := by
  unfold kindOf at hk
  split at hk
  · assumption
  · cases hk
theorem rd_eqLoop {n : Nat} {ys : List Value} : ∀ (fs : List Field) (i : Nat) (ks : List FK) (xs' ys' pre pre' : List Value), kindsL P i fs = some ks → pre.length = i → pre'.length = i → fitsK ks xs' ys' = true →
    xs'.length = fs.length → ys'.length = fs.length →
    rdSym P W0 H (forIn fs ((none, ()) : Option Bool × Unit) (eqStep (n + 1) (pre ++ xs').toArray (pre' ++ ys').toArray)) = some (if eqC xs' ys' then none else some false, ())
  | [], i, ks, xs', ys', pre, pre', hk, h1, h2, hf, l1, l2 => by
    have e1 : xs' = [] := List.length_eq_zero_iff.1 l1
    subst e1
    simp [rd_pure, eqC]
  | f :: fs, i, ks, xs', ys', pre, pre', hk, h1, h2, hf, l1, l2 => by
    match xs', ys', l1, l2 with
    | v :: xs', w :: ys', l1, l2 =>
      unfold kindsL at hk
      split at hk
      · next hf1 =>
        obtain ⟨k, hk1, hk2⟩ := Option.bind_eq_some_iff.1 hk
        obtain ⟨ks', hk3, rfl⟩ := Option.map_eq_some_iff.1 hk2
        have hfit : fitsK [k] [v] [w] = true ∧ fitsK ks' xs' ys' = true := by
          cases k <;> cases v <;> cases w <;> simp only [fitsK, Bool.and_eq_true, decide_eq_true_eq, Bool.false_eq_true] at hf ⊢ <;> first | exact ⟨trivial, hf⟩ | exact ⟨⟨hf.1, trivial⟩, hf.2⟩
        rw [List.forIn_cons, rd_bind]
        have hp1 : (pre ++ v :: xs').toArray[f.offset]? = some v := by rw [hf1.1, ← h1]; simp
        have hp2 : (pre' ++ w :: ys').toArray[f.offset]? = some w := by rw [hf1.1, ← h2]; simp
        have hs : rdSym P W0 H (eqStep (n + 1) (pre ++ v :: xs').toArray (pre' ++ w :: ys').toArray f (none, ())) = some (if sEq v w then ForInStep.yield (none, ()) else ForInStep.done (some false, ())) := by
          unfold eqStep
          rw [if_pos hf1.2]
          simp only [rd_bind, rd_part1 (kind_agg hk1) hp1, rd_part1 (kind_agg hk1) hp2, Option.bind_some, rd_eqIn hk1 hfit.1]
          cases sEq v w <;> simp [rd_pure]
        rw [hs]
        simp only [Option.bind_some, eqC]
        by_cases hb : sEq v w = true
        · rw [if_pos hb]
          simp only [hb, Bool.true_and]
          have := rd_eqLoop (n := n) (ys := ys) fs (i + 1) ks' xs' ys' (pre ++ [v]) (pre' ++ [w]) hk3 (by simp [h1]) (by simp [h2]) hfit.2 (by simpa using l1) (by simpa using l2)
          simpa using this
        · rw [if_neg hb]
          simp [rd_pure, hb]
      · cases hk
theorem rd_equal_struct {ks : List FK} {xs ys : List Value} {fs : Array Field} (hu : P.underlying t = some (.struct fs)) (hk : kindsOf P t = some ks) (hf : fitsK ks xs ys = true) (l1 : xs.length = fs.size) (l2 : ys.length = fs.size) :
    rdSym P W0 H (Op.equal t (.agg xs.toArray) (.agg ys.toArray)) = some (eqC xs ys) ∧ ∀ op, rdSym P W0 H (eqGuard op t x y (.agg xs.toArray) (.agg ys.toArray)) = some () := by
  unfold kindsOf at hk
  rw [hu] at hk
  simp only at hk
  split at hk
  · cases hk
  · next hg =>
    simp only [Bool.or_eq_true, not_or, Bool.not_eq_true] at hg
    constructor
    · unfold Op.equal Op.maxDepth Op.equalIn
      rw [rd_bind, rd_underlying hu]
      simp only [Option.bind_some, rd_bind, rd_program, hg.1, Bool.false_eq_true, if_false]
      have h := rd_eqLoop (P := P) (W0 := W0) (H := H) (n := 9998) (ys := ys) fs.toList 0 ks xs ys [] [] hk rfl rfl hf (by simpa using l1) (by simpa using l2)
      rw [List.nil_append, List.nil_append] at h
      have h2 : rdSym P W0 H (forIn fs ((none, ()) : Option Bool × Unit) (eqStep 9999 xs.toArray ys.toArray)) = some (if eqC xs ys then none else some false, ()) := by
        rw [← Array.forIn_toList]; exact h
      change ((rdSym P W0 H (forIn fs ((none, ()) : Option Bool × Unit) (eqStep 9999 xs.toArray ys.toArray))).bind _) = _
      rw [h2]
      cases eqC xs ys <;> rfl
    · intro op
      unfold eqGuard
      cases op <;> simp [rd_pure, rd_bind, rd_program, hg.2]
theorem x_eqStruct {ks : List FK} {xs ys : List Value} {fs : Array Field} (hu : P.underlying t = some (.struct fs)) (hk : kindsOf P t = some ks) (hx : val F x = some (.agg xs.toArray)) (hy : val F y = some (.agg ys.toArray)) (hf : fitsK ks xs ys = true) (l1 : xs.length = fs.size) (l2 : ys.length = fs.size) :
    Rd P W0 F H ⟨d, .binOp .eql t x y t', ty, pos, af, g⟩ (.bool (decide (eqC xs ys = true))) := by
  have e : decide (eqC xs ys = true) = eqC xs ys := by simp
  rw [e]
  exact exec_eql hx hy ((rd_equal_struct hu hk hf l1 l2).2 _) rfl (rd_equal_struct (x := x) (y := y) hu hk hf l1 l2).1
theorem x_neStruct {ks : List FK} {xs ys : List Value} {fs : Array Field} (hu : P.underlying t = some (.struct fs)) (hk : kindsOf P t = some ks) (hx : val F x = some (.agg xs.toArray)) (hy : val F y = some (.agg ys.toArray)) (hf : fitsK ks xs ys = true) (l1 : xs.length = fs.size) (l2 : ys.length = fs.size) :
    Rd P W0 F H ⟨d, .binOp .neq t x y t', ty, pos, af, g⟩ (.bool (decide (eqC xs ys = false))) := by
  have e : decide (eqC xs ys = false) = !eqC xs ys := by cases eqC xs ys <;> rfl
  rw [e]
  exact exec_neq hx hy ((rd_equal_struct hu hk hf l1 l2).2 _) rfl (rd_equal_struct (x := x) (y := y) hu hk hf l1 l2).1
end
theorem get_ex {α : Type} {xs : List α} {i : Nat} (h : i < xs.length) : ∃ x, xs[i]? = some x := ⟨_, List.getElem?_eq_getElem h⟩
theorem get_lt {α : Type} {xs : List α} {i : Nat} {x : α} (h : xs[i]? = some x) : i < xs.length := (List.getElem?_eq_some_iff.1 h).1
section
variable {P : Program} {H : Type} {enc : TypeId × Value → H} {w : World} {base b0 : Nat} {spare : Nat → Bool} {held : Bool} {v : Value} {d : DataW H} {p : List MemPlace} {r : Reach} {t : TypeId}
theorem opn_int {k : IntKind} (ht : P.underlying t = some (.int k)) (hv : Value.okWide P w r b0 t v) (h : DataW.Trod enc P w base spare held t v d p) : ∃ n, v = .int k n ∧ k.min ≤ n ∧ n ≤ k.max := by
  obtain ⟨fuel, hf⟩ := h
  obtain ⟨n, h1, _, h2⟩ := DataW.trod_int ht hf
  obtain ⟨m, rfl⟩ := Go.WideShapes.okWide_int ht hv
  have h3 : [Value.int k m] = [.int k n] := h1
  injection h3 with h3 _
  injection h3 with _ h3
  subst h3
  exact ⟨m, rfl, kbounds h2⟩
theorem opn_bool (ht : P.underlying t = some .bool) (hv : Value.okWide P w r b0 t v) : ∃ b, v = .bool b := Go.WideShapes.okWide_bool ht hv
theorem opn_str (ht : P.underlying t = some .string) (hv : Value.okWide P w r b0 t v) (h : DataW.Trod enc P w base spare held t v d p) : ∃ s : ByteArray, v = .string s ∧ s.size ≤ maxLen := by
  obtain ⟨fuel, hf⟩ := h
  obtain ⟨n, h1, _, h2⟩ := DataW.trod_string ht hf
  obtain ⟨m, rfl⟩ := Go.WideShapes.okWide_string ht hv
  have h3 : [Value.string m] = [.string n] := h1
  injection h3 with h3 _
  injection h3 with h3
  subst h3
  exact ⟨m, rfl, h2⟩
set_option maxRecDepth 100000 in
theorem opn_slice {α : Type} {e : TypeId} {n : Nat} {en : α → List Value} {Ok : α → Prop} (ht : P.underlying t = some (.slice e)) (hn : P.cellsOf e = n) (hn0 : 0 < n)
    (rd : ∀ fuel cs x, DataW.trod enc P w base spare held fuel e cs = some x → ∃ a, cs = en a ∧ Ok a) (hv : Value.okWide P w r b0 t v) (h : DataW.Trod enc P w base spare held t v d p) :
    ∃ a cap xs, v = .slice a xs.length cap ∧ (∀ G, SlV w G n en a cap xs) ∧ ∀ y ∈ xs, Ok y := by
  obtain ⟨fuel, hf⟩ := h
  obtain ⟨a, cap, xs, h1, h2, h3⟩ := read_slice ht hn hn0 rd hf
  obtain ⟨a', len, cap', rfl⟩ := Go.WideShapes.okWide_slice ht hv
  have h4 : [Value.slice a' len cap'] = [.slice a xs.length cap] := h1
  exact ⟨a, cap, xs, (List.cons.inj h4).1, h2, h3⟩
end
end Go.Proofs.Yteilocpjikmmdaa.Sym
