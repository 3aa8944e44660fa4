/- Structs that hold structs, compared. -/
import Derived.Test.YteilocpjikmmdaaSymFresh
namespace Go.Proofs.Yteilocpjikmmdaa.Sym
set_option linter.unusedVariables false
set_option linter.unusedSimpArgs false
def kindsF (P : Program) (rec : TypeId → Option (List FK)) : Nat → List Field → Option (List FK)
  | _, [] => some []
  | i, f :: fs => if f.offset = i ∧ f.name ≠ "_" then
      if aggOf P f.type = some true then (rec f.type).bind fun ks => if szOf P f.type = some ks.length then (kindsF P rec (i + ks.length) fs).map (ks ++ ·) else none
      else (kindOf P f.type).bind fun k => (kindsF P rec (i + 1) fs).map (k :: ·)
    else none
def kindsN (P : Program) : Nat → TypeId → Option (List FK)
  | 0, _ => none
  | n + 1, t => match P.underlying t with
    | some (.struct fs) => if P.stoodInHeld t then none else kindsF P (kindsN P n) 0 fs.toList
    | _ => none
def kindsOfN (P : Program) (n : Nat) (t : TypeId) : Option (List FK) := if P.eqGuardType P.depth t then none else kindsN P n t
theorem fitsK_app : ∀ {k1 k2 : List FK} {xs ys : List Value}, xs.length = (k1 ++ k2).length → ys.length = (k1 ++ k2).length → fitsK (k1 ++ k2) xs ys = true →
    ∃ x1 x2 y1 y2, xs = x1 ++ x2 ∧ ys = y1 ++ y2 ∧ x1.length = k1.length ∧ y1.length = k1.length ∧ x2.length = k2.length ∧ y2.length = k2.length ∧ fitsK k1 x1 y1 = true ∧ fitsK k2 x2 y2 = true
  | [], k2, xs, ys, h1, h2, h => ⟨[], xs, [], ys, rfl, rfl, rfl, rfl, by simpa using h1, by simpa using h2, by unfold fitsK; rfl, h⟩
  | k :: k1, k2, [], ys, h1, h2, h => by simp at h1
  | k :: k1, k2, x :: xs, [], h1, h2, h => by simp at h2
  | k :: k1, k2, x :: xs, y :: ys, h1, h2, h => by
    have hs : fitsK [k] [x] [y] = true ∧ fitsK (k1 ++ k2) xs ys = true := by
      rw [List.cons_append] at h
      cases k <;> cases x <;> cases y <;> simp only [fitsK, Bool.and_eq_true, decide_eq_true_eq, Bool.false_eq_true] at h ⊢ <;> first | exact ⟨trivial, h⟩ | exact ⟨⟨h.1, trivial⟩, h.2⟩
    obtain ⟨x1, x2, y1, y2, rfl, rfl, a, b, c, d, e, f⟩ := fitsK_app (by simpa using h1) (by simpa using h2) hs.2
    refine ⟨x :: x1, x2, y :: y1, y2, rfl, rfl, by simp [a], by simp [b], c, d, ?_, f⟩
    have h3 := hs.1
    cases k <;> cases x <;> cases y <;> simp only [fitsK, Bool.and_eq_true, decide_eq_true_eq, Bool.false_eq_true] at h3 ⊢ <;> first | exact e | exact ⟨h3.1, e⟩
theorem eqC_app : ∀ {x1 x2 y1 y2 : List Value}, x1.length = y1.length → eqC (x1 ++ x2) (y1 ++ y2) = (eqC x1 y1 && eqC x2 y2)
  | [], x2, [], y2, _ => by simp [eqC]
  | x :: x1, x2, y :: y1, y2, h => by
    simp only [List.cons_append, eqC]
    rw [eqC_app (by simpa using h), Bool.and_assoc]
section
variable {P : Program} {W0 : World} {H : SHeap}
theorem rd_eqLoopN {m : Nat} {rec : TypeId → Option (List FK)} (hrec : ∀ u ks (xs ys : List Value), rec u = some ks → fitsK ks xs ys = true → xs.length = ks.length → ys.length = ks.length → rdSym P W0 H (Op.equalIn (m + 1) u (.agg xs.toArray) (.agg ys.toArray)) = some (eqC xs ys)) :
    ∀ (fs : List Field) (i : Nat) (ks : List FK) (xs' ys' pre pre' : List Value), kindsF P rec i fs = some ks → pre.length = i → pre'.length = i → fitsK ks xs' ys' = true → xs'.length = ks.length → ys'.length = ks.length →
    rdSym P W0 H (forIn fs ((none, ()) : Option Bool × Unit) (eqStep (m + 1) (pre ++ xs').toArray (pre' ++ ys').toArray)) = some (if eqC xs' ys' then none else some false, ())
  | [], i, ks, xs', ys', pre, pre', hk, h1, h2, hf, l1, l2 => by
    unfold kindsF at hk; cases hk
    have e1 : xs' = [] := List.length_eq_zero_iff.1 l1
    subst e1
    simp [rd_pure, eqC]
  | f :: fs, i, ks, xs', ys', pre, pre', hk, h1, h2, hf, l1, l2 => by
    unfold kindsF at hk
    split at hk
    · next hf1 =>
      split at hk
      · next ha =>
        obtain ⟨k1, hk1, hk2⟩ := Option.bind_eq_some_iff.1 hk
        split at hk2
        · next hsz =>
          obtain ⟨k2, hk3, rfl⟩ := Option.map_eq_some_iff.1 hk2
          obtain ⟨x1, x2, y1, y2, rfl, rfl, a, b, c, d, e, f2⟩ := fitsK_app l1 l2 hf
          rw [List.forIn_cons, rd_bind]
          have hp1 : ((pre ++ (x1 ++ x2)).drop f.offset).take k1.length = x1 := by rw [hf1.1, ← h1, List.drop_left, ← a, List.take_left]
          have hp2 : ((pre' ++ (y1 ++ y2)).drop f.offset).take k1.length = y1 := by rw [hf1.1, ← h2, List.drop_left, ← b, List.take_left]
          have hs : rdSym P W0 H (eqStep (m + 1) (pre ++ (x1 ++ x2)).toArray (pre' ++ (y1 ++ y2)).toArray f (none, ())) = some (if eqC x1 y1 then ForInStep.yield (none, ()) else ForInStep.done (some false, ())) := by
            unfold eqStep
            rw [if_pos hf1.2]
            simp only [rd_bind, rd_partN ha hsz hp1, rd_partN ha hsz hp2, Option.bind_some, hrec _ _ x1 y1 hk1 e a b]
            cases eqC x1 y1 <;> simp [rd_pure]
          rw [hs]
          simp only [Option.bind_some]
          rw [eqC_app (a.trans b.symm)]
          by_cases hb : eqC x1 y1 = true
          · rw [if_pos hb]
            simp only [hb, Bool.true_and]
            have := rd_eqLoopN hrec fs (i + k1.length) k2 x2 y2 (pre ++ x1) (pre' ++ y1) hk3 (by simp [h1, a]) (by simp [h2, b]) f2 c d
            simpa using this
          · rw [if_neg hb]
            simp [rd_pure, hb]
        · cases hk2
      · obtain ⟨k, hk1, hk2⟩ := Option.bind_eq_some_iff.1 hk
        obtain ⟨ks', hk3, rfl⟩ := Option.map_eq_some_iff.1 hk2
        match xs', ys', l1, l2, hf with
        | v :: xs', w :: ys', l1, l2, hf =>
          have hfit : fitsK [k] [v] [w] = true ∧ fitsK ks' xs' ys' = true := by
            cases k <;> cases v <;> cases w <;> simp only [fitsK, Bool.and_eq_true, decide_eq_true_eq, Bool.false_eq_true] at hf ⊢ <;> first | exact ⟨trivial, hf⟩ | exact ⟨⟨hf.1, trivial⟩, hf.2⟩
          rw [List.forIn_cons, rd_bind]
          have hp1 : (pre ++ v :: xs').toArray[f.offset]? = some v := by rw [hf1.1, ← h1]; simp
          have hp2 : (pre' ++ w :: ys').toArray[f.offset]? = some w := by rw [hf1.1, ← h2]; simp
          have hs : rdSym P W0 H (eqStep (m + 1) (pre ++ v :: xs').toArray (pre' ++ w :: ys').toArray f (none, ())) = some (if sEq v w then ForInStep.yield (none, ()) else ForInStep.done (some false, ())) := by
            unfold eqStep
            rw [if_pos hf1.2]
            simp only [rd_bind, rd_part1 (kind_agg hk1) hp1, rd_part1 (kind_agg hk1) hp2, Option.bind_some, rd_eqIn hk1 hfit.1]
            cases sEq v w <;> simp [rd_pure]
          rw [hs]
          simp only [Option.bind_some, eqC]
          by_cases hb : sEq v w = true
          · rw [if_pos hb]
            simp only [hb, Bool.true_and]
            have := rd_eqLoopN hrec fs (i + 1) ks' xs' ys' (pre ++ [v]) (pre' ++ [w]) hk3 (by simp [h1]) (by simp [h2]) hfit.2 (by simpa using l1) (by simpa using l2)
            simpa using this
          · rw [if_neg hb]
            simp [rd_pure, hb]
    · cases hk
theorem rd_equalN : ∀ (n m : Nat) (t : TypeId) (ks : List FK) (xs ys : List Value), kindsN P n t = some ks → fitsK ks xs ys = true → xs.length = ks.length → ys.length = ks.length → rdSym P W0 H (Op.equalIn (n + m + 1) t (.agg xs.toArray) (.agg ys.toArray)) = some (eqC xs ys)
  | 0, m, t, ks, xs, ys, hk, hf, l1, l2 => by cases hk
  | n + 1, m, t, ks, xs, ys, hk, hf, l1, l2 => by
    unfold kindsN at hk
    split at hk
    · next fs hu =>
      split at hk
      · cases hk
      · next hg =>
        simp only [Bool.not_eq_true] at hg
        unfold Op.equalIn
        rw [rd_bind, rd_underlying hu]
        simp only [Option.bind_some, rd_bind, rd_program, hg, Bool.false_eq_true, if_false]
        have h := rd_eqLoopN (P := P) (W0 := W0) (H := H) (m := n + m) (fun u ks xs ys h1 h2 h3 h4 => rd_equalN n m u ks xs ys h1 h2 h3 h4) fs.toList 0 ks xs ys [] [] hk rfl rfl hf l1 l2
        rw [List.nil_append, List.nil_append] at h
        have h2 : rdSym P W0 H (forIn fs ((none, ()) : Option Bool × Unit) (eqStep (n + m + 1) xs.toArray ys.toArray)) = some (if eqC xs ys then none else some false, ()) := by
          rw [← Array.forIn_toList]; exact h
        have e3 : n + 1 + m = n + m + 1 := by omega
        rw [e3]
        change ((rdSym P W0 H (forIn fs ((none, ()) : Option Bool × Unit) (eqStep (n + m + 1) xs.toArray ys.toArray))).bind _) = _
        rw [h2]
        cases eqC xs ys <;> rfl
    · cases hk
variable {F : Fm} {d : Option Tmp} {ty : TypeId} {pos : String} {af : Array Edge} {g : Option (Nat × Bool)} {t t' : TypeId} {x y : Operand}
theorem rd_equal_structN {ks : List FK} {xs ys : List Value} (hk : kindsOfN P 100 t = some ks) (hf : fitsK ks xs ys = true) (l1 : xs.length = ks.length) (l2 : ys.length = ks.length) :
    rdSym P W0 H (Op.equal t (.agg xs.toArray) (.agg ys.toArray)) = some (eqC xs ys) ∧ ∀ op, rdSym P W0 H (eqGuard op t x y (.agg xs.toArray) (.agg ys.toArray)) = some () := by
  unfold kindsOfN at hk
  split at hk
  · cases hk
  · next hg =>
    simp only [Bool.not_eq_true] at hg
    constructor
    · unfold Op.equal Op.maxDepth
      exact rd_equalN 100 9899 t ks xs ys hk hf l1 l2
    · intro op
      unfold eqGuard
      cases op <;> simp [rd_pure, rd_bind, rd_program, hg]
theorem x_eqStructN {ks : List FK} {xs ys : List Value} (hk : kindsOfN P 100 t = some ks) (hx : val F x = some (.agg xs.toArray)) (hy : val F y = some (.agg ys.toArray)) (hf : fitsK ks xs ys = true) (l1 : xs.length = ks.length) (l2 : ys.length = ks.length) :
    Rd P W0 F H ⟨d, .binOp .eql t x y t', ty, pos, af, g⟩ (.bool (decide (eqC xs ys = true))) := by
  have e : decide (eqC xs ys = true) = eqC xs ys := by simp
  rw [e]
  exact exec_eql hx hy ((rd_equal_structN hk hf l1 l2).2 _) rfl (rd_equal_structN (x := x) (y := y) hk hf l1 l2).1
theorem x_neStructN {ks : List FK} {xs ys : List Value} (hk : kindsOfN P 100 t = some ks) (hx : val F x = some (.agg xs.toArray)) (hy : val F y = some (.agg ys.toArray)) (hf : fitsK ks xs ys = true) (l1 : xs.length = ks.length) (l2 : ys.length = ks.length) :
    Rd P W0 F H ⟨d, .binOp .neq t x y t', ty, pos, af, g⟩ (.bool (decide (eqC xs ys = false))) := by
  have e : decide (eqC xs ys = false) = !eqC xs ys := by cases eqC xs ys <;> rfl
  rw [e]
  exact exec_neq hx hy ((rd_equal_structN hk hf l1 l2).2 _) rfl (rd_equal_structN (x := x) (y := y) hk hf l1 l2).1
end
/-! ### slices that a loop fills with what it keeps of a list -/
theorem OwnVec.snoc {α : Type} {size : Nat} {e : TypeId} {enc : α → List Value} {xs : List α} {x : α} {v : Value} {E : SHeap} (h : OwnVec size e v (xs.length + 1) (xs.flatMap enc ++ enc x) E) : OwnVec size e v (xs ++ [x]).length ((xs ++ [x]).flatMap enc) E := by
  rw [List.length_append, List.flatMap_append, List.flatMap_cons, List.flatMap_nil, List.append_nil]; exact h
theorem takeS {α : Type} {xs : List α} {k : Nat} {x : α} (hx : xs[k]? = some x) : xs.take (k + 1) = xs.take k ++ [x] := by
  obtain ⟨h, rfl⟩ := List.getElem?_eq_some_iff.1 hx
  rw [List.take_add_one, List.getElem?_eq_getElem h]; rfl
def kept {α : Type} (p : α → Bool) (xs : List α) (k : Nat) : List α := (xs.take k).filter p
theorem kept_yes {α : Type} {p : α → Bool} {xs : List α} {k : Nat} {x : α} (hx : xs[k]? = some x) (h : p x = true) : kept p xs (k + 1) = kept p xs k ++ [x] := by
  unfold kept; rw [takeS hx, List.filter_append]; simp [h]
theorem kept_no {α : Type} {p : α → Bool} {xs : List α} {k : Nat} {x : α} (hx : xs[k]? = some x) (h : p x = false) : kept p xs (k + 1) = kept p xs k := by
  unfold kept; rw [takeS hx, List.filter_append]; simp [h]
theorem kept_all {α : Type} {p : α → Bool} {xs : List α} {k : Nat} (h : xs.length ≤ k) : kept p xs k = xs.filter p := by
  unfold kept; rw [List.take_of_length_le h]
theorem kept_len {α : Type} {p : α → Bool} {xs : List α} {k : Nat} : (kept p xs k).length ≤ xs.length := by
  unfold kept; exact Nat.le_trans (List.length_filter_le _ _) (by rw [List.length_take]; omega)
theorem all_flat {α : Type} {enc : α → List Value} (h : ∀ x, (enc x).all oneCell = true) (xs : List α) : (xs.flatMap enc).all oneCell = true := by
  induction xs with
  | nil => rfl
  | cons x l ih => rw [List.flatMap_cons, List.all_append, ih, h]; rfl
theorem dr_nilX1 {P : Program} {W0 : World} {R : Reg} {b : Nat × Obj} {i : Nat} {F : Fm} {H : SHeap} {K : Fm → SHeap → Prop} (h : K F (b :: H)) : DR P W0 R [b] i [] F H [] K := fun _ =>
  ⟨F, b :: H, rfl, by show Sub (b :: H) ((List.range R.n).flatMap (NL []) ++ (H ++ [b])); rw [flat_nil]; exact Sub.of_perm (List.perm_append_comm (l₁ := [b])), h⟩
end Go.Proofs.Yteilocpjikmmdaa.Sym
