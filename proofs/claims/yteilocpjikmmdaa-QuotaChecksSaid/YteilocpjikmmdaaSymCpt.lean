/- Of neighbours that are alike the first is kept: plain Lean, and what clearing comes to. -/
import Derived.Test.YteilocpjikmmdaaSymPlace
import Derived.Test.YteilocpjikmmdaaSymOff
namespace Go.Proofs.Yteilocpjikmmdaa.Sym
set_option linter.unusedVariables false
set_option linter.unusedSimpArgs false
section
variable {α : Type}
/-- Of neighbours that are alike the first is kept. -/
def cptG (q : α → α → Bool) (p : α) : List α → List α
  | [] => []
  | s :: l => if q s p then cptG q s l else s :: cptG q s l
def cpt (q : α → α → Bool) : List α → List α
  | [] => []
  | s :: l => s :: cptG q s l
theorem cptG_sub (q : α → α → Bool) : ∀ (l : List α) (p : α), (cptG q p l).Sublist l
  | [], p => .slnil
  | s :: l, p => by
    unfold cptG
    split
    · exact (cptG_sub q l s).cons _
    · exact (cptG_sub q l s).cons_cons _
theorem cpt_sub (q : α → α → Bool) (l : List α) : (cpt q l).Sublist l := by
  cases l with
  | nil => exact .slnil
  | cons s l => exact (cptG_sub q l s).cons_cons _
def lst (p : α) : List α → α
  | [] => p
  | s :: l => lst s l
theorem lst_snoc (x : α) : ∀ (l : List α) (p : α), lst p (l ++ [x]) = x
  | [], p => rfl
  | s :: l, p => lst_snoc x l s
theorem cptG_snoc (q : α → α → Bool) (x : α) : ∀ (l : List α) (p : α), cptG q p (l ++ [x]) = cptG q p l ++ if q x (lst p l) then [] else [x]
  | [], p => by unfold cptG lst; rw [List.nil_append]; show cptG q p [x] = _; unfold cptG; split <;> rfl
  | s :: l, p => by
    rw [List.cons_append]
    unfold cptG lst
    rw [cptG_snoc q x l s]
    split <;> rfl
end
section
variable {α : Type} {q : α → α → Bool}
theorem lst_get : ∀ (l : List α) (p : α), (p :: l)[l.length]? = some (lst p l)
  | [], p => rfl
  | s :: l, p => by unfold lst; rw [List.length_cons, List.getElem?_cons_succ]; exact lst_get l s
theorem cpt_snoc {l : List α} {x p : α} (hp : l[l.length - 1]? = some p) : cpt q (l ++ [x]) = cpt q l ++ if q x p then [] else [x] := by
  cases l with
  | nil => simp at hp
  | cons s l =>
    have h := lst_get l s
    rw [show (s :: l).length - 1 = l.length by simp] at hp
    rw [hp] at h
    cases h
    rw [List.cons_append]
    show s :: cptG q s (l ++ [x]) = (s :: cptG q s l) ++ _
    rw [cptG_snoc, List.cons_append]
theorem cptG_ne : ∀ (l : List α) (p : α), (∀ j x y, (p :: l)[j + 1]? = some x → (p :: l)[j]? = some y → q x y = false) → cptG q p l = l
  | [], p, h => rfl
  | s :: l, p, h => by
    unfold cptG
    rw [if_neg (by rw [h 0 s p rfl rfl]; decide), cptG_ne l s fun j x y h1 h2 => h (j + 1) x y (by rw [List.getElem?_cons_succ]; exact h1) (by rw [List.getElem?_cons_succ]; exact h2)]
/-- Neighbours ahead of a place differ. -/
def NE (q : α → α → Bool) (W : List α) (k : Nat) : Prop := ∀ j x y, j + 1 < k → W[j + 1]? = some x → W[j]? = some y → q x y = false
theorem NE.one {W : List α} : NE q W 1 := fun j x y h => by omega
theorem NE.step {W : List α} {k : Nat} {x y : α} (h : NE q W k) (h1 : 1 ≤ k) (hx : W[k]? = some x) (hy : W[k - 1]? = some y) (hq : q x y = false) : NE q W (k + 1) := fun j a b hj ha hb => by
  by_cases e : j + 1 = k
  · subst e
    rw [hx] at ha; cases ha
    rw [show j + 1 - 1 = j by omega, hb] at hy; cases hy
    exact hq
  · exact h j a b (by omega) ha hb
theorem NE.cpt_ {W : List α} {k : Nat} (h : NE q W k) (hk : W.length ≤ k) : cpt q W = W := by
  cases W with
  | nil => rfl
  | cons s l =>
    show s :: cptG q s l = s :: l
    rw [cptG_ne l s fun j x y h1 h2 => h j x y (by have := get_lt h1; omega) h1 h2]
theorem NE.take {W : List α} {k : Nat} (h : NE q W k) : cpt q (W.take k) = W.take k := by
  refine NE.cpt_ (k := (W.take k).length) (fun j x y hj hx hy => h j x y (by rw [List.length_take] at hj; omega) ?_ ?_) (Nat.le_refl _)
  · rw [List.getElem?_take, if_pos (by rw [List.length_take] at hj; omega)] at hx; exact hx
  · rw [List.getElem?_take, if_pos (by rw [List.length_take] at hj; omega)] at hy; exact hy
/-- Of m so far k are kept, in place. -/
def CmpI (q : α → α → Bool) (W : List α) (m k : Nat) (C : List α) : Prop := C.length = W.length ∧ k + 1 ≤ m ∧ m ≤ W.length ∧ C.take k = cpt q (W.take m) ∧ ∀ j, k ≤ j → C[j]? = W[j]?
theorem take_snoc {W : List α} {m : Nat} {x p : α} (hm : 1 ≤ m) (hx : W[m]? = some x) (hp : W[m - 1]? = some p) : cpt q (W.take (m + 1)) = cpt q (W.take m) ++ if q x p then [] else [x] := by
  have h1 := get_lt hx
  rw [takeS hx, cpt_snoc (p := p)]
  rw [List.length_take, show min m W.length - 1 = m - 1 by omega, List.getElem?_take, if_pos (by omega)]; exact hp
theorem CmpI.start {W : List α} {k : Nat} {x p : α} (h : NE q W k) (h1 : 1 ≤ k) (hx : W[k]? = some x) (hp : W[k - 1]? = some p) (hq : q x p = true) : CmpI q W (k + 1) k W :=
  ⟨rfl, by omega, get_lt hx, by rw [take_snoc h1 hx hp, if_pos hq, List.append_nil, h.take], fun _ _ => rfl⟩
theorem CmpI.put {W C : List α} {m k : Nat} {x p : α} (h : CmpI q W m k C) (hx : W[m]? = some x) (hp : W[m - 1]? = some p) (hq : q x p = false) : CmpI q W (m + 1) (k + 1) (C.set k x) := by
  obtain ⟨h1, h2, h3, h4, h5⟩ := h
  have hm := get_lt hx
  refine ⟨by rw [List.length_set]; exact h1, by omega, hm, ?_, fun j hj => ?_⟩
  · have hk : (C.set k x)[k]? = some x := by rw [List.getElem?_set, if_pos rfl, if_pos (by omega)]
    rw [take_snoc (by omega) hx hp, if_neg (by rw [hq]; decide), takeS hk, List.take_set_of_le (Nat.le_refl _), h4]
  · rw [List.getElem?_set, if_neg (by omega)]; exact h5 j (by omega)
theorem CmpI.skip {W C : List α} {m k : Nat} {x p : α} (h : CmpI q W m k C) (hx : W[m]? = some x) (hp : W[m - 1]? = some p) (hq : q x p = true) : CmpI q W (m + 1) k C := by
  obtain ⟨h1, h2, h3, h4, h5⟩ := h
  exact ⟨h1, by omega, get_lt hx, by rw [take_snoc (by omega) hx hp, if_pos hq, List.append_nil, h4], h5⟩
theorem CmpI.done {W C : List α} {m k : Nat} (h : CmpI q W m k C) (hm : W.length ≤ m) : C.take k = cpt q W ∧ (cpt q W).length = k := by
  obtain ⟨h1, h2, h3, h4, h5⟩ := h
  rw [List.take_of_length_le hm] at h4
  exact ⟨h4, by rw [← h4, List.length_take]; omega⟩
end
theorem cells_flatO2 {α : Type} {n : Nat} {enc : α → List Value} (hn : ∀ x, (enc x).length = n) {W0 : World} {H : SHeap} {b off : Nat} {e : TypeId} {fz : Nat × Nat} {xs : List α} {pre post : List Value} (hpre : pre.length = off) (hm : (b, Obj.cells (pre ++ (xs.flatMap enc ++ post)).toArray e fz) ∈ H) (k i : Nat) {x : α} (hx : xs[k + i]? = some x) : Cells W0 H b (off + k * n + i * n) (enc x) := by
  have := cells_flatO hn hpre hm hx (W0 := W0)
  rw [Nat.add_mul] at this
  rw [Nat.add_assoc]; exact this
theorem spl_flatO {α : Type} {n : Nat} {enc : α → List Value} (hn : ∀ x, (enc x).length = n) {xs : List α} {pre post : List Value} {off i : Nat} {x' : α} (hpre : pre.length = off) (hi : i < xs.length) : Spl (pre ++ (xs.flatMap enc ++ post)) (off + i * n) (enc x') (pre ++ ((xs.set i x').flatMap enc ++ post)) := by
  subst hpre; exact spl_skip (spl_flat hn hi)
theorem spl_clrO {α : Type} {n : Nat} {enc : α → List Value} (hn : ∀ x, (enc x).length = n) {xs : List α} {pre post Z : List Value} {off k : Nat} (hpre : pre.length = off) (hk : k ≤ xs.length) (hZ : Z.length = (xs.length - k) * n) : Spl (pre ++ (xs.flatMap enc ++ post)) (off + k * n) Z (pre ++ ((xs.take k).flatMap enc ++ (Z ++ post))) := by
  have e : pre ++ (xs.flatMap enc ++ post) = (pre ++ (xs.take k).flatMap enc) ++ ((xs.drop k).flatMap enc ++ post) := by
    conv => lhs; rw [← List.take_append_drop k xs]
    rw [List.flatMap_append]; simp
  have e2 : pre ++ ((xs.take k).flatMap enc ++ (Z ++ post)) = (pre ++ (xs.take k).flatMap enc) ++ (Z ++ post) := by simp
  rw [e, e2]
  exact spl3 (by rw [List.length_append, hpre, flat_len hn, List.length_take, Nat.min_eq_left hk]) (by rw [flat_len hn, List.length_drop, hZ])
section
variable {P : Program} {W0 : World} {F : Fm} {H : SHeap} {t e : TypeId} {x : Operand} {d : Option Tmp} {ty : TypeId} {pos : String} {af : Array Edge} {g : Option (Nat × Bool)}
/-- clear of a slice of one's own that has something. -/
theorem x_clear {b off n cap : Nat} {zv : Value} {cs cs' Z : List Value} {e2 : TypeId} {H' : SHeap} (hu : P.underlying t = some (.slice e)) (hz : zeroOf P e = some zv) (hx : val F x = some (.slice (some ⟨b, off, none⟩) n cap)) (hn : 0 < n)
    (hZ : (Builtin.zeroCells zv.cells n).toList = Z) (h1 : Z.all oneCell = true) (hr : Repl b (.cells cs.toArray e2 (0, 0)) (.cells cs'.toArray e2 (0, 0)) H H') (hsp : Spl cs off Z cs') :
    Exec P W0 F H ⟨d, .call ⟨.builtin .clear, #[x], #[t]⟩, ty, pos, af, g⟩ none (.tuple #[]) H' := by
  refine ⟨by simp, by simp [Op.operands, Call.operands, some_of hx], fun hw => .inl ?_⟩
  have hge := hw.2 b (mem_keys hr.mem)
  have hst := run_storeCells (P := P) (W0 := W0) (b := b) (off := off) (e := e2) hge Z 0 cs.toArray H (find_of_mem hw.1 hr.mem) hw.1 (by simpa using h1) (by have := (hsp.wr []).2; simpa using this)
  have hwr : wrCells cs.toArray off Z = cs'.toArray := by have := (hsp.wr []).1; simpa using this
  rw [Nat.add_zero, hwr, hr.upd hw.1] at hst
  obtain ⟨m, rfl⟩ : ∃ m, n = m + 1 := ⟨n - 1, by omega⟩
  have key : runSym P W0 (Builtin.clear_ #[t] ty #[.slice (some ⟨b, off, none⟩) (m + 1) cap]) none H = some (.tuple #[], H') := by
    simp only [Builtin.clear_, List.getElem?_toArray, List.getElem?_cons_zero]
    rw [runSym_bind _ (rd_run _ (rd_underlying hu))]
    simp only []
    rw [runSym_bind _ (rd_run _ (rd_zero hz)), hZ, runSym_bind _ hst]; rfl
  simp only [execOp, resolve, invoke]
  simp only [List.map_toArray, List.map_cons, List.map_nil, ev_of hx, builtin]
  rw [runSym_bind _ (rd_run _ (rd_pure _))]
  exact runSym_map _ _ key
end
/-- What is left out of a heap, found by its shape: the proof is a default. -/
theorem Sub.autoP {A B : SHeap} (h : Sub A B := by repeat (first | exact Sub.refl _ | refine Sub.take (by repeat (first | exact Take.here | apply Take.there | apply Take.app)) ?_ | refine Sub.takeE (by repeat (first | exact TakeE.here | apply TakeE.there | apply TakeE.app)) ?_ | exact Sub.nil _ | apply Sub.drop | apply Sub.dropE)) : Sub A B := h
theorem Sub.autoD {A B : SHeap} (h : Sub A B := by (repeat (first | exact Sub.refl _ | refine Sub.take (by repeat (first | exact Take.here | apply Take.there | apply Take.app)) ?_ | refine Sub.takeE (by repeat (first | exact TakeE.here | apply TakeE.there | apply TakeE.app)) ?_ | exact Sub.nil _ | apply Sub.drop | apply Sub.dropE)); first | done | fail) : Sub A B := h
/-! Short forms: what is plain is a default. -/
section
variable {P : Program} {W0 : World} {N : Nat} {ops : Array Oper} {i d : Nat} {rest : List Oper} {F : Fm} {H H' : SHeap} {K : Fm → SHeap → Prop} {ty : TypeId} {pos : String} {af : Array Edge} {v : Value} {x : Operand} {o : Oper}
inductive KeepT (F : Fm) : List Nat → Fm → Prop
  | mk {ts : List Nat} {F' : Fm} : KeepF F F' → KeepT F ts F'
theorem KeepT.out {ts : List Nat} {F' : Fm} (h : KeepT F ts F') : KeepF F F' := by cases h; assumption
theorem keepT_nil : KeepT F [] [] := .mk keep_nil
theorem keepT_cons {F' : Fm} {t : Nat} {ts : List Nat} (h : look t F = some v) (k : KeepT F ts F') : KeepT F (t :: ts) ((t, v) :: F') := .mk (keep_cons h k.out)
theorem aw_kp {K : Exit → Fm → SHeap → Prop} {c : Code} (ts : List Nat) {F' : Fm} (h : AW P W0 N c F' H K) (hs : KeepT F ts F' := by repeat (first | exact keepT_nil | apply keepT_cons (h := rfl))) : AW P W0 N c F H K := aw_keep hs.out h
theorem sr_mv (k : SR P W0 N ops (i + 1) rest ((d, v) :: F) H K) (h : val F x = some v := by exact rfl) (hN : Nat.blt d N = true := by exact rfl) : SR P W0 N ops i (⟨some d, .move x, ty, pos, af, none⟩ :: rest) F H K := sr_x rfl (wtd_none rfl) hN (Rd.x (x_move h)) k
theorem sr_as (k : SR P W0 N ops (i + 1) rest ((d, v) :: F) H K) (h : val F x = some v := by exact rfl) (hN : Nat.blt d N = true := by exact rfl) : SR P W0 N ops i (⟨some d, .assign x, ty, pos, af, none⟩ :: rest) F H K := sr_x rfl (wtd_none rfl) hN (Rd.x (x_assign h)) k
theorem sr_rd (h : Rd P W0 F H o v) (k : SR P W0 N ops (i + 1) rest ((d, v) :: F) H K) (hd : o.dst = some d := by exact rfl) (hw : Wtd ops F o true := by exact wtd_none rfl) (hN : Nat.blt d N = true := by exact rfl) : SR P W0 N ops i (o :: rest) F H K := sr_x hd hw hN (Rd.x h) k
theorem sr_ry (h : Rd P W0 F H o v) (k : SR P W0 N ops (i + 1) rest ((d, v) :: F) H K) (hd : o.dst = some d := by exact rfl) (hw : Wtd ops F o true := by exact wtd_yes rfl rfl rfl) (hN : Nat.blt d N = true := by exact rfl) : SR P W0 N ops i (o :: rest) F H K := sr_x hd hw hN (Rd.x h) k
end
theorem KeepF.auto {F F' : Fm} (h : KeepF F F' := by (repeat (first | exact keep_nil | refine keep_cons rfl ?_)); first | done | fail) : KeepF F F' := h
theorem Sub.autoR {A B : SHeap} (h : Sub A B := by repeat (first | exact Sub.refl _ | apply Sub.drop | apply Sub.dropE)) : Sub A B := h
theorem Sub.autoE {A B : SHeap} (h : Sub A B := by exact Sub.takeE0 (by repeat (first | exact TakeE.here | apply TakeE.there | apply TakeE.app))) : Sub A B := h
theorem mauto {a : Nat × Obj} {l : SHeap} (h : a ∈ l := by repeat (first | exact List.mem_cons_self | apply List.mem_cons_of_mem | apply List.mem_append_right)) : a ∈ l := h
theorem Ext.auto {cs vs : List Value} {k n : Nat} (h : Ext cs k n vs := by repeat (first | exact Ext.all _ | exact Ext.done | apply Ext.take | apply Ext.skip)) : Ext cs k n vs := h
theorem Spl.auto {cs vs cs' : List Value} {k : Nat} (h : Spl cs k vs cs' := by repeat (first | exact Spl.done | exact Spl.all rfl | apply Spl.put | apply Spl.skip)) : Spl cs k vs cs' := h
theorem Repl.auto {b : Nat} {o o' : Obj} {H H' : SHeap} (h : Repl b o o' H H' := by repeat (first | exact Repl.here | apply Repl.there | apply Repl.app)) : Repl b o o' H H' := h
theorem Fill.auto {pl : Nat → Option (Nat × Nat)} {cs cs' : List Value} {ps : List (Nat × Value)} (h : Fill pl cs ps cs' := by repeat (first | exact Fill.done | (apply Fill.part; rfl; rfl; rfl; focus (repeat (first | exact Spl.done | exact Spl.all rfl | apply Spl.put | apply Spl.skip))))) : Fill pl cs ps cs' := h
theorem Parts.auto {F : Fm} {l : List (Nat × Operand)} {ps : List (Nat × Value)} (h : Parts F l ps := by repeat (first | exact Parts.nil | (apply Parts.cons; rfl))) : Parts F l ps := h
section
variable {P : Program} {W0 : World} {N : Nat} {ops : Array Oper} {i d : Nat} {rest : List Oper} {F : Fm} {H X : SHeap} {L : List (Nat × SHeap)} {K : Fm → SHeap → Prop} {v : Value} {o : Oper} {R : Reg} {p : Prop} [Decidable p]
theorem dr_l (h : Rd P W0 F [] o v) (k : DR P W0 R X (i + 1) rest ((d, v) :: F) H L K) (hc : R.c i = .light := by exact rfl) (hd : o.dst = some d := by exact rfl) (hw : Wtd R.ops F o true := by exact wtd_none rfl) : DR P W0 R X i (o :: rest) F H L K := dr_light hc hd hw h k
theorem dr_y (h : Rd P W0 F [] o v) (k : DR P W0 R X (i + 1) rest ((d, v) :: F) H L K) (hc : R.c i = .light := by exact rfl) (hd : o.dst = some d := by exact rfl) (hw : Wtd R.ops F o true := by exact wtd_yes rfl rfl rfl) : DR P W0 R X i (o :: rest) F H L K := dr_light hc hd hw h k
theorem sr_c (h : Rd P W0 F H o (.bool (decide p))) (k1 : p → SR P W0 N ops (i + 1) rest ((d, .bool true) :: F) H K) (k2 : ¬ p → SR P W0 N ops (i + 1) rest ((d, .bool false) :: F) H K) (hd : o.dst = some d := by exact rfl) (hw : Wtd ops F o true := by exact wtd_none rfl) (hN : Nat.blt d N = true := by exact rfl) : SR P W0 N ops i (o :: rest) F H K := sr_cmp hd hw hN (Rd.x h) k1 k2
theorem sr_cy (h : Rd P W0 F H o (.bool (decide p))) (k1 : p → SR P W0 N ops (i + 1) rest ((d, .bool true) :: F) H K) (k2 : ¬ p → SR P W0 N ops (i + 1) rest ((d, .bool false) :: F) H K) (hd : o.dst = some d := by exact rfl) (hw : Wtd ops F o true := by exact wtd_yes rfl rfl rfl) (hN : Nat.blt d N = true := by exact rfl) : SR P W0 N ops i (o :: rest) F H K := sr_cmp hd hw hN (Rd.x h) k1 k2
theorem sr_sk (k : SR P W0 N ops (i + 1) rest ((d, undef) :: F) H K) (hd : o.dst = some d := by exact rfl) (hw : Wtd ops F o false := by exact wtd_no rfl rfl rfl rfl) (hN : Nat.blt d N = true := by exact rfl) : SR P W0 N ops i (o :: rest) F H K := sr_skip hd hw hN k
theorem dr_sk (k : DR P W0 R X (i + 1) rest ((d, undef) :: F) H L K) (hd : o.dst = some d := by exact rfl) (hw : Wtd R.ops F o false := by exact wtd_no rfl rfl rfl rfl) : DR P W0 R X i (o :: rest) F H L K := dr_skip hd hw k
end
end Go.Proofs.Yteilocpjikmmdaa.Sym
