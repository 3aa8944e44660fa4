/- Where one stands in a row that was sorted, alike ones as they stood: plain Lean. -/
import Derived.Test.YteilocpjikmmdaaSymSort
namespace Go.Proofs.Yteilocpjikmmdaa.Sym
set_option linter.unusedVariables false
section
variable {α : Type} {c : α → α → Int}
def ltB (c : α → α → Int) (e x : α) : Bool := decide (c x e < 0)
def gtB (c : α → α → Int) (e x : α) : Bool := decide (c e x < 0)
theorem srt_split (hc : Swo c) (e : α) : ∀ {L : List α}, L.Pairwise (fun a b => ¬ c b a < 0) → L = L.filter (ltB c e) ++ (L.filter (eqv c e) ++ L.filter (gtB c e))
  | [], _ => rfl
  | x :: L, h => by
    rw [List.pairwise_cons] at h
    obtain ⟨h1, h2⟩ := h
    have ih := srt_split hc e h2
    have none : ∀ {p : α → Bool}, (∀ y ∈ L, p y = false) → L.filter p = [] := fun hp => List.filter_eq_nil_iff.2 fun y hy => by rw [hp y hy]; decide
    by_cases q1 : c x e < 0
    · have q2 : ¬ c e x < 0 := fun q2 => hc.irr _ (hc.trans q1 q2)
      have t1 : ltB c e x = true := decide_eq_true q1
      have t2 : eqv c e x = false := by simp [eqv, q1]
      have t3 : gtB c e x = false := decide_eq_false q2
      rw [List.filter_cons_of_pos t1, List.filter_cons_of_neg (by rw [t2]; decide), List.filter_cons_of_neg (by rw [t3]; decide), List.cons_append, ← ih]
    · have t1 : ltB c e x = false := decide_eq_false q1
      by_cases q2 : c e x < 0
      · have hall : ∀ y ∈ L, c e y < 0 := fun y hy => Classical.byContradiction fun hn => hc.ntrans hn (h1 y hy) q2
        have t2 : eqv c e x = false := by simp [eqv, q2]
        have t3 : gtB c e x = true := decide_eq_true q2
        have n1 : L.filter (ltB c e) = [] := none fun y hy => decide_eq_false fun h => hc.irr _ (hc.trans h (hall y hy))
        have n2 : L.filter (eqv c e) = [] := none fun y hy => by simp [eqv, hall y hy]
        rw [List.filter_cons_of_neg (by rw [t1]; decide), List.filter_cons_of_neg (by rw [t2]; decide), List.filter_cons_of_pos t3, n1, n2, List.nil_append, List.nil_append]
        rw [n1, n2, List.nil_append, List.nil_append] at ih
        rw [← ih]
      · have t2 : eqv c e x = true := by simp [eqv, q1, q2]
        have t3 : gtB c e x = false := decide_eq_false q2
        have n1 : L.filter (ltB c e) = [] := none fun y hy => decide_eq_false (hc.ntrans (h1 y hy) q1)
        rw [List.filter_cons_of_neg (by rw [t1]; decide), List.filter_cons_of_pos t2, List.filter_cons_of_neg (by rw [t3]; decide), n1, List.nil_append, List.cons_append]
        rw [n1, List.nil_append] at ih
        rw [← ih]
theorem eqv_self (hc : Swo c) (x : α) : eqv c x x = true := by simp [eqv, hc.irr x]
/-- The place of the i-th of a row, so far as k of them were looked at. -/
def pos (c : α → α → Int) (W : List α) (e : α) (i k : Nat) : Nat := ((W.take k).filter (ltB c e)).length + ((W.take (min k i)).filter (eqv c e)).length
theorem pos_zero {W : List α} {e : α} {i : Nat} : pos c W e i 0 = 0 := by simp [pos]
theorem pos_yes {W : List α} {e y : α} {i k : Nat} (hy : W[k]? = some y) (h : c y e < 0 ∨ (¬ c e y < 0 ∧ k < i)) : pos c W e i (k + 1) = pos c W e i k + 1 := by
  unfold pos
  rw [takeS hy, List.filter_append]
  by_cases q : c y e < 0
  · have t1 : ltB c e y = true := decide_eq_true q
    have t2 : eqv c e y = false := by simp [eqv, q]
    rw [List.filter_cons_of_pos t1, List.filter_nil, List.length_append]
    by_cases hk : k < i
    · rw [show min (k + 1) i = k + 1 by omega, show min k i = k by omega, takeS hy, List.filter_append, List.filter_cons_of_neg (by rw [t2]; decide)]
      simp; omega
    · rw [show min (k + 1) i = i by omega, show min k i = i by omega]; simp; omega
  · obtain ⟨h1, hk⟩ := h.resolve_left q
    have t1 : ltB c e y = false := decide_eq_false q
    have t2 : eqv c e y = true := by simp [eqv, q, h1]
    rw [List.filter_cons_of_neg (by rw [t1]; decide), show min (k + 1) i = k + 1 by omega, show min k i = k by omega, takeS hy, List.filter_append, List.filter_cons_of_pos t2]
    simp; omega
theorem pos_no {W : List α} {e y : α} {i k : Nat} (hy : W[k]? = some y) (h1 : ¬ c y e < 0) (h2 : c e y < 0 ∨ i ≤ k) : pos c W e i (k + 1) = pos c W e i k := by
  unfold pos
  have t1 : ltB c e y = false := decide_eq_false h1
  rw [takeS hy, List.filter_append, List.filter_cons_of_neg (by rw [t1]; decide), List.filter_nil, List.append_nil]
  by_cases hk : i ≤ k
  · rw [show min (k + 1) i = i by omega, show min k i = i by omega]
  · have h3 := h2.resolve_right hk
    have t2 : eqv c e y = false := by simp [eqv, h3]
    rw [show min (k + 1) i = k + 1 by omega, show min k i = k by omega, takeS hy, List.filter_append, List.filter_cons_of_neg (by rw [t2]; decide), List.filter_nil, List.append_nil]
theorem pos_le {W : List α} {e : α} {i k : Nat} : pos c W e i k ≤ 2 * k := by
  unfold pos
  have h1 := List.length_filter_le (ltB c e) (W.take k)
  have h2 := List.length_filter_le (eqv c e) (W.take (min k i))
  rw [List.length_take] at h1 h2
  omega
theorem St.place' (hc : Swo c) {W W' : List α} (hst : St c W W') (hs : W'.Pairwise (fun a b => ¬ c b a < 0)) {i k : Nat} {x : α} (hx : W[i]? = some x) (hk : W.length ≤ k) : W'[pos c W x i k]? = some x := by
  have hi := get_lt hx
  unfold pos
  rw [List.take_of_length_le hk, show min k i = i by omega, srt_split hc x hs]
  have hl : (W'.filter (ltB c x)).length = (W.filter (ltB c x)).length := (hst.1.filter _).length_eq
  rw [List.getElem?_append_right (by omega), hl, Nat.add_sub_cancel_left, hst.2 x]
  have hd : W = W.take i ++ (x :: W.drop (i + 1)) := by
    have h1 : W[i] = x := by rw [List.getElem_eq_iff]; exact hx
    rw [← h1, List.getElem_cons_drop hi, List.take_append_drop]
  have he : W.filter (eqv c x) = (W.take i).filter (eqv c x) ++ (x :: (W.drop (i + 1)).filter (eqv c x)) := by
    conv => lhs; rw [hd]
    rw [List.filter_append, List.filter_cons_of_pos (eqv_self hc x)]
  rw [he, List.append_assoc, List.getElem?_append_right (Nat.le_refl _), Nat.sub_self]
  rfl
end
section
variable {α : Type} [Inhabited α] {c : α → α → Int}
theorem SrtI.pairwise {W : List α} {n : Nat} (h : SrtI c W 0 n) (hn : W.length ≤ n) : W.Pairwise (fun a b => ¬ c b a < 0) := by
  rw [List.pairwise_iff_getElem]
  intro i j hi hj hij
  have h1 := h i j (Nat.zero_le _) hij (by omega)
  rw [gd_get (List.getElem?_eq_getElem hi), gd_get (List.getElem?_eq_getElem hj)] at h1
  exact h1
theorem St.place (hc : Swo c) {W W' : List α} {n : Nat} (hst : St c W W') (hs : SrtI c W' 0 n) (hn : W.length = n) {i k : Nat} {x : α} (hx : W[i]? = some x) (hk : n ≤ k) : W'[pos c W x i k]? = some x :=
  hst.place' hc (hs.pairwise (by rw [hst.1.length_eq]; omega)) hx (by omega)
end
end Go.Proofs.Yteilocpjikmmdaa.Sym
