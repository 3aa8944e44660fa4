/- Stable sorting, in plain Lean: lists whose parts are swapped, rotated and merged. -/
import Derived.Test.YteilocpjikmmdaaSymEl
namespace Go.Proofs.Yteilocpjikmmdaa.Sym
set_option linter.unusedVariables false
/-- Where branches meet: a state of one's own, what it lays down of frame and blocks. -/
theorem aw_join {P : Program} {W0 : World} {N : Nat} {F : Fm} {H : SHeap} {K : Exit → Fm → SHeap → Prop} {x y : Code} {ι : Type} (Inv : ι → Prop) (Fl : ι → Fm) (Hl : ι → SHeap)
    (h : AW P W0 N x F H (thenK (fun F' H' => ∃ s', Inv s' ∧ KeepF F' (Fl s') ∧ Sub (Hl s') H') K)) (k : ∀ s, Inv s → AW P W0 N y (Fl s) (Hl s) K) : AW P W0 N (.seq x y) F H K :=
  aw_cut _ h fun F' H' ⟨s, h1, h2, h3⟩ => aw_keep h2 (aw_sub h3 (k s h1))
section
variable {α : Type} {c : α → α → Int}
/-! ### comparing -/
structure Swo (c : α → α → Int) : Prop where
  irr : ∀ x, ¬ c x x < 0
  trans : ∀ {x y z}, c x y < 0 → c y z < 0 → c x z < 0
  ntrans : ∀ {x y z}, ¬ c x y < 0 → ¬ c y z < 0 → ¬ c x z < 0
def eqv (c : α → α → Int) (e x : α) : Bool := decide (¬ c e x < 0) && decide (¬ c x e < 0)
def St (c : α → α → Int) (W W' : List α) : Prop := W'.Perm W ∧ ∀ e, W'.filter (eqv c e) = W.filter (eqv c e)
theorem St.refl (W : List α) : St c W W := ⟨List.Perm.refl _, fun _ => rfl⟩
theorem St.trans {A B C : List α} (h : St c A B) (k : St c B C) : St c A C := ⟨k.1.trans h.1, fun e => (k.2 e).trans (h.2 e)⟩
theorem St.rot (hc : Swo c) {P A B S : List α} (h : ∀ x ∈ A, ∀ y ∈ B, c y x < 0) : St c (P ++ (A ++ (B ++ S))) (P ++ (B ++ (A ++ S))) := by
  refine ⟨(List.perm_append_comm_assoc _ _ _).append_left P, fun e => ?_⟩
  simp only [List.filter_append]
  congr 1
  rw [← List.append_assoc, ← List.append_assoc]
  congr 1
  by_cases hA : A.filter (eqv c e) = []
  · rw [hA]; simp
  · by_cases hB : B.filter (eqv c e) = []
    · rw [hB]; simp
    · obtain ⟨x, hx⟩ := List.exists_mem_of_ne_nil _ hA
      obtain ⟨y, hy⟩ := List.exists_mem_of_ne_nil _ hB
      rw [List.mem_filter] at hx hy
      have h1 := hx.2; have h2 := hy.2
      unfold eqv at h1 h2
      simp only [Bool.and_eq_true, decide_eq_true_eq] at h1 h2
      exact absurd (h x hx.1 y hy.1) (hc.ntrans h2.2 h1.1)
end
section
variable {α : Type} [Inhabited α]
def gd (W : List α) (k : Nat) : α := W.getD k default
theorem gd_get {W : List α} {k : Nat} {x : α} (h : W[k]? = some x) : gd W k = x := by unfold gd; rw [List.getD_eq_getElem?_getD, h]; rfl
theorem gd_some {W : List α} {k : Nat} (h : k < W.length) : W[k]? = some (gd W k) := by
  rw [List.getElem?_eq_getElem h]; congr 1; unfold gd; rw [List.getD_eq_getElem?_getD, List.getElem?_eq_getElem h]; rfl
theorem gd_ext {W W' : List α} (hl : W'.length = W.length) (h : ∀ k, gd W' k = gd W k) : W' = W := by
  apply List.ext_getElem? 
  intro k
  by_cases hk : k < W.length
  · rw [gd_some hk, gd_some (hl ▸ hk), h k]
  · rw [List.getElem?_eq_none (by omega), List.getElem?_eq_none (by omega)]
theorem gd_set {W : List α} {i k : Nat} {y : α} (h : i < W.length) : gd (W.set i y) k = if k = i then y else gd W k := by
  unfold gd
  rw [List.getD_eq_getElem?_getD, List.getD_eq_getElem?_getD, List.getElem?_set]
  by_cases e : i = k
  · subst e; rw [if_pos rfl, if_pos rfl, if_pos h]; rfl
  · rw [if_neg e, if_neg (fun h => e h.symm)]
def sw (W : List α) (i j : Nat) : List α := (W.set i (gd W j)).set j (gd W i)
theorem sw_len {W : List α} {i j : Nat} : (sw W i j).length = W.length := by unfold sw; rw [List.length_set, List.length_set]
theorem gd_sw {W : List α} {i j : Nat} (hi : i < W.length) (hj : j < W.length) (k : Nat) : gd (sw W i j) k = gd W (if k = j then i else if k = i then j else k) := by
  unfold sw
  rw [gd_set (by rw [List.length_set]; exact hj), gd_set hi]
  by_cases h1 : k = j
  · rw [if_pos h1, if_pos h1]
  · rw [if_neg h1, if_neg h1]
    by_cases h2 : k = i
    · rw [if_pos h2, if_pos h2]
    · rw [if_neg h2, if_neg h2]
/-- W' at k is W at f k. -/
def Mv (W : List α) (f : Nat → Nat) (W' : List α) : Prop := W'.length = W.length ∧ ∀ k, gd W' k = gd W (f k)
theorem Mv.sw {W cur : List α} {f g : Nat → Nat} {i j : Nat} (h : Mv W f cur) (hi : i < W.length) (hj : j < W.length) (hg : ∀ k, g k = f (if k = j then i else if k = i then j else k)) : Mv W g (sw cur i j) :=
  ⟨sw_len.trans h.1, fun k => by rw [gd_sw (by rw [h.1]; exact hi) (by rw [h.1]; exact hj), h.2, hg]⟩
theorem Mv.congr {W cur : List α} {f g : Nat → Nat} (h : Mv W f cur) (hg : ∀ k, g k = f k) : Mv W g cur := ⟨h.1, fun k => by rw [h.2, hg]⟩
theorem Mv.trans {W A B : List α} {f g : Nat → Nat} (h : Mv W f A) (k : Mv A g B) : Mv W (fun x => f (g x)) B := ⟨k.1.trans h.1, fun x => by rw [k.2, h.2]⟩
theorem Mv.refl (W : List α) {f : Nat → Nat} (hf : ∀ k, f k = k) : Mv W f W := ⟨rfl, fun k => by rw [hf]⟩
/-! ### ranges swapped, parts rotated -/
def swF (a b n k : Nat) : Nat := if a ≤ k ∧ k < a + n then k - a + b else if b ≤ k ∧ k < b + n then k - b + a else k
def rotF (s m e k : Nat) : Nat := if k < s then k else if k < s + (e - m) then k - s + m else if k < e then k - (e - m) else k
theorem swF_zero (a b k : Nat) : swF a b 0 k = k := by unfold swF; split; omega; split; omega; rfl
theorem swF_step {a b n : Nat} (h : a + n < b) (k : Nat) : swF a b (n + 1) k = swF a b n (if k = b + n then a + n else if k = a + n then b + n else k) := by
  unfold swF; (repeat' split) <;> omega
theorem rotF_one (a k : Nat) : rotF a (a + 1) (a + 1) k = k := by unfold rotF; (repeat' split) <;> omega
theorem rotF_up {a k : Nat} (h : a ≤ k) (x : Nat) : rotF a (a + 1) (k + 2) x = rotF a (a + 1) (k + 1) (if x = k + 1 then k else if x = k then k + 1 else x) := by
  unfold rotF; (repeat' split) <;> omega
theorem rotF_self (m k : Nat) : rotF m m (m + 1) k = k := by unfold rotF; (repeat' split) <;> omega
theorem rotF_down {k m : Nat} (h0 : 0 < k) (h : k ≤ m) (x : Nat) : rotF (k - 1) m (m + 1) x = rotF k m (m + 1) (if x = k - 1 then k else if x = k then k - 1 else x) := by
  unfold rotF; (repeat' split) <;> omega
theorem rot_gt {m i j : Nat} (hi : i ≤ m) (hj : j < i) (x : Nat) : rotF (m - i) m (m + j) x = swF (m - i) m j (rotF (m - (i - j)) m (m + j) x) := by
  unfold rotF swF; (repeat' split) <;> omega
theorem rot_lt {m i j : Nat} (hi : i ≤ m) (hj : i < j) (x : Nat) : rotF (m - i) m (m + j) x = swF (m - i) (m + j - i) i (rotF (m - i) m (m + (j - i)) x) := by
  unfold rotF swF; (repeat' split) <;> omega
theorem rot_eq {m i : Nat} (hi : i ≤ m) (x : Nat) : rotF (m - i) m (m + i) x = swF (m - i) m i x := by
  unfold rotF swF; (repeat' split) <;> omega
/-- What is left to be rotated. -/
def RotI (W : List α) (s m e : Nat) (cur : List α) (i j : Nat) : Prop := cur.length = W.length ∧ (0 < i ∧ 0 < j ∧ s + i ≤ m ∧ m + j ≤ e) ∧ ∀ x, gd cur (rotF (m - i) m (m + j) x) = gd W (rotF s m e x)
theorem RotI.start {W : List α} {s m e : Nat} (h1 : s < m) (h2 : m < e) : RotI W s m e W (m - s) (e - m) :=
  ⟨rfl, ⟨by omega, by omega, by omega, by omega⟩, fun x => by rw [show m - (m - s) = s by omega, show m + (e - m) = e by omega]⟩
theorem RotI.gt {W cur W' : List α} {s m e i j : Nat} (h : RotI W s m e cur i j) (hj : j < i) (k : Mv cur (swF (m - i) m j) W') : RotI W s m e W' (i - j) j := by
  obtain ⟨h1, h2, h3⟩ := h
  exact ⟨k.1.trans h1, by omega, fun x => by rw [k.2, ← rot_gt (by omega) hj, h3]⟩
theorem RotI.lt {W cur W' : List α} {s m e i j : Nat} (h : RotI W s m e cur i j) (hj : i < j) (k : Mv cur (swF (m - i) (m + j - i) i) W') : RotI W s m e W' i (j - i) := by
  obtain ⟨h1, h2, h3⟩ := h
  exact ⟨k.1.trans h1, by omega, fun x => by rw [k.2, ← rot_lt (by omega) hj, h3]⟩
theorem RotI.eq {W cur W' : List α} {s m e i : Nat} (h : RotI W s m e cur i i) (k : Mv cur (swF (m - i) m i) W') : Mv W (rotF s m e) W' := by
  obtain ⟨h1, h2, h3⟩ := h
  exact ⟨k.1.trans h1, fun x => by rw [k.2, ← rot_eq (by omega), h3]⟩
def rotL (W : List α) (s m e : Nat) : List α := W.take s ++ ((W.drop m).take (e - m) ++ ((W.drop s).take (m - s) ++ W.drop e))
theorem rotL_mv {W W' : List α} {s m e : Nat} (h1 : s ≤ m) (h2 : m ≤ e) (h3 : e ≤ W.length) (h : Mv W (rotF s m e) W') : W' = rotL W s m e := by
  have hl : (rotL W s m e).length = W.length := by
    unfold rotL; simp only [List.length_append, List.length_take, List.length_drop]; omega
  refine gd_ext (h.1.trans hl.symm) fun k => ?_
  rw [h.2]
  unfold gd
  rw [List.getD_eq_getElem?_getD, List.getD_eq_getElem?_getD]
  congr 1
  unfold rotL rotF
  simp only [List.getElem?_append, List.getElem?_take, List.getElem?_drop, List.length_take, List.length_drop]
  (repeat' split) <;> first | omega | rfl | (congr 1; omega)
variable {c : α → α → Int}
def SrtI (c : α → α → Int) (W : List α) (a b : Nat) : Prop := ∀ i j, a ≤ i → i < j → j < b → ¬ c (gd W j) (gd W i) < 0
theorem SrtI.one {W : List α} {a b : Nat} (h : b ≤ a + 1) : SrtI c W a b := fun i j h1 h2 h3 => by omega
theorem SrtI.le (hc : Swo c) {W : List α} {a b i j : Nat} (h : SrtI c W a b) (h1 : a ≤ i) (h2 : i ≤ j) (h3 : j < b) : ¬ c (gd W j) (gd W i) < 0 := by
  rcases Nat.lt_or_eq_of_le h2 with h4 | h4
  · exact h i j h1 h4 h3
  · subst h4; exact hc.irr _
/-- W' is W, but for what stands from a to b, which is moved among itself. -/
def InR (W : List α) (a b : Nat) (W' : List α) : Prop := W'.length = W.length ∧ (∀ k, k < a ∨ b ≤ k → gd W' k = gd W k) ∧ ∀ p : α → Prop, (∀ k, a ≤ k → k < b → p (gd W k)) → ∀ k, a ≤ k → k < b → p (gd W' k)
theorem InR.refl (W : List α) (a b : Nat) : InR W a b W := ⟨rfl, fun _ _ => rfl, fun _ h => h⟩
theorem InR.trans {W A B : List α} {a b : Nat} (h : InR W a b A) (k : InR A a b B) : InR W a b B :=
  ⟨k.1.trans h.1, fun x hx => (k.2.1 x hx).trans (h.2.1 x hx), fun p hp => k.2.2 p (h.2.2 p hp)⟩
theorem InR.wide {W A : List α} {s e a b : Nat} (h : InR W s e A) (h1 : a ≤ s) (h2 : e ≤ b) : InR W a b A := by
  refine ⟨h.1, fun k hk => h.2.1 k (by omega), fun p hp k k1 k2 => ?_⟩
  by_cases hk : s ≤ k ∧ k < e
  · exact h.2.2 p (fun j j1 j2 => hp j (by omega) (by omega)) k hk.1 hk.2
  · rw [h.2.1 k (by omega)]; exact hp k k1 k2
theorem rotF_in {s m e k : Nat} (h1 : s ≤ m) (h2 : m ≤ e) (hk : s ≤ k) (hk2 : k < e) : s ≤ rotF s m e k ∧ rotF s m e k < e := by
  unfold rotF; (repeat' split) <;> omega
theorem InR.rot {W W' : List α} {s m e : Nat} (h1 : s ≤ m) (h2 : m ≤ e) (h : Mv W (rotF s m e) W') : InR W s e W' := by
  refine ⟨h.1, fun k hk => ?_, fun p hp k k1 k2 => ?_⟩
  · rw [h.2]; congr 1; unfold rotF; (repeat' split) <;> omega
  · rw [h.2]; exact hp _ (rotF_in h1 h2 k1 k2).1 (rotF_in h1 h2 k1 k2).2
theorem St.of_rot (hc : Swo c) {W W' : List α} {s m e : Nat} (h1 : s ≤ m) (h2 : m ≤ e) (h3 : e ≤ W.length) (h : Mv W (rotF s m e) W') (hlt : ∀ i j, s ≤ i → i < m → m ≤ j → j < e → c (gd W j) (gd W i) < 0) : St c W W' := by
  have e1 : W = W.take s ++ ((W.drop s).take (m - s) ++ ((W.drop m).take (e - m) ++ W.drop e)) := by
    refine gd_ext (by simp only [List.length_append, List.length_take, List.length_drop]; omega) fun k => ?_
    unfold gd
    rw [List.getD_eq_getElem?_getD, List.getD_eq_getElem?_getD]
    congr 1
    simp only [List.getElem?_append, List.getElem?_take, List.getElem?_drop, List.length_take, List.length_drop]
    (repeat' split) <;> first | omega | rfl | (congr 1; omega)
  rw [rotL_mv h1 h2 h3 h]
  have h4 := St.rot (c := c) hc (P := W.take s) (A := (W.drop s).take (m - s)) (B := (W.drop m).take (e - m)) (S := W.drop e) fun x hx y hy => by
    obtain ⟨i, hi⟩ := List.mem_iff_getElem?.1 hx
    obtain ⟨j, hj⟩ := List.mem_iff_getElem?.1 hy
    have li := (List.getElem?_eq_some_iff.1 hi).1
    have lj := (List.getElem?_eq_some_iff.1 hj).1
    rw [List.length_take, List.length_drop] at li lj
    rw [List.getElem?_take_of_lt (by omega), List.getElem?_drop] at hi hj
    rw [← gd_get hi, ← gd_get hj]
    exact hlt _ _ (by omega) (by omega) (by omega) (by omega)
  rw [← e1] at h4
  exact h4
/-- From a to b merged: sorted, alike ones as they stood. -/
def Mg (c : α → α → Int) (W : List α) (a b : Nat) (W' : List α) : Prop := St c W W' ∧ InR W a b W' ∧ SrtI c W' a b
theorem Mg.triv {W : List α} {a s b : Nat} (h : s ≤ a ∨ b ≤ s) (h1 : SrtI c W a s) (h2 : SrtI c W s b) : Mg c W a b W := by
  refine ⟨St.refl _, InR.refl _ _ _, ?_⟩
  intro i j h3 h4 h5
  rcases h with h | h
  · exact h2 i j (by omega) h4 h5
  · exact h1 i j h3 h4 (by omega)
theorem SrtI.same {W W' : List α} {a b : Nat} (h : SrtI c W a b) (e : ∀ k, a ≤ k → k < b → gd W' k = gd W k) : SrtI c W' a b := fun i j h1 h2 h3 => by
  rw [e i h1 (by omega), e j (by omega) h3]; exact h i j h1 h2 h3
/-- One is put in its place behind it. -/
theorem Mg.one_up (hc : Swo c) {W W' : List α} {a i b : Nat} (hi : a + 1 ≤ i) (hb : i ≤ b) (hl : b ≤ W.length) (hs : SrtI c W (a + 1) b) (h1 : ∀ h, a + 1 ≤ h → h < i → c (gd W h) (gd W a) < 0) (h2 : ∀ h, i ≤ h → h < b → ¬ c (gd W h) (gd W a) < 0) (hm : Mv W (rotF a (a + 1) i) W') : Mg c W a b W' := by
  refine ⟨St.of_rot hc (by omega) hi (by omega) hm fun x y q1 q2 q3 q4 => ?_, (InR.rot (by omega) hi hm).wide (Nat.le_refl _) hb, fun x y q1 q2 q3 => ?_⟩
  · obtain rfl : x = a := by omega
    exact h1 y q3 q4
  · rw [hm.2, hm.2]
    by_cases e1 : y < a + (i - (a + 1))
    · have r1 : rotF a (a + 1) i y = y - a + (a + 1) := by unfold rotF; rw [if_neg (by omega), if_pos e1]
      have r2 : rotF a (a + 1) i x = x - a + (a + 1) := by unfold rotF; rw [if_neg (by omega), if_pos (by omega)]
      rw [r1, r2]; exact hs _ _ (by omega) (by omega) (by omega)
    · by_cases e2 : y < i
      · have r1 : rotF a (a + 1) i y = a := by unfold rotF; rw [if_neg (by omega), if_neg e1, if_pos e2]; omega
        have r2 : rotF a (a + 1) i x = x - a + (a + 1) := by unfold rotF; rw [if_neg (by omega), if_pos (by omega)]
        rw [r1, r2]
        exact fun h => hc.irr _ (hc.trans h (h1 _ (by omega) (by omega)))
      · have r1 : rotF a (a + 1) i y = y := by unfold rotF; rw [if_neg (by omega), if_neg e1, if_neg e2]
        rw [r1]
        by_cases e3 : x < a + (i - (a + 1))
        · have r2 : rotF a (a + 1) i x = x - a + (a + 1) := by unfold rotF; rw [if_neg (by omega), if_pos (by omega)]
          rw [r2]; exact hs _ _ (by omega) (by omega) q3
        · by_cases e4 : x < i
          · have r2 : rotF a (a + 1) i x = a := by unfold rotF; rw [if_neg (by omega), if_neg e3, if_pos e4]; omega
            rw [r2]; exact h2 y (by omega) q3
          · have r2 : rotF a (a + 1) i x = x := by unfold rotF; rw [if_neg (by omega), if_neg e3, if_neg e4]
            rw [r2]; exact hs _ _ (by omega) q2 q3
/-- One is put in its place ahead of it. -/
theorem Mg.one_down (hc : Swo c) {W W' : List α} {a i m : Nat} (hi : a ≤ i) (hb : i ≤ m) (hl : m < W.length) (hs : SrtI c W a m) (h1 : ∀ h, a ≤ h → h < i → ¬ c (gd W m) (gd W h) < 0) (h2 : ∀ h, i ≤ h → h < m → c (gd W m) (gd W h) < 0) (hm : Mv W (rotF i m (m + 1)) W') : Mg c W a (m + 1) W' := by
  refine ⟨St.of_rot hc hb (by omega) (by omega) hm fun x y q1 q2 q3 q4 => ?_, (InR.rot hb (by omega) hm).wide hi (Nat.le_refl _), fun x y q1 q2 q3 => ?_⟩
  · obtain rfl : y = m := by omega
    exact h2 x q1 q2
  · rw [hm.2, hm.2]
    by_cases e1 : y < i
    · have r1 : rotF i m (m + 1) y = y := by unfold rotF; rw [if_pos e1]
      have r2 : rotF i m (m + 1) x = x := by unfold rotF; rw [if_pos (by omega)]
      rw [r1, r2]; exact hs _ _ q1 q2 (by omega)
    · by_cases e2 : y = i
      · have r1 : rotF i m (m + 1) y = m := by unfold rotF; rw [if_neg e1, if_pos (by omega)]; omega
        have r2 : rotF i m (m + 1) x = x := by unfold rotF; rw [if_pos (by omega)]
        rw [r1, r2]; exact h1 x q1 (by omega)
      · have r1 : rotF i m (m + 1) y = y - 1 := by unfold rotF; rw [if_neg e1, if_neg (by omega), if_pos (by omega)]; omega
        rw [r1]
        by_cases e3 : x < i
        · have r2 : rotF i m (m + 1) x = x := by unfold rotF; rw [if_pos e3]
          rw [r2]; exact hs _ _ q1 (by omega) (by omega)
        · by_cases e4 : x = i
          · have r2 : rotF i m (m + 1) x = m := by unfold rotF; rw [if_neg e3, if_pos (by omega)]; omega
            rw [r2]
            exact fun h => hc.irr _ (hc.trans h (h2 _ (by omega) (by omega)))
          · have r2 : rotF i m (m + 1) x = x - 1 := by unfold rotF; rw [if_neg e3, if_neg (by omega), if_pos (by omega)]; omega
            rw [r2]; exact hs _ _ (by omega) (by omega) (by omega)
/-- The parts behind the rotation of a merge. -/
def Parts4 (c : α → α → Int) (W : List α) (a s d e b : Nat) : Prop := SrtI c W a s ∧ SrtI c W s d ∧ SrtI c W d e ∧ SrtI c W e b ∧ ∀ i j, a ≤ i → i < d → d ≤ j → j < b → ¬ c (gd W j) (gd W i) < 0
theorem merge_cut (hc : Swo c) {W W1 : List α} {a m b d s e : Nat} (ham : a ≤ m) (hmb : m ≤ b) (hl : b ≤ W.length) (hd : a ≤ d ∧ d ≤ b) (hs : a ≤ s ∧ s ≤ m) (he : e + s = d + m) (hme : m ≤ e ∧ e ≤ b) (hA : SrtI c W a m) (hB : SrtI c W m b)
    (h1 : s < m → m < e → c (gd W (e - 1)) (gd W s) < 0) (h2 : a < s → e < b → ¬ c (gd W e) (gd W (s - 1)) < 0) (hm : Mv W (rotF s m e) W1) : St c W W1 ∧ InR W a b W1 ∧ Parts4 c W1 a s d e b := by
  have hlt : ∀ i j, s ≤ i → i < m → m ≤ j → j < e → c (gd W j) (gd W i) < 0 := fun i j q1 q2 q3 q4 => by
    have b1 := h1 (by omega) (by omega)
    have b2 := hA.le hc (i := s) (j := i) (by omega) q1 q2
    have b3 := hB.le hc (i := j) (j := e - 1) q3 (by omega) (by omega)
    refine Classical.byContradiction fun hn => ?_
    exact hc.ntrans b3 (hc.ntrans hn b2) b1
  have r1 : ∀ x, x < s → rotF s m e x = x := fun x hx => by unfold rotF; rw [if_pos hx]
  have r2 : ∀ x, s ≤ x → x < d → rotF s m e x = x - s + m := fun x hx hx2 => by unfold rotF; rw [if_neg (by omega), if_pos (by omega)]
  have r3 : ∀ x, d ≤ x → x < e → rotF s m e x = x - (e - m) := fun x hx hx2 => by unfold rotF; rw [if_neg (by omega), if_neg (by omega), if_pos hx2]
  have r4 : ∀ x, e ≤ x → rotF s m e x = x := fun x hx => by unfold rotF; rw [if_neg (by omega), if_neg (by omega), if_neg (by omega)]
  refine ⟨St.of_rot hc hs.2 hme.1 (by omega) hm hlt, (InR.rot hs.2 hme.1 hm).wide hs.1 hme.2, fun i j q1 q2 q3 => ?_, fun i j q1 q2 q3 => ?_, fun i j q1 q2 q3 => ?_, fun i j q1 q2 q3 => ?_, fun i j q1 q2 q3 q4 => ?_⟩
  · rw [hm.2, hm.2, r1 i (by omega), r1 j q3]; exact hA i j q1 q2 (by omega)
  · rw [hm.2, hm.2, r2 i q1 (by omega), r2 j (by omega) q3]; exact hB _ _ (by omega) (by omega) (by omega)
  · rw [hm.2, hm.2, r3 i q1 (by omega), r3 j (by omega) q3]; exact hA _ _ (by omega) (by omega) (by omega)
  · rw [hm.2, hm.2, r4 i q1, r4 j (by omega)]; exact hB i j (by omega) q2 q3
  · rw [hm.2, hm.2]
    by_cases e1 : i < s
    · rw [r1 i e1]
      by_cases e2 : j < e
      · rw [r3 j q3 e2]; exact hA _ _ q1 (by omega) (by omega)
      · rw [r4 j (by omega)]
        have b1 := h2 (by omega) (by omega)
        exact hc.ntrans (hB.le hc (by omega) (by omega) q4) (hc.ntrans b1 (hA.le hc q1 (by omega) (by omega)))
    · rw [r2 i (by omega) q2]
      by_cases e2 : j < e
      · rw [r3 j q3 e2]
        have := hlt (j - (e - m)) (i - s + m) (by omega) (by omega) (by omega) (by omega)
        exact fun h => hc.irr _ (hc.trans h this)
      · rw [r4 j (by omega)]; exact hB _ _ (by omega) (by omega) q4
theorem merge_end {W W1 W2 W3 : List α} {a s d e b : Nat} (hd : a ≤ d ∧ d ≤ b) (h0 : St c W W1) (hI : InR W a b W1) (hp : Parts4 c W1 a s d e b) (h2 : Mg c W1 a d W2) (h3 : Mg c W2 d b W3) : Mg c W a b W3 := by
  obtain ⟨s2, i2, t2⟩ := h2
  obtain ⟨s3, i3, t3⟩ := h3
  refine ⟨h0.trans (s2.trans s3), hI.trans ((i2.wide (Nat.le_refl _) hd.2).trans (i3.wide hd.1 (Nat.le_refl _))), fun i j q1 q2 q3 => ?_⟩
  by_cases e1 : j < d
  · rw [i3.2.1 i (by omega), i3.2.1 j (by omega)]; exact t2 i j q1 q2 e1
  · by_cases e2 : d ≤ i
    · exact t3 i j e2 q2 q3
    · rw [i3.2.1 i (by omega)]
      have hx := hp.2.2.2.2
      refine i3.2.2 (fun y => ¬ c y (gd W2 i) < 0) (fun k k1 k2 => ?_) j (by omega) q3
      rw [i2.2.1 k (by omega)]
      exact i2.2.2 (fun x => ¬ c (gd W1 k) x < 0) (fun k' k3 k4 => hx k' k k3 k4 k1 k2) i q1 (by omega)
/-! ### searching by halves -/
def Sea (q : Nat → Prop) (lo hi i j : Nat) : Prop := lo ≤ i ∧ i ≤ j ∧ j ≤ hi ∧ (∀ h, lo ≤ h → h < i → ¬ q h) ∧ ∀ h, j ≤ h → h < hi → q h
omit [Inhabited α] in
theorem Sea.start {q : Nat → Prop} {lo hi : Nat} (h : lo ≤ hi) : Sea q lo hi lo hi := ⟨Nat.le_refl _, h, Nat.le_refl _, fun x h1 h2 => by omega, fun x h1 h2 => by omega⟩
omit [Inhabited α] in
theorem Sea.right {q : Nat → Prop} {lo hi i j : Nat} (h : Sea q lo hi i j) (hm : ∀ x y, lo ≤ x → x ≤ y → y < hi → q x → q y) (hij : i < j) (hq : ¬ q ((i + j) / 2)) : Sea q lo hi ((i + j) / 2 + 1) j := by
  obtain ⟨h1, h2, h3, h4, h5⟩ := h
  exact ⟨by omega, by omega, h3, fun x x1 x2 hx => hq (hm x _ x1 (by omega) (by omega) hx), h5⟩
omit [Inhabited α] in
theorem Sea.left {q : Nat → Prop} {lo hi i j : Nat} (h : Sea q lo hi i j) (hm : ∀ x y, lo ≤ x → x ≤ y → y < hi → q x → q y) (hij : i < j) (hq : q ((i + j) / 2)) : Sea q lo hi i ((i + j) / 2) := by
  obtain ⟨h1, h2, h3, h4, h5⟩ := h
  exact ⟨h1, by omega, by omega, h4, fun x x1 x2 => hm _ x (by omega) x1 x2 hq⟩
theorem mono_up (hc : Swo c) {W : List α} {x : α} {m e : Nat} (hs : SrtI c W m e) : ∀ i j, m ≤ i → i ≤ j → j < e → (fun h => ¬ c (gd W h) x < 0) i → (fun h => ¬ c (gd W h) x < 0) j := fun i j h1 h2 h3 h => hc.ntrans (hs.le hc h1 h2 h3) h
theorem mono_dn (hc : Swo c) {W : List α} {x : α} {a m : Nat} (hs : SrtI c W a m) : ∀ i j, a ≤ i → i ≤ j → j < m → (fun h => c x (gd W h) < 0) i → (fun h => c x (gd W h) < 0) j := fun i j h1 h2 h3 h =>
  Classical.byContradiction fun hn => hc.ntrans hn (hs.le hc h1 h2 h3) h
theorem mono_mid (hc : Swo c) {W : List α} {a m e lo hi p : Nat} (hA : SrtI c W a m) (hB : SrtI c W m e) (h1 : a ≤ lo) (h2 : hi ≤ m) (h3 : ∀ h, lo ≤ h → h < hi → m ≤ p - h ∧ p - h < e ∧ h ≤ p) : ∀ i j, lo ≤ i → i ≤ j → j < hi → (fun h => c (gd W (p - h)) (gd W h) < 0) i → (fun h => c (gd W (p - h)) (gd W h) < 0) j := fun i j q1 q2 q3 h => by
  have b1 := h3 i q1 (by omega)
  have b2 := h3 j (by omega) q3
  exact Classical.byContradiction fun hn => hc.ntrans (hB.le hc (i := p - j) (j := p - i) b2.1 (by omega) b1.2.1) (hc.ntrans hn (hA.le hc (by omega) q2 (by omega))) h
/-! ### parts of one length, each sorted -/
inductive Ch (c : α → α → Int) (W : List α) (bs : Nat) : Nat → Nat → Prop
  | last {a n : Nat} : n ≤ a + bs → SrtI c W a n → Ch c W bs a n
  | cons {a n : Nat} : SrtI c W a (a + bs) → Ch c W bs (a + bs) n → Ch c W bs a n
theorem Ch.same {W W' : List α} {bs a n : Nat} (h : Ch c W bs a n) : (∀ k, a ≤ k → gd W' k = gd W k) → Ch c W' bs a n := by
  induction h with
  | last h1 h2 => exact fun e => .last h1 (h2.same fun k k1 _ => e k k1)
  | cons h1 h2 ih => exact fun e => .cons (h1.same fun k k1 _ => e k k1) (ih fun k hk => e k (by omega))
theorem Ch.all {W : List α} {bs a n : Nat} (h : Ch c W bs a n) (hn : n ≤ a + bs) : SrtI c W a n := by
  cases h with
  | last _ h => exact h
  | cons h1 _ => exact fun i j q1 q2 q3 => h1 i j q1 q2 (by omega)
theorem Ch.two {W : List α} {bs a n : Nat} (h : Ch c W bs a n) (hb : 0 < bs) (hn : a + 2 * bs ≤ n) : SrtI c W a (a + bs) ∧ SrtI c W (a + bs) (a + 2 * bs) ∧ Ch c W bs (a + 2 * bs) n := by
  cases h with
  | last h _ => omega
  | cons h1 h2 =>
    cases h2 with
    | last h3 h4 =>
      have e : n = a + 2 * bs := by omega
      subst e
      exact ⟨h1, h4, .last (by omega) (fun i j q1 q2 q3 => by omega)⟩
    | cons h3 h4 =>
      rw [show a + bs + bs = a + 2 * bs by omega] at h3 h4
      exact ⟨h1, h3, h4⟩
theorem Ch.rest {W : List α} {bs a n : Nat} (h : Ch c W bs a n) (hn : n ≤ a + 2 * bs) (hb : a + bs < n) : SrtI c W a (a + bs) ∧ SrtI c W (a + bs) n := by
  cases h with
  | last h _ => omega
  | cons h1 h2 => exact ⟨h1, h2.all (by omega)⟩
def Dn (c : α → α → Int) (W : List α) (bs a : Nat) : Prop := ∀ W2 : List α, (∀ k, k < a → gd W2 k = gd W k) → ∀ n, Ch c W2 bs a n → Ch c W2 bs 0 n
theorem Dn.zero {W : List α} {bs : Nat} : Dn c W bs 0 := fun _ _ _ h => h
theorem Dn.step {W W' : List α} {bs a : Nat} (h : Dn c W bs a) (hi : InR W a (a + bs) W') (hs : SrtI c W' a (a + bs)) : Dn c W' bs (a + bs) := fun W2 e n hn =>
  h W2 (fun k hk => (e k (by omega)).trans (hi.2.1 k (by omega))) n (.cons (hs.same fun k _ k2 => e k k2) hn)
theorem Dn.done {W W' : List α} {bs a n : Nat} (h : Dn c W bs a) (hi : InR W a n W') (hn : n ≤ a + bs) (hs : SrtI c W' a n) : Ch c W' bs 0 n :=
  h W' (fun k hk => hi.2.1 k (by omega)) n (.last hn hs)
theorem SrtI.up {W : List α} {a i e : Nat} (h : SrtI c W a i) (he : e ≤ i) : SrtI c W a e := fun x y h1 h2 h3 => h x y h1 h2 (by omega)
theorem rotF_triv {s m e : Nat} (h1 : s ≤ m) (h2 : m ≤ e) (h : ¬ (s < m ∧ m < e)) (k : Nat) : rotF s m e k = k := by unfold rotF; (repeat' split) <;> omega
theorem rotF_at {j i : Nat} (h : j ≤ i) : rotF j i (i + 1) j = i := by unfold rotF; rw [if_neg (by omega), if_pos (by omega)]; omega
theorem rotF_ahead {j i k : Nat} (h : k < j) : rotF j i (i + 1) k = k := by unfold rotF; rw [if_pos h]
/-- One of insertion's rounds. -/
theorem insr_end (hc : Swo c) {W cur : List α} {a j i : Nat} (ha : a ≤ j) (hj : j ≤ i) (hl : i < W.length) (hs : SrtI c W a i) (h2 : ∀ h, j ≤ h → h < i → c (gd W i) (gd W h) < 0) (hm : Mv W (rotF j i (i + 1)) cur) (h1 : a < j → ¬ c (gd cur j) (gd cur (j - 1)) < 0) : Mg c W a (i + 1) cur := by
  refine Mg.one_down hc ha hj hl hs (fun h q1 q2 => ?_) h2 hm
  have h3 := h1 (by omega)
  rw [hm.2, hm.2, rotF_at hj, rotF_ahead (by omega)] at h3
  exact hc.ntrans h3 (hs.le hc q1 (by omega) (by omega))
theorem insr_step {W cur : List α} {j i : Nat} (h0 : 0 < j) (hj : j ≤ i) (hl : i < W.length) (h2 : ∀ h, j ≤ h → h < i → c (gd W i) (gd W h) < 0) (hm : Mv W (rotF j i (i + 1)) cur) (hlt : c (gd cur j) (gd cur (j - 1)) < 0) :
    Mv W (rotF (j - 1) i (i + 1)) (sw cur j (j - 1)) ∧ ∀ h, j - 1 ≤ h → h < i → c (gd W i) (gd W h) < 0 := by
  refine ⟨hm.sw (by omega) (by omega) (rotF_down h0 hj), fun h q1 q2 => ?_⟩
  by_cases e : h = j - 1
  · rw [hm.2, hm.2, rotF_at hj, rotF_ahead (by omega)] at hlt
    rw [e]; exact hlt
  · exact h2 h (by omega) q2
end
theorem shrH (i j : Nat) : Value.int .u64 (((i : Int) + j).fdiv (2 ^ (min (1 : Int).toNat (IntKind.bits .u64)))) = .int .u64 (((i + j) / 2 : Nat) : Int) := by
  congr 1
  rw [show (2 : Int) ^ (min (1 : Int).toNat (IntKind.bits .u64)) = 2 from rfl, Int.fdiv_eq_ediv_of_nonneg _ (by omega)]; omega
structure SortG (α : Type) where
  k : Nat
  W : List α
structure RotG (α : Type) where
  i : Nat
  j : Nat
  W : List α
structure SeaG where
  i : Nat
  j : Nat
end Go.Proofs.Yteilocpjikmmdaa.Sym
