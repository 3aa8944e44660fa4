/- Rising lists: what is sorted and then compacted. -/
import Derived.Test.YteilocpjikmmdaaSymPdq
namespace Go.Proofs.Yteilocpjikmmdaa.Sym
set_option linter.unusedVariables false
set_option linter.unusedSimpArgs false
/-- Rising, and of the same numbers. -/
def Tms (A X : List Int) : Prop := X.Pairwise (· < ·) ∧ ∀ t, t ∈ X ↔ t ∈ A
theorem asc_uniq : ∀ {X Y : List Int}, X.Pairwise (· < ·) → Y.Pairwise (· < ·) → (∀ t, t ∈ X ↔ t ∈ Y) → X = Y
  | [], [], _, _, _ => rfl
  | [], y :: Y, _, _, h => by have := (h y).2 List.mem_cons_self; cases this
  | x :: X, [], _, _, h => by have := (h x).1 List.mem_cons_self; cases this
  | x :: X, y :: Y, hX, hY, h => by
    rw [List.pairwise_cons] at hX hY
    have e : x = y := by
      have h1 := (h x).1 List.mem_cons_self
      have h2 := (h y).2 List.mem_cons_self
      rw [List.mem_cons] at h1 h2
      rcases h1 with h1 | h1
      · exact h1
      · rcases h2 with h2 | h2
        · exact h2.symm
        · have q1 := hY.1 x h1
          have q2 := hX.1 y h2
          omega
    subst e
    congr 1
    refine asc_uniq hX.2 hY.2 fun t => ⟨fun q => ?_, fun q => ?_⟩
    · have h1 := (h t).1 (List.mem_cons_of_mem _ q)
      rw [List.mem_cons] at h1
      rcases h1 with rfl | h1
      · have := hX.1 _ q; omega
      · exact h1
    · have h1 := (h t).2 (List.mem_cons_of_mem _ q)
      rw [List.mem_cons] at h1
      rcases h1 with rfl | h1
      · have := hY.1 _ q; omega
      · exact h1
theorem Tms.uniq {A X Y : List Int} (h : Tms A X) (k : Tms A Y) : X = Y := asc_uniq h.1 k.1 fun t => (h.2 t).trans (k.2 t).symm
theorem cptG_asc : ∀ (l : List Int) (p : Int), (p :: l).Pairwise (· ≤ ·) → (p :: cptG eqI p l).Pairwise (· < ·) ∧ ∀ t, t ∈ p :: cptG eqI p l ↔ t ∈ p :: l
  | [], p, _ => by unfold cptG; exact ⟨by simp, fun t => Iff.rfl⟩
  | s :: l, p, h => by
    rw [List.pairwise_cons] at h
    obtain ⟨i1, i2⟩ := cptG_asc l s h.2
    have h2 := h.2
    rw [List.pairwise_cons] at i1 h2
    have hps := h.1 s List.mem_cons_self
    by_cases q : s = p
    · subst q
      have e : cptG eqI s (s :: l) = cptG eqI s l := by
        show (if eqI s s then cptG eqI s l else s :: cptG eqI s l) = _
        rw [if_pos (by unfold eqI; simp)]
      rw [e]
      exact ⟨List.pairwise_cons.2 i1, fun t => by rw [i2 t]; simp⟩
    · have e : cptG eqI p (s :: l) = s :: cptG eqI s l := by
        show (if eqI s p then cptG eqI s l else s :: cptG eqI s l) = _
        rw [if_neg (by unfold eqI; simp [q])]
      rw [e]
      refine ⟨List.pairwise_cons.2 ⟨fun x hx => ?_, List.pairwise_cons.2 i1⟩, fun t => ?_⟩
      · rw [List.mem_cons] at hx
        rcases hx with rfl | hx
        · omega
        · have := i1.1 x hx; omega
      · rw [List.mem_cons, i2 t, List.mem_cons (a := t) (b := p)]
theorem cpt_asc {W : List Int} (h : W.Pairwise (· ≤ ·)) : (cpt eqI W).Pairwise (· < ·) ∧ ∀ t, t ∈ cpt eqI W ↔ t ∈ W := by
  cases W with
  | nil => exact ⟨List.Pairwise.nil, fun t => Iff.rfl⟩
  | cons p l => exact cptG_asc l p h
theorem sri_pw {W : List Int} {n : Nat} (h : SrI W 0 n) (hl : W.length = n) : W.Pairwise (· ≤ ·) := by
  rw [List.pairwise_iff_getElem]
  intro i j hi hj hij
  have := h i j (Nat.zero_le _) hij (by omega)
  rw [gd_get (List.getElem?_eq_getElem hi), gd_get (List.getElem?_eq_getElem hj)] at this
  exact this
/-- What is sorted, and then compacted. -/
theorem srt_tms {A W : List Int} {n : Nat} (hP : Pq A 0 n W) (hS : SrI W 0 n) (hl : A.length = n) : Tms A (cpt eqI W) := by
  obtain ⟨h1, h2⟩ := cpt_asc (sri_pw hS (hP.1.length_eq.trans hl))
  exact ⟨h1, fun t => (h2 t).trans hP.1.mem_iff⟩
theorem srt_tms0 {A W : List Int} (hP : W.Perm A) (hS : W.Pairwise (· ≤ ·)) : Tms A (cpt eqI W) := by
  obtain ⟨h1, h2⟩ := cpt_asc hS
  exact ⟨h1, fun t => (h2 t).trans hP.mem_iff⟩
theorem Tms.len {A X : List Int} (h : Tms A X) : X.length ≤ A.length := by
  have key : ∀ (X A : List Int), X.Pairwise (· < ·) → (∀ t, t ∈ X → t ∈ A) → X.length ≤ A.length := by
    intro X
    induction X with
    | nil => intro A _ _; exact Nat.zero_le _
    | cons x X ih =>
      intro A h1 h2
      rw [List.pairwise_cons] at h1
      have hm : x ∈ A := h2 x List.mem_cons_self
      have := ih (A.erase x) h1.2 fun t ht => (List.mem_erase_of_ne (by have := h1.1 t ht; omega)).2 (h2 t (List.mem_cons_of_mem _ ht))
      rw [List.length_erase_of_mem hm] at this
      have := List.length_pos_of_mem hm
      rw [List.length_cons]
      omega
  exact key X A h.1 fun t => (h.2 t).1
end Go.Proofs.Yteilocpjikmmdaa.Sym
