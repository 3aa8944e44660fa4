/- Spans in plain Lean: which may be, how many nodes at a time, the times at which they begin or end, each once. -/
import Derived.Test.YtonpnkekcipmlaaProfRef
import Derived.Test.YtonpnkekcipmlaaSymPdq
namespace Go.Proofs.Ytonpnkekcipmlaa.Sym
set_option linter.unusedVariables false
set_option linter.unusedSimpArgs false
def spR (s : PSpan) : Bool := decide (0 ≤ s.from_) && (decide (s.from_ < s.to_) && (decide (s.to_ ≤ 1152921504606846976) && (decide (1 ≤ s.width) && decide (s.width ≤ 64))))
theorem spR_iff {s : PSpan} : spR s = true ↔ 0 ≤ s.from_ ∧ s.from_ < s.to_ ∧ s.to_ ≤ 1152921504606846976 ∧ 1 ≤ s.width ∧ s.width ≤ 64 := by
  unfold spR; simp only [Bool.and_eq_true, decide_eq_true_eq]
def onS (s : PSpan) (t : Int) : Bool := spR s && (decide (s.from_ ≤ t) && decide (t < s.to_))
theorem onS_iff {s : PSpan} {t : Int} : onS s t = true ↔ spR s = true ∧ s.from_ ≤ t ∧ t < s.to_ := by
  unfold onS; simp only [Bool.and_eq_true, decide_eq_true_eq]
def atS (L : List PSpan) (t : Int) : Int := L.foldl (fun n s => if onS s t = true then n + s.width else n) 0
theorem atS_take {L : List PSpan} {t : Int} {k : Nat} {s : PSpan} (hs : L[k]? = some s) : atS (L.take (k + 1)) t = if onS s t = true then atS (L.take k) t + s.width else atS (L.take k) t := by
  unfold atS; rw [takeS hs, List.foldl_append]; rfl
theorem atS_bd (L : List PSpan) (t : Int) : 0 ≤ atS L t ∧ atS L t ≤ 64 * (L.length : Int) := by
  have key : ∀ (L : List PSpan) (n : Int) (m : Nat), 0 ≤ n → n ≤ 64 * (m : Int) → 0 ≤ L.foldl (fun n s => if onS s t = true then n + s.width else n) n ∧ L.foldl (fun n s => if onS s t = true then n + s.width else n) n ≤ 64 * ((m + L.length : Nat) : Int) := by
    intro L
    induction L with
    | nil => intro n m h1 h2; exact ⟨h1, h2⟩
    | cons s L ih =>
      intro n m h1 h2
      have hs : onS s t = true → 1 ≤ s.width ∧ s.width ≤ 64 := fun h => by
        have := spR_iff.1 (onS_iff.1 h).1
        omega
      have := ih (if onS s t = true then n + s.width else n) (m + 1) (by split <;> (try have := hs (by assumption)) <;> omega) (by split <;> (try have := hs (by assumption)) <;> omega)
      rw [List.length_cons, show m + (L.length + 1) = m + 1 + L.length by omega]
      exact this
  have := key L 0 0 (Int.le_refl _) (by omega)
  rw [Nat.zero_add] at this
  exact this
/-- The times at which spans begin or end. -/
def tm1 (s : PSpan) : List Int := if spR s = true then [s.from_, s.to_] else []
def tmL (L : List PSpan) : List Int := L.flatMap tm1
theorem tmL_take {L : List PSpan} {k : Nat} {s : PSpan} (hs : L[k]? = some s) : tmL (L.take (k + 1)) = tmL (L.take k) ++ tm1 s := by
  unfold tmL; rw [takeS hs, List.flatMap_append, List.flatMap_cons, List.flatMap_nil, List.append_nil]
theorem tmL_len (L : List PSpan) : (tmL L).length ≤ 2 * L.length := by
  induction L with
  | nil => exact Nat.le_refl _
  | cons s L ih =>
    unfold tmL at *
    rw [List.flatMap_cons, List.length_append, List.length_cons]
    have : (tm1 s).length ≤ 2 := by unfold tm1; split <;> simp
    omega
theorem tmL_rng {L : List PSpan} {t : Int} (h : t ∈ tmL L) : 0 ≤ t ∧ t ≤ 1152921504606846976 := by
  unfold tmL at h
  rw [List.mem_flatMap] at h
  obtain ⟨s, _, h⟩ := h
  unfold tm1 at h
  split at h
  · rename_i q
    have := spR_iff.1 q
    simp at h
    omega
  · cases h
theorem tmL_take_mem {L : List PSpan} {k : Nat} {t : Int} (h : t ∈ tmL (L.take k)) : t ∈ tmL L := by
  unfold tmL at *
  rw [List.mem_flatMap] at *
  obtain ⟨s, hs, h⟩ := h
  exact ⟨s, List.mem_of_mem_take hs, h⟩
/-- Rising, and of the same numbers. -/
def Tms (A X : List Int) : Prop := X.Pairwise (· < ·) ∧ ∀ t, t ∈ X ↔ t ∈ A
theorem asc_uniq : ∀ {X Y : List Int}, X.Pairwise (· < ·) → Y.Pairwise (· < ·) → (∀ t, t ∈ X ↔ t ∈ Y) → X = Y
  | [], [], _, _, _ => rfl
  | [], y :: Y, _, _, h => by have := (h y).2 List.mem_cons_self; cases this
  | x :: X, [], _, _, h => by have := (h x).1 List.mem_cons_self; cases this
  | x :: X, y :: Y, hX, hY, h => by
    rw [List.pairwise_cons] at hX hY
    have e : x = y := by
      have h1 := (h x).1 List.mem_cons_self
      have h2 := (h y).2 List.mem_cons_self
      rw [List.mem_cons] at h1 h2
      rcases h1 with h1 | h1
      · exact h1
      · rcases h2 with h2 | h2
        · exact h2.symm
        · have q1 := hY.1 x h1
          have q2 := hX.1 y h2
          omega
    subst e
    congr 1
    refine asc_uniq hX.2 hY.2 fun t => ⟨fun q => ?_, fun q => ?_⟩
    · have h1 := (h t).1 (List.mem_cons_of_mem _ q)
      rw [List.mem_cons] at h1
      rcases h1 with rfl | h1
      · have := hX.1 _ q; omega
      · exact h1
    · have h1 := (h t).2 (List.mem_cons_of_mem _ q)
      rw [List.mem_cons] at h1
      rcases h1 with rfl | h1
      · have := hY.1 _ q; omega
      · exact h1
theorem Tms.uniq {A X Y : List Int} (h : Tms A X) (k : Tms A Y) : X = Y := asc_uniq h.1 k.1 fun t => (h.2 t).trans (k.2 t).symm
theorem cptG_asc : ∀ (l : List Int) (p : Int), (p :: l).Pairwise (· ≤ ·) → (p :: cptG eqI p l).Pairwise (· < ·) ∧ ∀ t, t ∈ p :: cptG eqI p l ↔ t ∈ p :: l
  | [], p, _ => by unfold cptG; exact ⟨by simp, fun t => Iff.rfl⟩
  | s :: l, p, h => by
    rw [List.pairwise_cons] at h
    obtain ⟨i1, i2⟩ := cptG_asc l s h.2
    have h2 := h.2
    rw [List.pairwise_cons] at i1 h2
    have hps := h.1 s List.mem_cons_self
    by_cases q : s = p
    · subst q
      have e : cptG eqI s (s :: l) = cptG eqI s l := by
        show (if eqI s s then cptG eqI s l else s :: cptG eqI s l) = _
        rw [if_pos (by unfold eqI; simp)]
      rw [e]
      exact ⟨List.pairwise_cons.2 i1, fun t => by rw [i2 t]; simp⟩
    · have e : cptG eqI p (s :: l) = s :: cptG eqI s l := by
        show (if eqI s p then cptG eqI s l else s :: cptG eqI s l) = _
        rw [if_neg (by unfold eqI; simp [q])]
      rw [e]
      refine ⟨List.pairwise_cons.2 ⟨fun x hx => ?_, List.pairwise_cons.2 i1⟩, fun t => ?_⟩
      · rw [List.mem_cons] at hx
        rcases hx with rfl | hx
        · omega
        · have := i1.1 x hx; omega
      · rw [List.mem_cons, i2 t, List.mem_cons (a := t) (b := p)]
theorem cpt_asc {W : List Int} (h : W.Pairwise (· ≤ ·)) : (cpt eqI W).Pairwise (· < ·) ∧ ∀ t, t ∈ cpt eqI W ↔ t ∈ W := by
  cases W with
  | nil => exact ⟨List.Pairwise.nil, fun t => Iff.rfl⟩
  | cons p l => exact cptG_asc l p h
theorem sri_pw {W : List Int} {n : Nat} (h : SrI W 0 n) (hl : W.length = n) : W.Pairwise (· ≤ ·) := by
  rw [List.pairwise_iff_getElem]
  intro i j hi hj hij
  have := h i j (Nat.zero_le _) hij (by omega)
  rw [gd_get (List.getElem?_eq_getElem hi), gd_get (List.getElem?_eq_getElem hj)] at this
  exact this
/-- What is sorted, and then compacted. -/
theorem srt_tms {A W : List Int} {n : Nat} (hP : Pq A 0 n W) (hS : SrI W 0 n) (hl : A.length = n) : Tms A (cpt eqI W) := by
  obtain ⟨h1, h2⟩ := cpt_asc (sri_pw hS (hP.1.length_eq.trans hl))
  exact ⟨h1, fun t => (h2 t).trans hP.1.mem_iff⟩
theorem srt_tms0 {A W : List Int} (hP : W.Perm A) (hS : W.Pairwise (· ≤ ·)) : Tms A (cpt eqI W) := by
  obtain ⟨h1, h2⟩ := cpt_asc hS
  exact ⟨h1, fun t => (h2 t).trans hP.mem_iff⟩
theorem Tms.len {A X : List Int} (h : Tms A X) : X.length ≤ A.length := by
  have key : ∀ (X A : List Int), X.Pairwise (· < ·) → (∀ t, t ∈ X → t ∈ A) → X.length ≤ A.length := by
    intro X
    induction X with
    | nil => intro A _ _; exact Nat.zero_le _
    | cons x X ih =>
      intro A h1 h2
      rw [List.pairwise_cons] at h1
      have hm : x ∈ A := h2 x List.mem_cons_self
      have := ih (A.erase x) h1.2 fun t ht => (List.mem_erase_of_ne (by have := h1.1 t ht; omega)).2 (h2 t (List.mem_cons_of_mem _ ht))
      rw [List.length_erase_of_mem hm] at this
      have := List.length_pos_of_mem hm
      rw [List.length_cons]
      omega
  exact key X A h.1 fun t => (h.2 t).1
/-- The least above the last one, so far as was looked; below 0: none. -/
def MinA (l : List Int) (last b : Int) : Prop := (b < 0 → ∀ x ∈ l, ¬ last < x) ∧ (0 ≤ b → b ∈ l ∧ last < b ∧ ∀ x ∈ l, last < x → b ≤ x)
theorem MinA.nil (last : Int) : MinA [] last (-1) := ⟨fun _ x hx => (by cases hx), fun h => by omega⟩
theorem MinA.snoc {l : List Int} {last b b' x : Int} (h : MinA l last b) (hx : 0 ≤ x) (hb : b' = if last < x ∧ (b < 0 ∨ x < b) then x else b) : MinA (l ++ [x]) last b' := by
  obtain ⟨h1, h2⟩ := h
  by_cases q : last < x ∧ (b < 0 ∨ x < b)
  · rw [if_pos q] at hb
    subst hb
    refine ⟨fun q2 => by omega, fun _ => ⟨by simp, q.1, fun y hy hy2 => ?_⟩⟩
    rw [List.mem_append] at hy
    rcases hy with hy | hy
    · rcases q.2 with q2 | q2
      · exact absurd hy2 (h1 q2 y hy)
      · by_cases q3 : b < 0
        · exact absurd hy2 (h1 q3 y hy)
        · have := (h2 (by omega)).2.2 y hy hy2
          omega
    · simp at hy; omega
  · rw [if_neg q] at hb
    subst hb
    refine ⟨fun q2 y hy => ?_, fun q2 => ⟨List.mem_append_left _ (h2 q2).1, (h2 q2).2.1, fun y hy hy2 => ?_⟩⟩
    · rw [List.mem_append] at hy
      rcases hy with hy | hy
      · exact h1 q2 y hy
      · simp at hy; omega
    · rw [List.mem_append] at hy
      rcases hy with hy | hy
      · exact (h2 q2).2.2 y hy hy2
      · simp at hy; omega
def abvA (x p : Int) : Bool := decide (x < p)
theorem filterA_lt {A : List Int} {x y : Int} (hxy : x ≤ y) (hm : y ∈ A) (hlt : x < y) : (A.filter (abvA y)).length < (A.filter (abvA x)).length := by
  have le : ∀ m : List Int, (m.filter (abvA y)).length ≤ (m.filter (abvA x)).length := by
    intro m
    induction m with
    | nil => exact Nat.le_refl _
    | cons z m ih =>
      by_cases h1 : abvA y z = true
      · rw [List.filter_cons_of_pos h1, List.filter_cons_of_pos (by unfold abvA at *; simp at *; omega)]; simp; exact ih
      · by_cases h2 : abvA x z = true
        · rw [List.filter_cons_of_neg h1, List.filter_cons_of_pos h2]; simp; omega
        · rw [List.filter_cons_of_neg h1, List.filter_cons_of_neg h2]; exact ih
  induction A with
  | nil => cases hm
  | cons z A ih =>
    rw [List.mem_cons] at hm
    rcases hm with rfl | hm
    · rw [List.filter_cons_of_pos (p := abvA x) (by unfold abvA; simp; omega), List.filter_cons_of_neg (p := abvA y) (by unfold abvA; simp)]
      have := le A
      simp; omega
    · have := ih hm
      by_cases h1 : abvA y z = true
      · rw [List.filter_cons_of_pos h1, List.filter_cons_of_pos (by unfold abvA at *; simp at *; omega)]; simp; exact this
      · by_cases h2 : abvA x z = true
        · rw [List.filter_cons_of_neg h1, List.filter_cons_of_pos h2]; simp; omega
        · rw [List.filter_cons_of_neg h1, List.filter_cons_of_neg h2]; exact this
/-- The times so far: k of them. -/
structure TmI (A X : List Int) (k : Nat) (last : Int) : Prop where
  asc : X.Pairwise (· < ·)
  sub : ∀ t ∈ X, t ∈ A ∧ t ≤ last
  comp : ∀ t ∈ A, t ≤ last → t ∈ X
  len : X.length = k
  cnt : (A.filter (abvA last)).length + k ≤ A.length
  lo : -1 ≤ last
theorem TmI.start {A : List Int} (hA : ∀ t ∈ A, 0 ≤ t) : TmI A [] 0 (-1) :=
  ⟨List.Pairwise.nil, fun t h => (by cases h), fun t h q => by have := hA t h; omega, rfl, List.length_filter_le _ _, Int.le_refl _⟩
theorem TmI.push {A X : List Int} {k : Nat} {last b : Int} (h : TmI A X k last) (hB : MinA A last b) (hb : ¬ b < 0) : TmI A (X ++ [b]) (k + 1) b := by
  obtain ⟨b1, b2, b3⟩ := hB.2 (by omega)
  refine ⟨?_, fun t ht => ?_, fun t ht q => ?_, by rw [List.length_append, h.len]; rfl, ?_, by omega⟩
  · rw [List.pairwise_append]
    refine ⟨h.asc, by simp, fun x hx y hy => ?_⟩
    simp at hy
    have := (h.sub x hx).2
    omega
  · rw [List.mem_append] at ht
    rcases ht with ht | ht
    · have := h.sub t ht; exact ⟨this.1, by omega⟩
    · simp at ht; subst ht; exact ⟨b1, Int.le_refl _⟩
  · rw [List.mem_append]
    rcases Int.lt_or_le last t with q2 | q2
    · have := b3 t ht q2
      exact .inr (by simp; omega)
    · exact .inl (h.comp t ht q2)
  · have := filterA_lt (A := A) (x := last) (y := b) (by omega) b1 b2
    have := h.cnt
    omega
theorem TmI.stop {A X : List Int} {k : Nat} {last b : Int} (h : TmI A X k last) (hB : MinA A last b) (hb : b < 0) : Tms A X :=
  ⟨h.asc, fun t => ⟨fun q => (h.sub t q).1, fun q => h.comp t q (by have := hB.1 hb t q; omega)⟩⟩
theorem TmI.full {A X : List Int} {k : Nat} {last : Int} (h : TmI A X k last) (hk : A.length ≤ k) : Tms A X :=
  ⟨h.asc, fun t => ⟨fun q => (h.sub t q).1, fun q => h.comp t q (by
    have h3 := h.cnt
    have h4 : (A.filter (abvA last)) = [] := List.length_eq_zero_iff.1 (by omega)
    have h5 := List.filter_eq_nil_iff.1 h4 t q
    unfold abvA at h5
    simp at h5
    omega)⟩⟩
/-- The most at any time between. -/
def pkF (f : Int → Int) (a b : Int) (X : List Int) (n : Int) : Int := X.foldl (fun n t => if a < t ∧ t < b then max n (f t) else n) n
theorem pkF_take {f : Int → Int} {a b n : Int} {X : List Int} {k : Nat} {t : Int} (ht : X[k]? = some t) : pkF f a b (X.take (k + 1)) n = if a < t ∧ t < b then max (pkF f a b (X.take k) n) (f t) else pkF f a b (X.take k) n := by
  unfold pkF; rw [takeS ht, List.foldl_append]; rfl
def peakS (L : List PSpan) (X : List Int) (a b : Int) : Int := if a < b then pkF (atS L) a b X (atS L a) else 0
/-- The steps behind a first one. -/
def stG (f : Int → Int) (a : Int) : Int → List Int → List PStep
  | _, [] => []
  | c, t :: X => if a < t ∧ ¬ f t = c then ⟨t, f t⟩ :: stG f a (f t) X else stG f a c X
def stepsS (f : Int → Int) (a : Int) (X : List Int) : List PStep := ⟨a, f a⟩ :: stG f a (f a) X
theorem drop_get {α : Type} {X : List α} {k : Nat} {t : α} (h : X[k]? = some t) : X.drop k = t :: X.drop (k + 1) := by
  obtain ⟨h1, rfl⟩ := List.getElem?_eq_some_iff.1 h
  exact List.drop_eq_getElem_cons h1
theorem stG_put {f : Int → Int} {a c t : Int} {X : List Int} {k : Nat} (h : X[k]? = some t) (h1 : a < t) (h2 : ¬ f t = c) : stG f a c (X.drop k) = ⟨t, f t⟩ :: stG f a (f t) (X.drop (k + 1)) := by
  rw [drop_get h]
  show (if a < t ∧ ¬ f t = c then _ else _) = _
  rw [if_pos ⟨h1, h2⟩]
theorem stG_skip {f : Int → Int} {a c t : Int} {X : List Int} {k : Nat} (h : X[k]? = some t) (h1 : t ≤ a ∨ f t = c) : stG f a c (X.drop k) = stG f a c (X.drop (k + 1)) := by
  rw [drop_get h]
  show (if a < t ∧ ¬ f t = c then _ else _) = _
  rw [if_neg (by rcases h1 with q | q <;> first | omega | exact fun h => h.2 q)]
theorem stG_len (f : Int → Int) (a : Int) : ∀ (X : List Int) (c : Int), (stG f a c X).length ≤ X.length
  | [], _ => Nat.le_refl _
  | t :: X, c => by
    unfold stG
    split
    · have := stG_len f a X (f t); simp; omega
    · have := stG_len f a X c; simp; omega
/-- What lies ahead of a time is cut off. -/
def cutF (a : Int) (s : PSpan) : Option PSpan := if spR s = true ∧ a < s.to_ then some ⟨max s.from_ a, s.to_, s.width⟩ else none
def cutL (L : List PSpan) (a : Int) : List PSpan := L.filterMap (cutF a)
theorem cutL_take {L : List PSpan} {a : Int} {k : Nat} {s : PSpan} (hs : L[k]? = some s) : cutL (L.take (k + 1)) a = cutL (L.take k) a ++ (cutF a s).toList := by
  unfold cutL; rw [takeS hs, List.filterMap_append]
  cases h : cutF a s with
  | none => rw [List.filterMap_cons_none h]; rfl
  | some y => rw [List.filterMap_cons_some h]; rfl
theorem cutL_at {L : List PSpan} {a : Int} {k : Nat} {s y : PSpan} (hs : L[k]? = some s) (hy : cutF a s = some y) : (cutL L a)[(cutL (L.take k) a).length]? = some y := by
  have e : L = L.take k ++ s :: L.drop (k + 1) := by rw [← drop_get hs, List.take_append_drop]
  have e2 : cutL L a = cutL (L.take k) a ++ y :: cutL (L.drop (k + 1)) a := by
    conv => lhs; rw [e]
    unfold cutL
    rw [List.filterMap_append, List.filterMap_cons_some hy]
  rw [e2, List.getElem?_append_right (Nat.le_refl _), Nat.sub_self]; rfl
theorem cutL_len (L : List PSpan) (a : Int) : (cutL L a).length ≤ L.length := List.length_filterMap_le _ _
/-- When the last one ends. -/
def lstF (L : List PSpan) : Int := L.foldl (fun t s => if spR s = true then max t s.to_ else t) 0
theorem lstF_take {L : List PSpan} {k : Nat} {s : PSpan} (hs : L[k]? = some s) : lstF (L.take (k + 1)) = if spR s = true then max (lstF (L.take k)) s.to_ else lstF (L.take k) := by
  unfold lstF; rw [takeS hs, List.foldl_append]; rfl
end Go.Proofs.Ytonpnkekcipmlaa.Sym
