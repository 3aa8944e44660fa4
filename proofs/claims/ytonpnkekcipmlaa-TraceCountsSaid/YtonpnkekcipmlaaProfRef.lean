/- The document's profile, and that steps tell the same: plain Lean, no program in sight. -/
import Derived.Test.YtonpnkekcipmlaaProfLaw
namespace Go.Proofs.Ytonpnkekcipmlaa.Sym
set_option linter.unusedVariables false
set_option linter.unusedSimpArgs false
def spOn (s : PSpan) (t : Int) : Bool := decide (s.from_ ≤ t) && (decide (t < s.to_) || decide (s.to_ = 1152921504606846976))
def atP (free : Int) (L : List PSpan) (t : Int) : Int := L.foldl (fun n s => if spOn s t = true then n + s.width else n) free
theorem atP_take {free : Int} {L : List PSpan} {t : Int} {k : Nat} {s : PSpan} (hs : L[k]? = some s) : atP free (L.take (k + 1)) t = if spOn s t = true then atP free (L.take k) t + s.width else atP free (L.take k) t := by
  unfold atP; rw [takeS hs, List.foldl_append]; rfl
theorem atP_snoc {free : Int} {L : List PSpan} {t : Int} {s : PSpan} : atP free (L ++ [s]) t = if spOn s t = true then atP free L t + s.width else atP free L t := by
  unfold atP; rw [List.foldl_append]; rfl
def SpOk (s : PSpan) : Prop := s.from_ < s.to_ ∧ s.to_ ≤ 1152921504606846976 ∧ 0 ≤ s.from_ ∧ -64 ≤ s.width ∧ s.width ≤ 64
def PEnds (L : List PSpan) (p : Int) : Prop := ∃ s ∈ L, p = s.from_ ∨ p = s.to_
theorem atP_bd {L : List PSpan} (h : ∀ s ∈ L, SpOk s) (t : Int) : ∀ (n : Int) (m : Nat), -(64 * (m : Int)) ≤ n → n ≤ 64 * (m : Int) → -(64 * ((m + L.length : Nat) : Int)) ≤ atP n L t ∧ atP n L t ≤ 64 * ((m + L.length : Nat) : Int) := by
  induction L with
  | nil => intro n m h1 h2; exact ⟨h1, h2⟩
  | cons s L ih =>
    intro n m h1 h2
    have hs := h s List.mem_cons_self
    unfold SpOk at hs
    have := ih (fun x hx => h x (List.mem_cons_of_mem _ hx)) (if spOn s t = true then n + s.width else n) (m + 1) (by split <;> omega) (by split <;> omega)
    rw [List.length_cons, show m + (L.length + 1) = m + 1 + L.length by omega]
    exact this
theorem atP_const {free : Int} {L : List PSpan} (hL : ∀ s ∈ L, SpOk s) {c u : Int} (hcu : c ≤ u) (hno : ∀ p, PEnds L p → c < p → p ≤ u → 1152921504606846976 ≤ p) : atP free L c = atP free L u := by
  have key : ∀ (M : List PSpan) (n : Int), (∀ s ∈ M, s ∈ L) → atP n M c = atP n M u := by
    intro M
    induction M with
    | nil => intro n _; rfl
    | cons s M ih =>
      intro n hM
      have hs := hM s List.mem_cons_self
      have ok := hL s hs
      unfold SpOk at ok
      have e : spOn s c = spOn s u := by
        have h1 := hno s.from_ ⟨s, hs, .inl rfl⟩
        have h2 := hno s.to_ ⟨s, hs, .inr rfl⟩
        unfold spOn
        rw [Bool.eq_iff_iff]
        simp only [Bool.and_eq_true, Bool.or_eq_true, decide_eq_true_eq]
        omega
      show atP (if spOn s c = true then n + s.width else n) M c = atP (if spOn s u = true then n + s.width else n) M u
      rw [e]
      exact ih _ fun x hx => hM x (List.mem_cons_of_mem _ hx)
  exact key L free fun _ h => h
/-- The times at which it may change. -/
structure EdgesOk (now : Int) (L : List PSpan) (e : List Int) : Prop where
  head : e[0]? = some now
  ris : e.Pairwise (· < ·)
  all : ∀ p, PEnds L p → now < p → p < 1152921504606846976 → p ∈ e
  lt : ∀ p ∈ e, p < 1152921504606846976
def eS (f : Int → Int) (e : List Int) : List PStep := e.map fun t => ⟨t, f t⟩
theorem eS_get {f : Int → Int} {e : List Int} {i : Nat} {t : Int} (h : e[i]? = some t) : (eS f e)[i]? = some ⟨t, f t⟩ := by unfold eS; rw [List.getElem?_map, h]; rfl
theorem eS_at {f : Int → Int} {e : List Int} {i : Nat} {s : PStep} (h : (eS f e)[i]? = some s) : ∃ t, e[i]? = some t ∧ s = ⟨t, f t⟩ := by
  unfold eS at h
  rw [List.getElem?_map] at h
  cases h2 : e[i]? with
  | none => rw [h2] at h; cases h
  | some t => rw [h2] at h; cases h; exact ⟨t, rfl, rfl⟩
theorem eS_ris {f : Int → Int} {e : List Int} (h : e.Pairwise (· < ·)) : Ris (eS f e) := by
  unfold Ris eS; rw [List.pairwise_map]; exact h
/-- The last edge that is not above a time. -/
theorem EdgesOk.last {now : Int} {L : List PSpan} {e : List Int} (h : EdgesOk now L e) {t : Int} (ht : now ≤ t) : ∃ (i : Nat) (c : Int), e[i]? = some c ∧ c ≤ t ∧ now ≤ c ∧ ∀ p, PEnds L p → c < p → p ≤ t → 1152921504606846976 ≤ p := by
  obtain ⟨i, ⟨s, h1, h2⟩, h3⟩ := idx_ex (S := eS (fun _ => 0) e) t (fun q => by have := h.head; cases e with | nil => simp at this | cons a l => cases q)
  obtain ⟨c, hc, rfl⟩ := eS_at h1
  have hR := eS_ris (f := fun _ => 0) h.ris
  have hn : now ≤ c := hR.le (eS_get h.head) h1 (Nat.zero_le _)
  have hct : c ≤ t := by
    rcases h2 with rfl | h2
    · rw [h.head] at hc; cases hc; exact ht
    · exact h2
  refine ⟨i, c, hc, hct, hn, fun p hp hcp hpt => ?_⟩
  rcases Int.lt_or_le p 1152921504606846976 with q | q
  · obtain ⟨j, hj⟩ := List.getElem?_of_mem (h.all p hp (by omega) q)
    have hj2 := eS_get (f := fun _ => 0) hj
    rcases Nat.lt_or_ge i j with q2 | q2
    · obtain ⟨x, hx⟩ := get_ex (show i + 1 < (eS (fun _ => 0) e).length by have := get_lt hj2; omega)
      have q3 := h3 x hx
      have q4 : x.at_ ≤ p := hR.le hx hj2 (by omega)
      omega
    · have q4 : p ≤ c := hR.le hj2 h1 q2
      omega
  · exact q
structure Rep (S : List PStep) (now : Int) (f : Int → Int) : Prop where
  head : ∃ s, S[0]? = some s ∧ s.at_ = now
  ris : Ris S
  dst : Dst S
  fr : ∀ t, now ≤ t → frS S t = f t
  lt : ∀ s ∈ S, s.at_ < 1152921504606846976
theorem Rep.ge {S : List PStep} {now : Int} {f : Int → Int} (h : Rep S now f) {i : Nat} {s : PStep} (hs : S[i]? = some s) : now ≤ s.at_ := by
  obtain ⟨x, h1, h2⟩ := h.head
  rw [← h2]; exact h.ris.le h1 hs (Nat.zero_le _)
theorem Rep.free {S : List PStep} {now : Int} {f : Int → Int} (h : Rep S now f) {i : Nat} {s : PStep} (hs : S[i]? = some s) : s.free = f s.at_ := by
  rw [← h.fr _ (h.ge hs), frS_self h.ris hs]
theorem Rep.congr {S : List PStep} {now : Int} {f g : Int → Int} (h : Rep S now f) (hg : ∀ t, now ≤ t → f t = g t) : Rep S now g := ⟨h.head, h.ris, h.dst, fun t ht => (h.fr t ht).trans (hg t ht), h.lt⟩
/-- The document's steps are the program's. -/
theorem Rep.steps {S : List PStep} {now free : Int} {L : List PSpan} {e : List Int} (h : Rep S now (atP free L)) (hL : ∀ s ∈ L, SpOk s) (he : EdgesOk now L e) : cpt eqF (eS (atP free L) e) = S := by
  have hR := eS_ris (f := atP free L) he.ris
  refine steps_uniq (now := now) (cpt_ris hR) h.ris (cpt_dst _) h.dst ⟨⟨now, atP free L now⟩, cpt_head (eS_get he.head), rfl⟩ h.head fun t ht => ?_
  rw [cpt_fr hR, h.fr t ht]
  obtain ⟨i, hi⟩ := idx_ex (S := eS (atP free L) e) t (fun q => by have := he.head; cases e with | nil => simp at this | cons a l => cases q)
  have hi0 := hi
  obtain ⟨⟨s, h1, h2⟩, h3⟩ := hi
  obtain ⟨c, hc, rfl⟩ := eS_at h1
  rw [frS_at hR hi0 h1]
  have hct : c ≤ t := by
    rcases h2 with rfl | h2
    · rw [he.head] at hc; cases hc; exact ht
    · exact h2
  have hn : now ≤ c := hR.le (eS_get he.head) h1 (Nat.zero_le _)
  refine atP_const hL hct fun p hp hcp hpt => ?_
  rcases Int.lt_or_le p 1152921504606846976 with q | q
  · obtain ⟨j, hj⟩ := List.getElem?_of_mem (he.all p hp (by omega) q)
    have hj2 := eS_get (f := atP free L) hj
    rcases Nat.lt_or_ge i j with q2 | q2
    · obtain ⟨x, hx⟩ := get_ex (show i + 1 < (eS (atP free L) e).length by have := get_lt hj2; omega)
      have q3 := h3 x hx
      have q4 : x.at_ ≤ p := hR.le hx hj2 (by omega)
      omega
    · have q4 : p ≤ c := hR.le hj2 h1 q2
      omega
  · exact q
/-! ### the least, and the most -/
def MinOn (f : Int → Int) (a b m : Int) : Prop := m ≤ 64 ∧ (∀ t, a ≤ t → t < b → m ≤ f t) ∧ (m = 64 ∨ ∃ t, a ≤ t ∧ t < b ∧ f t = m)
def MaxOn (f : Int → Int) (a b m : Int) : Prop := 0 ≤ m ∧ (∀ t, a ≤ t → t < b → f t ≤ m) ∧ (m = 0 ∨ ∃ t, a ≤ t ∧ t < b ∧ f t = m)
theorem MinOn.uniq {f : Int → Int} {a b m n : Int} (h : MinOn f a b m) (k : MinOn f a b n) : m = n := by
  obtain ⟨h1, h2, h3⟩ := h
  obtain ⟨k1, k2, k3⟩ := k
  have q1 : m ≤ n := by rcases k3 with q | ⟨t, q1, q2, q3⟩; omega; have := h2 t q1 q2; omega
  have q2 : n ≤ m := by rcases h3 with q | ⟨t, q1, q2, q3⟩; omega; have := k2 t q1 q2; omega
  omega
theorem MaxOn.uniq {f : Int → Int} {a b m n : Int} (h : MaxOn f a b m) (k : MaxOn f a b n) : m = n := by
  obtain ⟨h1, h2, h3⟩ := h
  obtain ⟨k1, k2, k3⟩ := k
  have q1 : n ≤ m := by rcases k3 with q | ⟨t, q1, q2, q3⟩; omega; have := h2 t q1 q2; omega
  have q2 : m ≤ n := by rcases h3 with q | ⟨t, q1, q2, q3⟩; omega; have := k2 t q1 q2; omega
  omega
def Feas (f : Int → Int) (long w t : Int) : Prop := ∀ u, t ≤ u → u < t + long → w ≤ f u
theorem MinOn.feas {f : Int → Int} {t long w m : Int} (h : MinOn f t (t + long) m) (hw : w ≤ 64) : w ≤ m ↔ Feas f long w t := by
  obtain ⟨h1, h2, h3⟩ := h
  constructor
  · intro q u q1 q2; have := h2 u q1 q2; omega
  · intro q
    rcases h3 with q1 | ⟨u, q1, q2, q3⟩
    · omega
    · have := q u q1 q2; omega
def FirstOk (f : Int → Int) (t0 long w : Int) : Option Int → Prop
  | some t => t0 ≤ t ∧ t ≤ 1099511627776 ∧ Feas f long w t ∧ ∀ t', t0 ≤ t' → t' < t → ¬ Feas f long w t'
  | none => ∀ t', t0 ≤ t' → t' ≤ 1099511627776 → ¬ Feas f long w t'
theorem FirstOk.uniq {f : Int → Int} {t0 long w : Int} {r r' : Option Int} (h : FirstOk f t0 long w r) (k : FirstOk f t0 long w r') : r = r' := by
  match r, r', h, k with
  | none, none, _, _ => rfl
  | some t, none, h, k => exact absurd h.2.2.1 (k t h.1 h.2.1)
  | none, some t, h, k => exact absurd k.2.2.1 (h t k.1 k.2.1)
  | some t, some u, h, k =>
    have q1 : ¬ t < u := fun q => k.2.2.2 t h.1 q h.2.2.1
    have q2 : ¬ u < t := fun q => h.2.2.2 u k.1 q k.2.2.1
    congr 1; omega
/-! the program's loops -/
def MinI (S : List PStep) (i0 k : Nat) (n : Int) : Prop := n ≤ 64 ∧ (∀ j s, i0 ≤ j → j < k → S[j]? = some s → n ≤ s.free) ∧ (n = 64 ∨ ∃ j s, i0 ≤ j ∧ j < k ∧ S[j]? = some s ∧ s.free = n)
def MaxI (S : List PStep) (i0 k : Nat) (n : Int) : Prop := 0 ≤ n ∧ (∀ j s, i0 ≤ j → j < k → S[j]? = some s → s.free ≤ n) ∧ (n = 0 ∨ ∃ j s, i0 ≤ j ∧ j < k ∧ S[j]? = some s ∧ s.free = n)
def HitI (S : List PStep) (i0 k : Nat) (to_ : Int) : Prop := ∀ j s, i0 ≤ j → j < k → S[j]? = some s → s.at_ < to_
theorem MinI.start {S : List PStep} {i0 : Nat} : MinI S i0 i0 64 := ⟨Int.le_refl _, fun j s h1 h2 => by omega, .inl rfl⟩
theorem MaxI.start {S : List PStep} {i0 : Nat} : MaxI S i0 i0 0 := ⟨Int.le_refl _, fun j s h1 h2 => by omega, .inl rfl⟩
theorem HitI.start {S : List PStep} {i0 : Nat} {t : Int} : HitI S i0 i0 t := fun j s h1 h2 => by omega
theorem HitI.step {S : List PStep} {i0 k : Nat} {t : Int} {s : PStep} (h : HitI S i0 k t) (hs : S[k]? = some s) (ht : s.at_ < t) : HitI S i0 (k + 1) t := fun j x h1 h2 hx => by
  by_cases e : j = k
  · subst e; rw [hs] at hx; cases hx; exact ht
  · exact h j x h1 (by omega) hx
theorem MinI.step {S : List PStep} {i0 k : Nat} {n : Int} {s : PStep} (h : MinI S i0 k n) (hk : i0 ≤ k) (hs : S[k]? = some s) : MinI S i0 (k + 1) (min n s.free) := by
  obtain ⟨h1, h2, h3⟩ := h
  refine ⟨by omega, fun j x q1 q2 hx => ?_, ?_⟩
  · by_cases e : j = k
    · subst e; rw [hs] at hx; cases hx; omega
    · have := h2 j x q1 (by omega) hx; omega
  · by_cases q : s.free < n
    · exact .inr ⟨k, s, hk, by omega, hs, by omega⟩
    · rcases h3 with h3 | ⟨j, x, q1, q2, q3, q4⟩
      · exact .inl (by omega)
      · exact .inr ⟨j, x, q1, by omega, q3, by omega⟩
theorem MaxI.step {S : List PStep} {i0 k : Nat} {n : Int} {s : PStep} (h : MaxI S i0 k n) (hk : i0 ≤ k) (hs : S[k]? = some s) : MaxI S i0 (k + 1) (max n s.free) := by
  obtain ⟨h1, h2, h3⟩ := h
  refine ⟨by omega, fun j x q1 q2 hx => ?_, ?_⟩
  · by_cases e : j = k
    · subst e; rw [hs] at hx; cases hx; omega
    · have := h2 j x q1 (by omega) hx; omega
  · by_cases q : n < s.free
    · exact .inr ⟨k, s, hk, by omega, hs, by omega⟩
    · rcases h3 with h3 | ⟨j, x, q1, q2, q3, q4⟩
      · exact .inl (by omega)
      · exact .inr ⟨j, x, q1, by omega, q3, by omega⟩
/-- Each time of the stretch lies in a step that was looked at, and each of these has such a time. -/
theorem Rep.cover {S : List PStep} {now : Int} {f : Int → Int} (h : Rep S now f) {from_ to_ : Int} (h1 : now ≤ from_) (h2 : from_ < to_) {i0 k : Nat} (hi : IdxOk S from_ i0) (hh : HitI S i0 k to_) (he : S.length ≤ k ∨ ∃ s, S[k]? = some s ∧ to_ ≤ s.at_) :
    (∀ t, from_ ≤ t → t < to_ → ∃ j s, i0 ≤ j ∧ j < k ∧ S[j]? = some s ∧ f t = s.free) ∧ ∀ j s, i0 ≤ j → j < k → S[j]? = some s → ∃ t, from_ ≤ t ∧ t < to_ ∧ f t = s.free := by
  obtain ⟨s0, hs0, _⟩ := h.head
  have hne : S ≠ [] := fun q => by subst q; simp at hs0
  constructor
  · intro t ht1 ht2
    obtain ⟨j, hj⟩ := idx_ex t hne
    have hj0 := hj
    obtain ⟨⟨s, q1, q2⟩, q3⟩ := hj
    refine ⟨j, s, idx_mono h.ris hi hj0 ht1, ?_, q1, by rw [← h.fr t (by omega), frS_at h.ris hj0 q1]⟩
    rcases he with he | ⟨x, hx, hx2⟩
    · have := get_lt q1; omega
    · rcases Nat.lt_or_ge j k with q | q
      · exact q
      · have := h.ris.le hx q1 q
        rcases q2 with rfl | q2
        · have e : k = 0 := by omega
          subst e
          rw [hx] at q1; cases q1
          have := h.ge hx
          obtain ⟨y, hy1, hy2⟩ := h.head
          rw [hx] at hy1; cases hy1
          omega
        · omega
  · intro j s q1 q2 hs
    by_cases e : j = i0
    · subst e
      refine ⟨from_, Int.le_refl _, h2, ?_⟩
      rw [← h.fr _ h1, frS_at h.ris hi hs]
    · refine ⟨s.at_, ?_, hh j s q1 q2 hs, by rw [h.free hs]⟩
      obtain ⟨x, hx⟩ := get_ex (show i0 + 1 < S.length by have := get_lt hs; omega)
      have := hi.2 x hx
      have := h.ris.le hx hs (by omega)
      omega
theorem MinI.done {S : List PStep} {now : Int} {f : Int → Int} (h : Rep S now f) {from_ to_ n : Int} (h1 : now ≤ from_) (h2 : from_ < to_) {i0 k : Nat} (hi : IdxOk S from_ i0) (hh : HitI S i0 k to_) (he : S.length ≤ k ∨ ∃ s, S[k]? = some s ∧ to_ ≤ s.at_) (hm : MinI S i0 k n) : MinOn f from_ to_ n := by
  obtain ⟨c1, c2⟩ := h.cover h1 h2 hi hh he
  obtain ⟨m1, m2, m3⟩ := hm
  refine ⟨m1, fun t q1 q2 => ?_, ?_⟩
  · obtain ⟨j, s, a1, a2, a3, a4⟩ := c1 t q1 q2
    rw [a4]; exact m2 j s a1 a2 a3
  · rcases m3 with m3 | ⟨j, s, a1, a2, a3, a4⟩
    · exact .inl m3
    · obtain ⟨t, q1, q2, q3⟩ := c2 j s a1 a2 a3
      exact .inr ⟨t, q1, q2, by omega⟩
theorem MaxI.done {S : List PStep} {now : Int} {f : Int → Int} (h : Rep S now f) {from_ to_ n : Int} (h1 : now ≤ from_) (h2 : from_ < to_) {i0 k : Nat} (hi : IdxOk S from_ i0) (hh : HitI S i0 k to_) (he : S.length ≤ k ∨ ∃ s, S[k]? = some s ∧ to_ ≤ s.at_) (hm : MaxI S i0 k n) : MaxOn f from_ to_ n := by
  obtain ⟨c1, c2⟩ := h.cover h1 h2 hi hh he
  obtain ⟨m1, m2, m3⟩ := hm
  refine ⟨m1, fun t q1 q2 => ?_, ?_⟩
  · obtain ⟨j, s, a1, a2, a3, a4⟩ := c1 t q1 q2
    rw [a4]; exact m2 j s a1 a2 a3
  · rcases m3 with m3 | ⟨j, s, a1, a2, a3, a4⟩
    · exact .inl m3
    · obtain ⟨t, q1, q2, q3⟩ := c2 j s a1 a2 a3
      exact .inr ⟨t, q1, q2, by omega⟩
/-! the document's loops: the stretch's begin, then all edges -/
def MinE (f : Int → Int) (e : List Int) (a b : Int) (k : Nat) (n : Int) : Prop := n ≤ 64 ∧ (∀ j p, j < k → e[j]? = some p → a ≤ p → p < b → n ≤ f p) ∧ (n = 64 ∨ ∃ p, a ≤ p ∧ p < b ∧ f p = n)
def MaxE (f : Int → Int) (e : List Int) (a b : Int) (k : Nat) (n : Int) : Prop := 0 ≤ n ∧ (∀ j p, j < k → e[j]? = some p → a ≤ p → p < b → f p ≤ n) ∧ (n = 0 ∨ ∃ p, a ≤ p ∧ p < b ∧ f p = n)
theorem MinE.start {f : Int → Int} {e : List Int} {a b : Int} : MinE f e a b 0 64 := ⟨Int.le_refl _, fun j p h => by omega, .inl rfl⟩
theorem MaxE.start {f : Int → Int} {e : List Int} {a b : Int} : MaxE f e a b 0 0 := ⟨Int.le_refl _, fun j p h => by omega, .inl rfl⟩
theorem MinE.skip {f : Int → Int} {e : List Int} {a b n p : Int} {k : Nat} (h : MinE f e a b k n) (hp : e[k]? = some p) (hq : p < a ∨ b ≤ p) : MinE f e a b (k + 1) n :=
  ⟨h.1, fun j x q1 hx q2 q3 => by
    by_cases e : j = k
    · subst e; rw [hp] at hx; cases hx; omega
    · exact h.2.1 j x (by omega) hx q2 q3, h.2.2⟩
theorem MaxE.skip {f : Int → Int} {e : List Int} {a b n p : Int} {k : Nat} (h : MaxE f e a b k n) (hp : e[k]? = some p) (hq : p < a ∨ b ≤ p) : MaxE f e a b (k + 1) n :=
  ⟨h.1, fun j x q1 hx q2 q3 => by
    by_cases e : j = k
    · subst e; rw [hp] at hx; cases hx; omega
    · exact h.2.1 j x (by omega) hx q2 q3, h.2.2⟩
theorem MinE.step {f : Int → Int} {e : List Int} {a b n p : Int} {k : Nat} (h : MinE f e a b k n) (hp : e[k]? = some p) (h1 : a ≤ p) (h2 : p < b) {m : Int} (hm : m = if f p < n then f p else n) : MinE f e a b (k + 1) m := by
  obtain ⟨g1, g2, g3⟩ := h
  have hmin : m = min n (f p) := by rw [hm]; split <;> omega
  refine ⟨by omega, fun j x q1 hx q2 q3 => ?_, ?_⟩
  · by_cases e : j = k
    · subst e; rw [hp] at hx; cases hx; omega
    · have := g2 j x (by omega) hx q2 q3; omega
  · by_cases q : f p < n
    · exact .inr ⟨p, h1, h2, by omega⟩
    · rcases g3 with g3 | ⟨x, q1, q2, q3⟩
      · exact .inl (by omega)
      · exact .inr ⟨x, q1, q2, by omega⟩
theorem MaxE.step {f : Int → Int} {e : List Int} {a b n p : Int} {k : Nat} (h : MaxE f e a b k n) (hp : e[k]? = some p) (h1 : a ≤ p) (h2 : p < b) {m : Int} (hm : m = if n < f p then f p else n) : MaxE f e a b (k + 1) m := by
  obtain ⟨g1, g2, g3⟩ := h
  have hmin : m = max n (f p) := by rw [hm]; split <;> omega
  refine ⟨by omega, fun j x q1 hx q2 q3 => ?_, ?_⟩
  · by_cases e : j = k
    · subst e; rw [hp] at hx; cases hx; omega
    · have := g2 j x (by omega) hx q2 q3; omega
  · by_cases q : n < f p
    · exact .inr ⟨p, h1, h2, by omega⟩
    · rcases g3 with g3 | ⟨x, q1, q2, q3⟩
      · exact .inl (by omega)
      · exact .inr ⟨x, q1, q2, by omega⟩
/-- Of each time there is one that was looked at, from which on nothing changes. -/
theorem EdgesOk.cand {now free : Int} {L : List PSpan} {e : List Int} (he : EdgesOk now L e) (hL : ∀ s ∈ L, SpOk s) {a t : Int} (h1 : now ≤ a) (h2 : a ≤ t) : ∃ (j : Nat) (c : Int), (a :: e)[j]? = some c ∧ a ≤ c ∧ c ≤ t ∧ ∀ u, c ≤ u → u ≤ t → atP free L u = atP free L t := by
  obtain ⟨i, c, k1, k2, k3, k4⟩ := he.last (t := t) (by omega)
  rcases Int.lt_or_le c a with q | q
  · refine ⟨0, a, rfl, Int.le_refl _, h2, fun u q1 q2 => atP_const hL q2 fun p hp p1 p2 => k4 p hp (by omega) p2⟩
  · refine ⟨i + 1, c, by rw [List.getElem?_cons_succ]; exact k1, q, k2, fun u q1 q2 => atP_const hL q2 fun p hp p1 p2 => k4 p hp (by omega) p2⟩
theorem MinE.done {now free : Int} {L : List PSpan} {e : List Int} (he : EdgesOk now L e) (hL : ∀ s ∈ L, SpOk s) {a b n : Int} (h1 : now ≤ a) {k : Nat} (hk : (a :: e).length ≤ k) (hm : MinE (atP free L) (a :: e) a b k n) : MinOn (atP free L) a b n := by
  obtain ⟨m1, m2, m3⟩ := hm
  refine ⟨m1, fun t q1 q2 => ?_, m3⟩
  obtain ⟨j, c, c1, c2, c3, c4⟩ := he.cand hL h1 q1 (free := free)
  rw [← c4 c (Int.le_refl _) c3]
  exact m2 j c (by have := get_lt c1; omega) c1 c2 (by omega)
theorem MaxE.done {now free : Int} {L : List PSpan} {e : List Int} (he : EdgesOk now L e) (hL : ∀ s ∈ L, SpOk s) {a b n : Int} (h1 : now ≤ a) {k : Nat} (hk : (a :: e).length ≤ k) (hm : MaxE (atP free L) (a :: e) a b k n) : MaxOn (atP free L) a b n := by
  obtain ⟨m1, m2, m3⟩ := hm
  refine ⟨m1, fun t q1 q2 => ?_, m3⟩
  obtain ⟨j, c, c1, c2, c3, c4⟩ := he.cand hL h1 q1 (free := free)
  rw [← c4 c (Int.le_refl _) c3]
  exact m2 j c (by have := get_lt c1; omega) c1 c2 (by omega)
/-! ### the earliest -/
/-- The program's loop: from t on so far enough are free, up to the i-th step; no earlier time will do. -/
def EarI (S : List PStep) (f : Int → Int) (t0 long w : Int) (i : Nat) (t : Int) : Prop :=
  t0 ≤ t ∧ i ≤ S.length ∧ (∀ t', t0 ≤ t' → t' < t → ¬ Feas f long w t') ∧ (∀ u, t ≤ u → (∀ s, S[i]? = some s → u < s.at_) → w ≤ f u) ∧ ∀ s, S[i]? = some s → ∀ u, t ≤ u → s.at_ ≤ u → (∀ s', S[i + 1]? = some s' → u < s'.at_) → f u = s.free
theorem Rep.in_step {S : List PStep} {now : Int} {f : Int → Int} (h : Rep S now f) {i : Nat} {s : PStep} (hs : S[i]? = some s) {u : Int} (h1 : s.at_ ≤ u) (h2 : ∀ s', S[i + 1]? = some s' → u < s'.at_) : f u = s.free := by
  rw [← h.fr u (by have := h.ge hs; omega)]
  exact frS_at h.ris ⟨⟨s, hs, .inr h1⟩, h2⟩ hs
theorem EarI.start {S : List PStep} {now : Int} {f : Int → Int} (h : Rep S now f) {t0 long w : Int} {i : Nat} (h0 : now ≤ t0) (hi : IdxOk S t0 i) : EarI S f t0 long w i t0 := by
  obtain ⟨⟨s, h1, h2⟩, h3⟩ := hi
  refine ⟨Int.le_refl _, Nat.le_of_lt (get_lt h1), fun t' q1 q2 => by omega, fun u q1 q2 => ?_, fun s' hs' u q1 q2 q3 => h.in_step hs' q2 q3⟩
  have := q2 s h1
  rcases h2 with rfl | h2
  · obtain ⟨x, hx1, hx2⟩ := h.head
    rw [h1] at hx1; cases hx1; omega
  · omega
/-- Enough up to the end of the stretch. -/
theorem EarI.found {S : List PStep} {f : Int → Int} {t0 long w t : Int} {i : Nat} (h : EarI S f t0 long w i t) (hend : S.length ≤ i ∨ ∃ s, S[i]? = some s ∧ t + long ≤ s.at_) : Feas f long w t := fun u q1 q2 => by
  refine h.2.2.2.1 u q1 fun s hs => ?_
  rcases hend with he | ⟨x, hx, he⟩
  · have := get_lt hs; omega
  · rw [hx] at hs; cases hs; omega
theorem EarI.skip {S : List PStep} {now : Int} {f : Int → Int} (hr : Rep S now f) {t0 long w t : Int} {i : Nat} {s : PStep} (h : EarI S f t0 long w i t) (hs : S[i]? = some s) (hw : ¬ s.free < w) : EarI S f t0 long w (i + 1) t := by
  obtain ⟨h1, h2, h3, h4, h5⟩ := h
  refine ⟨h1, get_lt hs, h3, fun u q1 q2 => ?_, fun s' hs' u q1 q2 q3 => hr.in_step hs' q2 q3⟩
  rcases Int.lt_or_le u s.at_ with q | q
  · exact h4 u q1 fun x hx => by rw [hs] at hx; cases hx; exact q
  · rw [h5 s hs u q1 q q2]; omega
theorem EarI.bad {S : List PStep} {f : Int → Int} {t0 long w t : Int} {i : Nat} {s : PStep} (h : EarI S f t0 long w i t) (hs : S[i]? = some s) (hl : 1 ≤ long) (hb : s.at_ < t + long) (hw : s.free < w) {t' : Int} (ht : t ≤ t') (hn : ∀ s', S[i + 1]? = some s' → t' < s'.at_) (hsn : ∀ s', S[i + 1]? = some s' → s.at_ < s'.at_) : ¬ Feas f long w t' := fun hf => by
  have h1 := h.2.2.2.2 s hs (max t' s.at_) (by omega) (by omega) (fun s' q => by have := hn s' q; have := hsn s' q; omega)
  have h2 := hf (max t' s.at_) (by omega) (by omega)
  omega
theorem EarI.next {S : List PStep} {now : Int} {f : Int → Int} (hr : Rep S now f) {t0 long w t : Int} {i : Nat} {s s2 : PStep} (h : EarI S f t0 long w i t) (hs : S[i]? = some s) (hs2 : S[i + 1]? = some s2) (hl : 1 ≤ long) (hb : s.at_ < t + long) (hw : s.free < w) (hlt : t ≤ s2.at_) : EarI S f t0 long w (i + 1) s2.at_ := by
  have hh := h
  obtain ⟨h1, h2, h3, h4, h5⟩ := h
  refine ⟨by omega, get_lt hs, fun t' q1 q2 => ?_, fun u q1 q2 => by have := q2 s2 hs2; omega, fun s' hs' u q1 q2 q3 => hr.in_step hs' q2 q3⟩
  rcases Int.lt_or_le t' t with q | q
  · exact h3 t' q1 q
  · exact hh.bad hs hl hb hw q (fun s' hs' => by rw [hs2] at hs'; cases hs'; exact q2) (fun s' hs' => hr.ris.lt hs hs' (by omega))
theorem EarI.some_ {S : List PStep} {f : Int → Int} {t0 long w t : Int} {i : Nat} (h : EarI S f t0 long w i t) (hend : S.length ≤ i ∨ ∃ s, S[i]? = some s ∧ t + long ≤ s.at_) (ht : t ≤ 1099511627776) : FirstOk f t0 long w (some t) := ⟨h.1, ht, h.found hend, h.2.2.1⟩
theorem EarI.late {S : List PStep} {f : Int → Int} {t0 long w t : Int} {i : Nat} (h : EarI S f t0 long w i t) (ht : 1099511627776 < t) : FirstOk f t0 long w none := fun t' q1 q2 => h.2.2.1 t' q1 (by omega)
theorem EarI.never {S : List PStep} {f : Int → Int} {t0 long w t : Int} {i : Nat} {s : PStep} (h : EarI S f t0 long w i t) (hs : S[i]? = some s) (hlast : i + 1 = S.length) (hl : 1 ≤ long) (hb : s.at_ < t + long) (hw : s.free < w) : FirstOk f t0 long w none := fun t' q1 q2 => by
  rcases Int.lt_or_le t' t with q | q
  · exact h.2.2.1 t' q1 q
  · exact h.bad hs hl hb hw q (fun s' hs' => by have := get_lt hs'; omega) (fun s' hs' => by have := get_lt hs'; omega)
/-- The document's loop: none of those looked at will do. -/
def EarE (f : Int → Int) (long w a : Int) (e : List Int) (k : Nat) : Prop := ∀ j p, j < k → e[j]? = some p → a ≤ p → p ≤ 1099511627776 → ¬ Feas f long w p
theorem EarE.step {f : Int → Int} {long w a p : Int} {e : List Int} {k : Nat} (h : EarE f long w a e k) (hp : e[k]? = some p) (hq : p < a ∨ 1099511627776 < p ∨ ¬ Feas f long w p) : EarE f long w a e (k + 1) := fun j x q1 hx q2 q3 => by
  by_cases e : j = k
  · subst e
    rw [hp] at hx; cases hx
    rcases hq with q | q | q
    · omega
    · omega
    · exact q
  · exact h j x (by omega) hx q2 q3
theorem feas_back {now free long w : Int} {L : List PSpan} {c t : Int} (hl : 1 ≤ long) (hct : c ≤ t) (hc : ∀ u, c ≤ u → u ≤ t → atP free L u = atP free L t) (hf : Feas (atP free L) long w t) : Feas (atP free L) long w c := fun u q1 q2 => by
  rcases Int.lt_or_le t u with q | q
  · exact hf u (by omega) (by omega)
  · rw [hc u q1 q]; exact hf t (Int.le_refl _) (by omega)
theorem EarE.some_ {now free long w : Int} {L : List PSpan} {e : List Int} (he : EdgesOk now L e) (hL : ∀ s ∈ L, SpOk s) {a p : Int} {k : Nat} (h1 : now ≤ a) (hl : 1 ≤ long) (h : EarE (atP free L) long w a (a :: e) k) (hp : (a :: e)[k]? = some p) (h2 : a ≤ p) (h3 : p ≤ 1099511627776) (hf : Feas (atP free L) long w p) : FirstOk (atP free L) a long w (some p) := by
  refine ⟨h2, h3, hf, fun t' q1 q2 q3 => ?_⟩
  obtain ⟨j, c, c1, c2, c3, c4⟩ := he.cand hL h1 q1 (free := free)
  refine h j c ?_ c1 c2 (by omega) (feas_back (now := now) hl c3 c4 q3)
  rcases Nat.lt_or_ge j k with q | q
  · exact q
  · cases k with
    | zero => simp at hp; omega
    | succ k =>
      obtain ⟨j, rfl⟩ : ∃ m, j = m + 1 := ⟨j - 1, by omega⟩
      rw [List.getElem?_cons_succ] at hp c1
      have q4 : p ≤ c := (eS_ris (f := fun _ => 0) he.ris).le (eS_get hp) (eS_get c1) (by omega)
      omega
theorem EarE.none_ {now free long w : Int} {L : List PSpan} {e : List Int} (he : EdgesOk now L e) (hL : ∀ s ∈ L, SpOk s) {a : Int} {k : Nat} (h1 : now ≤ a) (hl : 1 ≤ long) (h : EarE (atP free L) long w a (a :: e) k) (hk : (a :: e).length ≤ k) : FirstOk (atP free L) a long w none := fun t' q1 q2 q3 => by
  obtain ⟨j, c, c1, c2, c3, c4⟩ := he.cand hL h1 q1 (free := free)
  exact h j c (by have := get_lt c1; omega) c1 c2 (by omega) (feas_back (now := now) hl c3 c4 q3)
/-! ### what calls do -/
structure SplR (S S' : List PStep) (t : Int) (i : Nat) : Prop where
  ris : Ris S'
  fr : ∀ u, frS S' u = frS S u
  at_ : ∃ s, S'[i]? = some s ∧ s.at_ = t
  low : ∀ j s, S[j]? = some s → s.at_ < t → j < i ∧ S'[j]? = some s
  head : S'[0]? = S[0]?
  lt : (∀ s ∈ S, s.at_ < 1152921504606846976) → t < 1152921504606846976 → ∀ s ∈ S', s.at_ < 1152921504606846976
  len : S'.length ≤ S.length + 1
theorem splR_same {S : List PStep} {t : Int} {i : Nat} {s : PStep} (hr : Ris S) (hs : S[i]? = some s) (ht : s.at_ = t) : SplR S S t i :=
  ⟨hr, fun _ => rfl, ⟨s, hs, ht⟩, fun j x hx hlt => ⟨by
    rcases Nat.lt_or_ge j i with q | q
    · exact q
    · have := hr.le hs hx q; omega, hx⟩, rfl, fun h _ => h, Nat.le_succ _⟩
theorem splR_new {S : List PStep} {t : Int} {i : Nat} {s : PStep} (hr : Ris S) (hi : IdxOk S t i) (hs : S[i]? = some s) (ht : s.at_ < t) : SplR S (spl S i t s.free) t (i + 1) := by
  have hil := get_lt hs
  refine ⟨spl_ris hr hi hs ht _, spl_fr hr hi hs ht, ⟨_, spl_mid' hil, rfl⟩, fun j x hx hlt => ?_, spl_lo hil (Nat.zero_le _), fun h1 h2 x hx => ?_, by rw [spl_len hil]; exact Nat.le_refl _⟩
  · have q : j ≤ i := by
      rcases Nat.lt_or_ge i j with q | q
      · obtain ⟨y, hy⟩ := get_ex (show i + 1 < S.length by have := get_lt hx; omega)
        have := hi.2 y hy
        have := hr.le hy hx (by omega)
        omega
      · exact q
    exact ⟨by omega, by rw [spl_lo hil q]; exact hx⟩
  · unfold spl at hx
    rw [List.mem_append, List.mem_cons] at hx
    rcases hx with hx | rfl | hx
    · exact h1 x (List.mem_of_mem_take hx)
    · exact h2
    · exact h1 x (List.mem_of_mem_drop hx)
theorem add_rep {S S1 S2 : List PStep} {now from_ to_ n : Int} {f : Int → Int} {i k : Nat} (h : Rep S now f) (h1 : now ≤ from_) (h2 : from_ < to_) (h3 : to_ ≤ 1152921504606846976) (hs1 : SplR S S1 from_ i) (hs2 : (to_ < 1152921504606846976 ∧ SplR S1 S2 to_ k) ∨ (to_ = 1152921504606846976 ∧ S2 = S1 ∧ k = S1.length)) :
    Rep (cpt eqF (addR S2 i k n)) now (fun t => f t + if from_ ≤ t ∧ (t < to_ ∨ to_ = 1152921504606846976) then n else 0) := by
  obtain ⟨sa, hsa, hfa⟩ := hs1.at_
  have facts : Ris S2 ∧ (∀ u, frS S2 u = frS S u) ∧ S2[i]? = some sa ∧ S2[0]? = S[0]? ∧ (∀ s ∈ S2, s.at_ < 1152921504606846976) ∧ i < k ∧ k ≤ S2.length ∧ (∀ sb, S2[k]? = some sb → sb.at_ = to_) ∧ (to_ = 1152921504606846976 ↔ k = S2.length) := by
    rcases hs2 with ⟨q1, q2⟩ | ⟨q1, rfl, rfl⟩
    · obtain ⟨sb, hsb, hfb⟩ := q2.at_
      have := q2.low i sa hsa (by omega)
      have hkl := get_lt hsb
      exact ⟨q2.ris, fun u => (q2.fr u).trans (hs1.fr u), this.2, q2.head.trans hs1.head, q2.lt (hs1.lt h.lt (by omega)) q1, this.1, Nat.le_of_lt hkl, fun x hx => by rw [hsb] at hx; cases hx; exact hfb, by omega⟩
    · have hil := get_lt hsa
      exact ⟨hs1.ris, hs1.fr, hsa, hs1.head, hs1.lt h.lt (by omega), hil, Nat.le_refl _, fun x hx => by have := get_lt hx; omega, by simp [q1]⟩
  obtain ⟨g1, g2, g3, g4, g5, g6, g7, g8, g9⟩ := facts
  obtain ⟨s0, hs0, hn0⟩ := h.head
  have hR := addR_ris g1 i k n
  refine ⟨?_, cpt_ris hR, cpt_dst _, fun t ht => ?_, fun s hs => ?_⟩
  · have q := addR_get (a := i) (b := k) (n := n) (g4.trans hs0)
    exact ⟨_, cpt_head q, by split <;> exact hn0⟩
  · rw [cpt_fr hR, addR_fr g1 g3 hfa g8 (by omega) g6 (fun e => by subst e; rw [g4, hs0] at g3; cases g3; omega), g2, h.fr t ht]
    congr 1
    by_cases q : from_ ≤ t ∧ (t < to_ ∨ k = S2.length)
    · rw [if_pos q, if_pos ⟨q.1, q.2.imp id g9.2⟩]
    · rw [if_neg q, if_neg (fun z => q ⟨z.1, z.2.imp id g9.1⟩)]
  · have hm := (cpt_sub eqF _).subset hs
    obtain ⟨j, hj⟩ := List.getElem?_of_mem hm
    obtain ⟨x, hx, hx2, _⟩ := addR_at hj
    rw [hx2]; exact g5 x (List.mem_of_getElem? hx)
theorem add_atP {now from_ to_ n free : Int} {L : List PSpan} {t : Int} : (atP free L t + if from_ ≤ t ∧ (t < to_ ∨ to_ = 1152921504606846976) then n else 0) = atP free (L ++ [⟨from_, to_, n⟩]) t := by
  rw [atP_snoc]
  unfold spOn
  simp only [Bool.and_eq_true, Bool.or_eq_true, decide_eq_true_eq]
  split <;> omega
theorem dst_drop : ∀ {S : List PStep} (i : Nat), Dst S → Dst (S.drop i)
  | S, 0, h => h
  | [], i + 1, h => h
  | [s], i + 1, h => by rw [List.drop_succ_cons]; cases i <;> trivial
  | s :: s2 :: l, i + 1, h => by rw [List.drop_succ_cons]; exact dst_drop i h.2
theorem adv_rep {S : List PStep} {now t : Int} {f : Int → Int} {i : Nat} {s : PStep} (h : Rep S now f) (h1 : now ≤ t) (h2 : t < 1152921504606846976) (hi : IdxOk S t i) (hs : S[i]? = some s) : Rep ((S.drop i).set 0 ⟨t, s.free⟩) t f := by
  have hil := get_lt hs
  have e : S.drop i = s :: S.drop (i + 1) := by
    rw [List.drop_eq_getElem_cons hil]; congr 1
    rw [List.getElem?_eq_getElem hil] at hs; cases hs; rfl
  rw [e]
  show Rep (⟨t, s.free⟩ :: S.drop (i + 1)) t f
  have hst : s.at_ ≤ t := by
    obtain ⟨⟨x, q1, q2⟩, q3⟩ := hi
    rw [hs] at q1; cases q1
    rcases q2 with rfl | q2
    · obtain ⟨y, y1, y2⟩ := h.head
      rw [hs] at y1; cases y1; omega
    · exact q2
  have hR : Ris (⟨t, s.free⟩ :: S.drop (i + 1)) := by
    refine List.pairwise_cons.2 ⟨fun y hy => ?_, h.ris.sublist (List.drop_sublist _ _)⟩
    obtain ⟨k, hk⟩ := List.getElem?_of_mem hy
    rw [List.getElem?_drop] at hk
    obtain ⟨s2, hs2⟩ := get_ex (show i + 1 < S.length by have := get_lt hk; omega)
    have q1 := hi.2 s2 hs2
    have q2 := h.ris.le hs2 hk (by omega)
    show t < y.at_
    omega
  refine ⟨⟨_, rfl, rfl⟩, hR, dst_swap (s := s) rfl (by rw [← e]; exact dst_drop i h.dst), fun u hu => ?_, fun x hx => ?_⟩
  · rw [← h.fr u (by omega)]
    obtain ⟨j, hj⟩ := idx_ex (S := S) u (fun q => by subst q; simp at hs)
    have hj0 := hj
    obtain ⟨⟨x, q1, q2⟩, q3⟩ := hj
    rw [frS_at h.ris hj0 q1]
    have hij := idx_mono h.ris hi hj0 hu
    rcases Nat.lt_or_eq_of_le hij with q | q
    · obtain ⟨m, rfl⟩ : ∃ m, j = i + 1 + m := ⟨j - (i + 1), by omega⟩
      refine frS_at hR (i := m + 1) ⟨⟨x, by rw [List.getElem?_cons_succ, List.getElem?_drop]; exact q1, .inr (by rcases q2 with q2 | q2 <;> omega)⟩, fun s' hs' => ?_⟩ (by rw [List.getElem?_cons_succ, List.getElem?_drop]; exact q1)
      rw [List.getElem?_cons_succ, List.getElem?_drop] at hs'
      exact q3 s' (by rw [show i + 1 + m + 1 = i + 1 + (m + 1) by omega]; exact hs')
    · subst q
      rw [hs] at q1; cases q1
      refine frS_low fun y hy => ?_
      rw [List.getElem?_drop] at hy
      exact q3 y hy
  · rw [List.mem_cons] at hx
    rcases hx with rfl | hx
    · exact h2
    · exact h.lt x (List.mem_of_mem_drop hx)
end Go.Proofs.Ytonpnkekcipmlaa.Sym
