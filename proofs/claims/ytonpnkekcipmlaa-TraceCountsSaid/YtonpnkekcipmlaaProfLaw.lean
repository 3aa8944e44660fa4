/- Profiles: how many are free from when on, in steps. Plain Lean: no program in sight. -/
import Derived.Test.YtonpnkekcipmlaaSymCpt
namespace Go.Proofs.Ytonpnkekcipmlaa.Sym
set_option linter.unusedVariables false
set_option linter.unusedSimpArgs false
structure PStep where
  at_ : Int
  free : Int
@[reducible] def PStep.cells (j : PStep) : List Value := [.int .i64 j.at_, .int .i64 j.free]
@[reducible] def PStep.v (j : PStep) : Value := .agg (PStep.cells j).toArray
instance : Inhabited PStep := ⟨⟨0, 0⟩⟩
structure PSpan where
  from_ : Int
  to_ : Int
  width : Int
@[reducible] def PSpan.cells (j : PSpan) : List Value := [.int .i64 j.from_, .int .i64 j.to_, .int .i64 j.width]
@[reducible] def PSpan.v (j : PSpan) : Value := .agg (PSpan.cells j).toArray
/-- What is free at a time, by steps. -/
def frS : List PStep → Int → Int
  | [], _ => 0
  | [s], _ => s.free
  | s :: s2 :: l, t => if t < s2.at_ then s.free else frS (s2 :: l) t
def Ris (S : List PStep) : Prop := S.Pairwise (fun a b => a.at_ < b.at_)
/-- The step in which a time lies. -/
def IdxOk (S : List PStep) (t : Int) (i : Nat) : Prop := (∃ s, S[i]? = some s ∧ (i = 0 ∨ s.at_ ≤ t)) ∧ ∀ s', S[i + 1]? = some s' → t < s'.at_
theorem Ris.lt {S : List PStep} (h : Ris S) {i j : Nat} {a b : PStep} (ha : S[i]? = some a) (hb : S[j]? = some b) (hij : i < j) : a.at_ < b.at_ := by
  obtain ⟨h1, e1⟩ := List.getElem?_eq_some_iff.1 ha
  obtain ⟨h2, e2⟩ := List.getElem?_eq_some_iff.1 hb
  have := List.pairwise_iff_getElem.1 h i j h1 h2 hij
  rw [e1, e2] at this; exact this
theorem Ris.le {S : List PStep} (h : Ris S) {i j : Nat} {a b : PStep} (ha : S[i]? = some a) (hb : S[j]? = some b) (hij : i ≤ j) : a.at_ ≤ b.at_ := by
  rcases Nat.lt_or_eq_of_le hij with q | q
  · exact Int.le_of_lt (h.lt ha hb q)
  · subst q; rw [ha] at hb; cases hb; exact Int.le_refl _
theorem frS_at : ∀ {S : List PStep} {t : Int} {i : Nat} {s : PStep}, Ris S → IdxOk S t i → S[i]? = some s → frS S t = s.free
  | [], t, i, s, hr, h, hs => by simp at hs
  | [x], t, i, s, hr, h, hs => by
    cases i with
    | zero => simp at hs; subst hs; rfl
    | succ i => simp at hs
  | x :: y :: l, t, i, s, hr, h, hs => by
    obtain ⟨⟨s', h1, h2⟩, h3⟩ := h
    rw [hs] at h1; cases h1
    cases i with
    | zero =>
      have := h3 y rfl
      simp at hs; subst hs
      unfold frS; rw [if_pos this]
    | succ i =>
      have hy : y.at_ ≤ s.at_ := hr.le (i := 1) (j := i + 1) rfl hs (by omega)
      have hst : s.at_ ≤ t := by rcases h2 with q | q; (cases q); exact q
      unfold frS
      rw [if_neg (by omega)]
      exact frS_at (List.Pairwise.of_cons hr) ⟨⟨s, by simpa using hs, .inr hst⟩, fun s' hs' => h3 s' (by simpa using hs')⟩ (by simpa using hs)
theorem idx_ex : ∀ {S : List PStep} (t : Int), S ≠ [] → ∃ i, IdxOk S t i
  | [], t, h => absurd rfl h
  | [x], t, h => ⟨0, ⟨x, rfl, .inl rfl⟩, fun s' h => by simp at h⟩
  | x :: y :: l, t, h => by
    by_cases q : t < y.at_
    · exact ⟨0, ⟨x, rfl, .inl rfl⟩, fun s' h => by simp at h; subst h; exact q⟩
    · obtain ⟨i, ⟨s, h1, h2⟩, h3⟩ := idx_ex (S := y :: l) t (by simp)
      refine ⟨i + 1, ⟨s, by simpa using h1, .inr ?_⟩, fun s' h => h3 s' (by simpa using h)⟩
      rcases h2 with rfl | h2
      · simp at h1; subst h1; omega
      · exact h2
theorem idx_mono {S : List PStep} (hr : Ris S) {t u : Int} {i j : Nat} (hi : IdxOk S t i) (hj : IdxOk S u j) (h : t ≤ u) : i ≤ j := by
  rcases Nat.lt_or_ge j i with q | q
  · obtain ⟨⟨s, h1, h2⟩, h3⟩ := hi
    obtain ⟨⟨s', h4, h5⟩, h6⟩ := hj
    obtain ⟨s2, hs2⟩ := get_ex (show j + 1 < S.length by have := get_lt h1; omega)
    have h7 := h6 s2 hs2
    have h8 := hr.le hs2 h1 (by omega)
    rcases h2 with h2 | h2 <;> omega
  · exact q
theorem idx_self {S : List PStep} (hr : Ris S) {i : Nat} {s : PStep} (hs : S[i]? = some s) : IdxOk S s.at_ i := ⟨⟨s, hs, .inr (Int.le_refl _)⟩, fun s' h => hr.lt hs h (by omega)⟩
theorem frS_self {S : List PStep} (hr : Ris S) {i : Nat} {s : PStep} (hs : S[i]? = some s) : frS S s.at_ = s.free := frS_at hr (idx_self hr hs) hs
theorem frS_low {x : PStep} {l : List PStep} {t : Int} (h : ∀ y, l[0]? = some y → t < y.at_) : frS (x :: l) t = x.free := by
  cases l with
  | nil => rfl
  | cons y l => unfold frS; rw [if_pos (h y rfl)]
/-! ### splitting -/
def spl (S : List PStep) (i : Nat) (t : Int) (f : Int) : List PStep := S.take (i + 1) ++ (⟨t, f⟩ :: S.drop (i + 1))
theorem spl_lo {S : List PStep} {i k : Nat} {t f : Int} (hi : i < S.length) (hk : k ≤ i) : (spl S i t f)[k]? = S[k]? := by
  unfold spl; rw [List.getElem?_append_left (by rw [List.length_take]; omega), List.getElem?_take, if_pos (by omega)]
theorem spl_mid' {S : List PStep} {i : Nat} {t f : Int} (hi : i < S.length) : (spl S i t f)[i + 1]? = some ⟨t, f⟩ := by
  unfold spl
  rw [List.getElem?_append_right (by rw [List.length_take]; omega), List.length_take, show i + 1 - min (i + 1) S.length = 0 by omega]; rfl
theorem spl_hi {S : List PStep} {i k : Nat} {t f : Int} (hi : i < S.length) (hk : i < k) : (spl S i t f)[k + 1]? = S[k]? := by
  unfold spl
  rw [List.getElem?_append_right (by rw [List.length_take]; omega), List.length_take, show k + 1 - min (i + 1) S.length = (k - (i + 1)) + 1 by omega, List.getElem?_cons_succ, List.getElem?_drop, show i + 1 + (k - (i + 1)) = k by omega]
theorem spl_len {S : List PStep} {i : Nat} {t f : Int} (hi : i < S.length) : (spl S i t f).length = S.length + 1 := by
  unfold spl; rw [List.length_append, List.length_cons, List.length_take, List.length_drop]; omega
theorem spl_ris {S : List PStep} (hr : Ris S) {i : Nat} {t : Int} {s : PStep} (hi : IdxOk S t i) (hs : S[i]? = some s) (ht : s.at_ < t) (f : Int) : Ris (spl S i t f) := by
  unfold spl Ris
  rw [List.pairwise_append]
  refine ⟨hr.sublist (List.take_sublist _ _), ?_, ?_⟩
  · rw [List.pairwise_cons]
    refine ⟨fun y hy => ?_, hr.sublist (List.drop_sublist _ _)⟩
    obtain ⟨k, hk⟩ := List.getElem?_of_mem hy
    rw [List.getElem?_drop] at hk
    obtain ⟨s2, hs2⟩ := get_ex (show i + 1 < S.length by have := get_lt hk; omega)
    have h1 := hi.2 s2 hs2
    have h2 := hr.le hs2 hk (by omega)
    show t < y.at_
    omega
  · intro a ha b hb
    obtain ⟨k, hk⟩ := List.getElem?_of_mem ha
    rw [List.getElem?_take] at hk
    split at hk
    · have h1 := hr.le hk hs (by omega)
      rw [List.mem_cons] at hb
      rcases hb with rfl | hb
      · show a.at_ < t; omega
      · obtain ⟨m, hm⟩ := List.getElem?_of_mem hb
        rw [List.getElem?_drop] at hm
        exact hr.lt hk hm (by omega)
    · cases hk
theorem spl_fr {S : List PStep} (hr : Ris S) {i : Nat} {t : Int} {s : PStep} (hi : IdxOk S t i) (hs : S[i]? = some s) (ht : s.at_ < t) (u : Int) : frS (spl S i t s.free) u = frS S u := by
  have hil := get_lt hs
  have hr' := spl_ris hr hi hs ht s.free
  obtain ⟨j, hj⟩ := idx_ex (S := S) u (fun h => by subst h; simp at hs)
  obtain ⟨⟨x, h1, h2⟩, h3⟩ := hj
  rw [frS_at hr ⟨⟨x, h1, h2⟩, h3⟩ h1]
  rcases Nat.lt_trichotomy j i with q | q | q
  · refine frS_at hr' ⟨⟨x, by rw [spl_lo hil (by omega)]; exact h1, h2⟩, fun s' h => ?_⟩ (by rw [spl_lo hil (by omega)]; exact h1)
    rw [spl_lo hil (by omega)] at h; exact h3 s' h
  · subst q
    rw [hs] at h1; cases h1
    by_cases hu : u < t
    · refine frS_at hr' ⟨⟨s, by rw [spl_lo hil (by omega)]; exact hs, h2⟩, fun s' h => ?_⟩ (by rw [spl_lo hil (by omega)]; exact hs)
      rw [spl_mid' hil] at h; cases h; exact hu
    · refine frS_at hr' (s := ⟨t, s.free⟩) ⟨⟨⟨t, s.free⟩, spl_mid' hil, .inr (by show t ≤ u; omega)⟩, fun s' h => ?_⟩ (spl_mid' hil)
      rw [spl_hi hil (by omega)] at h; exact h3 s' h
  · refine frS_at hr' (i := j + 1) ⟨⟨x, by rw [spl_hi hil (by omega)]; exact h1, .inr (by rcases h2 with h2 | h2 <;> omega)⟩, fun s' h => ?_⟩ (by rw [spl_hi hil (by omega)]; exact h1)
    rw [spl_hi hil (by omega)] at h; exact h3 s' h
/-! ### adding -/
def addR (S : List PStep) (a b : Nat) (n : Int) : List PStep := S.mapIdx fun k s => if a ≤ k ∧ k < b then ⟨s.at_, s.free + n⟩ else s
theorem addR_get {S : List PStep} {a b : Nat} {n : Int} {k : Nat} {s : PStep} (hs : S[k]? = some s) : (addR S a b n)[k]? = some (if a ≤ k ∧ k < b then ⟨s.at_, s.free + n⟩ else s) := by
  unfold addR; rw [List.getElem?_mapIdx, hs]; rfl
theorem addR_at {S : List PStep} {a b : Nat} {n : Int} {k : Nat} {s : PStep} (hs : (addR S a b n)[k]? = some s) : ∃ s0, S[k]? = some s0 ∧ s.at_ = s0.at_ ∧ s.free = if a ≤ k ∧ k < b then s0.free + n else s0.free := by
  unfold addR at hs
  rw [List.getElem?_mapIdx] at hs
  cases h : S[k]? with
  | none => rw [h] at hs; cases hs
  | some s0 => rw [h] at hs; cases hs; exact ⟨s0, rfl, by split <;> rfl, by split <;> rfl⟩
theorem addR_len {S : List PStep} {a b : Nat} {n : Int} : (addR S a b n).length = S.length := by unfold addR; exact List.length_mapIdx
theorem addR_ris {S : List PStep} (hr : Ris S) (a b : Nat) (n : Int) : Ris (addR S a b n) := by
  refine List.pairwise_iff_getElem.2 fun i j hi hj hij => ?_
  obtain ⟨s0, h1, h2, _⟩ := addR_at (List.getElem?_eq_getElem hi)
  obtain ⟨s1, h3, h4, _⟩ := addR_at (List.getElem?_eq_getElem hj)
  rw [h2, h4]; exact hr.lt h1 h3 hij
theorem addR_fr {S : List PStep} (hr : Ris S) {a b : Nat} {n from_ to_ u : Int} {sa : PStep} (hsa : S[a]? = some sa) (hfa : sa.at_ = from_) (hb : ∀ sb, S[b]? = some sb → sb.at_ = to_) (hbl : b < S.length ∨ b = S.length) (hab : a < b) (hu : a = 0 → from_ ≤ u) :
    frS (addR S a b n) u = frS S u + if from_ ≤ u ∧ (u < to_ ∨ b = S.length) then n else 0 := by
  obtain ⟨j, hj⟩ := idx_ex (S := S) u (fun h => by subst h; simp at hsa)
  have hj0 := hj
  obtain ⟨⟨x, h1, h2⟩, h3⟩ := hj
  rw [frS_at hr hj0 h1]
  have h4 := addR_get (a := a) (b := b) (n := n) h1
  rw [frS_at (addR_ris hr a b n) (i := j) ⟨⟨_, h4, by rcases h2 with h2 | h2; exact .inl h2; exact .inr (by split <;> exact h2)⟩, fun s' h => by obtain ⟨s0, q1, q2, _⟩ := addR_at h; rw [q2]; exact h3 s0 q1⟩ h4]
  have hjl := get_lt h1
  have hal := get_lt hsa
  -- a ≤ j exactly from from_ on
  have k1 : a ≤ j ↔ from_ ≤ u := by
    constructor
    · intro q
      rcases h2 with h2 | h2
      · exact hu (by omega)
      · have := hr.le hsa h1 q; omega
    · intro q
      rcases Nat.lt_or_ge j a with q2 | q2
      · obtain ⟨s2, hs2⟩ := get_ex (show j + 1 < S.length by omega)
        have := h3 s2 hs2
        have := hr.le hs2 hsa (by omega)
        omega
      · exact q2
  have k2 : b ≠ S.length → (a ≤ j → (j < b ↔ u < to_)) := by
    intro q0 qa
    obtain ⟨sb, hsb⟩ := get_ex (show b < S.length by omega)
    have e := hb sb hsb
    constructor
    · intro q
      obtain ⟨s2, hs2⟩ := get_ex (show j + 1 < S.length by omega)
      have := h3 s2 hs2
      have := hr.le hs2 hsb (by omega)
      omega
    · intro q
      rcases Nat.lt_or_ge j b with q2 | q2
      · exact q2
      · have := hr.le hsb h1 q2
        rcases h2 with h2 | h2 <;> omega
  by_cases ca : a ≤ j
  · by_cases cb : b = S.length
    · rw [if_pos ⟨ca, by omega⟩, if_pos ⟨k1.1 ca, .inr cb⟩]
    · by_cases cj : j < b
      · rw [if_pos ⟨ca, cj⟩, if_pos ⟨k1.1 ca, .inl ((k2 cb ca).1 cj)⟩]
      · rw [if_neg (fun h => cj h.2), if_neg (fun h => by rcases h.2 with h | h; exact cj ((k2 cb ca).2 h); exact cb h)]; omega
  · rw [if_neg (fun h => ca h.1), if_neg (fun h => ca (k1.2 h.1))]; omega
/-! ### joining -/
def eqF (a b : PStep) : Bool := decide (a.free = b.free)
def Dst : List PStep → Prop
  | [] => True
  | [_] => True
  | s :: s2 :: l => s.free ≠ s2.free ∧ Dst (s2 :: l)
theorem dst_swap {s s' : PStep} {X : List PStep} (h : s.free = s'.free) (hd : Dst (s :: X)) : Dst (s' :: X) := by
  cases X with
  | nil => trivial
  | cons x X => exact ⟨by rw [← h]; exact hd.1, hd.2⟩
theorem cptG_dst : ∀ (l : List PStep) (s : PStep), Dst (s :: cptG eqF s l)
  | [], s => trivial
  | x :: l, s => by
    unfold cptG
    by_cases h : x.free = s.free
    · rw [if_pos (by unfold eqF; exact decide_eq_true h)]
      exact dst_swap h (cptG_dst l x)
    · rw [if_neg (by unfold eqF; simpa using h)]
      exact ⟨fun q => h q.symm, cptG_dst l x⟩
theorem cpt_dst (l : List PStep) : Dst (cpt eqF l) := by
  cases l with
  | nil => trivial
  | cons s l => exact cptG_dst l s
theorem frS_swap {s s' : PStep} {X : List PStep} (h : s.free = s'.free) (u : Int) : frS (s :: X) u = frS (s' :: X) u := by
  cases X with
  | nil => exact h
  | cons x X => unfold frS; rw [h]
theorem cptG_fr : ∀ (l : List PStep) (s : PStep), Ris (s :: l) → ∀ u, frS (s :: cptG eqF s l) u = frS (s :: l) u
  | [], s, _, u => rfl
  | x :: l, s, hr, u => by
    have hr2 : Ris (x :: l) := List.Pairwise.of_cons hr
    have ih := cptG_fr l x hr2 u
    unfold cptG
    by_cases h : x.free = s.free
    · rw [if_pos (by unfold eqF; exact decide_eq_true h), frS_swap h.symm, ih]
      conv => rhs; unfold frS
      by_cases q : u < x.at_
      · rw [if_pos q, frS_low, h]
        intro y hy
        have := hr2.lt (i := 0) (j := 1) (a := x) (b := y) rfl (by simpa using hy) (by omega)
        omega
      · rw [if_neg q]
    · rw [if_neg (by unfold eqF; simpa using h)]
      conv => lhs; unfold frS
      conv => rhs; unfold frS
      rw [ih]
theorem cpt_fr {l : List PStep} (hr : Ris l) (u : Int) : frS (cpt eqF l) u = frS l u := by
  cases l with
  | nil => rfl
  | cons s l => exact cptG_fr l s hr u
theorem cpt_ris {l : List PStep} (hr : Ris l) : Ris (cpt eqF l) := hr.sublist (cpt_sub _ _)
theorem cpt_head {l : List PStep} {s : PStep} (h : l[0]? = some s) : (cpt eqF l)[0]? = some s := by
  cases l with
  | nil => cases h
  | cons x l => exact h
/-- Steps are told by what they tell. -/
theorem steps_uniq : ∀ {S S' : List PStep} {now : Int}, Ris S → Ris S' → Dst S → Dst S' → (∃ s, S[0]? = some s ∧ s.at_ = now) → (∃ s, S'[0]? = some s ∧ s.at_ = now) → (∀ t, now ≤ t → frS S t = frS S' t) → S = S'
  | [], S', now, _, _, _, _, ⟨s, h, _⟩, _, _ => by simp at h
  | s :: l, [], now, _, _, _, _, _, ⟨s', h, _⟩, _ => by simp at h
  | s :: l, s' :: l', now, hr, hr', hd, hd', ⟨a, ha, ea⟩, ⟨b, hb, eb⟩, hf => by
    simp at ha hb
    subst ha; subst hb
    have hfree : s.free = s'.free := by
      have h1 := frS_self hr (i := 0) rfl
      have h2 := frS_self hr' (i := 0) rfl
      rw [← h1, ← h2, ea, eb]; exact hf now (Int.le_refl _)
    have hs : s = s' := by cases s; cases s'; simp at *; omega
    subst hs
    congr 1
    match l, l', hr, hr', hd, hd', hf with
    | [], [], _, _, _, _, _ => rfl
    | x :: l, [], hr, hr', hd, hd', hf =>
      have h1 := hr.lt (i := 0) (j := 1) (a := s) (b := x) rfl rfl (by omega)
      have h2 := hf x.at_ (by omega)
      rw [frS_self hr (i := 1) rfl] at h2
      exact absurd h2.symm hd.1
    | [], x :: l', hr, hr', hd, hd', hf =>
      have h1 := hr'.lt (i := 0) (j := 1) (a := s) (b := x) rfl rfl (by omega)
      have h2 := hf x.at_ (by omega)
      rw [frS_self hr' (i := 1) rfl] at h2
      exact absurd h2 hd'.1
    | x :: l, y :: l', hr, hr', hd, hd', hf =>
      have h1 := hr.lt (i := 0) (j := 1) (a := s) (b := x) rfl rfl (by omega)
      have h2 := hr'.lt (i := 0) (j := 1) (a := s) (b := y) rfl rfl (by omega)
      have hxy : x.at_ = y.at_ := by
        rcases Int.lt_trichotomy x.at_ y.at_ with q | q | q
        · have h3 := hf x.at_ (by omega)
          rw [frS_self hr (i := 1) rfl, frS_low (fun z hz => by simp at hz; subst hz; exact q)] at h3
          exact absurd h3.symm hd.1
        · exact q
        · have h3 := hf y.at_ (by omega)
          rw [frS_self hr' (i := 1) rfl, frS_low (fun z hz => by simp at hz; subst hz; exact q)] at h3
          exact absurd h3 hd'.1
      refine steps_uniq (now := x.at_) (List.Pairwise.of_cons hr) (List.Pairwise.of_cons hr') hd.2 hd'.2 ⟨x, rfl, rfl⟩ ⟨y, rfl, hxy.symm⟩ fun t ht => ?_
      have h3 := hf t (by omega)
      unfold frS at h3
      rw [if_neg (by omega), if_neg (by omega)] at h3
      exact h3
end Go.Proofs.Ytonpnkekcipmlaa.Sym
