/- Calendars in plain Lean: windows of a week, where what is taken may change, and spans of what is taken. -/
import Derived.Test.YtjkojdjjooangaaSpanLaw
namespace Go.Proofs.Ytjkojdjjooangaa.Sym
set_option linter.unusedVariables false
set_option linter.unusedSimpArgs false
def winR (w : PSpan) : Bool := decide (0 ≤ w.from_) && (decide (w.from_ < w.to_) && (decide (w.to_ ≤ 10080) && (decide (1 ≤ w.width) && decide (w.width ≤ 64))))
theorem winR_iff {w : PSpan} : winR w = true ↔ 0 ≤ w.from_ ∧ w.from_ < w.to_ ∧ w.to_ ≤ 10080 ∧ 1 ≤ w.width ∧ w.width ≤ 64 := by
  unfold winR; simp only [Bool.and_eq_true, decide_eq_true_eq]
/-- What is taken at a time of the week. -/
def takW (L : List PSpan) (x : Int) : Int := L.foldl (fun n w => if w.from_ ≤ x ∧ x < w.to_ then max n w.width else n) 0
theorem takW_take {L : List PSpan} {x : Int} {k : Nat} {w : PSpan} (hw : L[k]? = some w) : takW (L.take (k + 1)) x = if w.from_ ≤ x ∧ x < w.to_ then max (takW (L.take k) x) w.width else takW (L.take k) x := by
  unfold takW; rw [takeS hw, List.foldl_append]; rfl
theorem takW_fold (x : Int) : ∀ (L : List PSpan) (n : Int), (∀ w ∈ L, winR w = true) → 0 ≤ n → n ≤ 64 → 0 ≤ L.foldl (fun n w => if w.from_ ≤ x ∧ x < w.to_ then max n w.width else n) n ∧ L.foldl (fun n w => if w.from_ ≤ x ∧ x < w.to_ then max n w.width else n) n ≤ 64
  | [], n, _, h1, h2 => ⟨h1, h2⟩
  | w :: L, n, hL, h1, h2 => by
    rw [List.foldl_cons]
    have hw := winR_iff.1 (hL w List.mem_cons_self)
    exact takW_fold x L _ (fun y hy => hL y (List.mem_cons_of_mem _ hy)) (by split <;> omega) (by split <;> omega)
theorem takW_rng {L : List PSpan} (hL : ∀ w ∈ L, winR w = true) (x : Int) : 0 ≤ takW L x ∧ takW L x ≤ 64 := takW_fold x L 0 hL (Int.le_refl _) (by omega)
theorem takW_const {L : List PSpan} {x y : Int} (hxy : x ≤ y) (h : ∀ w ∈ L, (x < w.from_ → y < w.from_) ∧ (x < w.to_ → y < w.to_)) : takW L x = takW L y := by
  have key : ∀ (L : List PSpan) (n : Int), (∀ w ∈ L, (x < w.from_ → y < w.from_) ∧ (x < w.to_ → y < w.to_)) → L.foldl (fun n w => if w.from_ ≤ x ∧ x < w.to_ then max n w.width else n) n = L.foldl (fun n w => if w.from_ ≤ y ∧ y < w.to_ then max n w.width else n) n := by
    intro L
    induction L with
    | nil => intro n _; rfl
    | cons w L ih =>
      intro n h
      have hw := h w List.mem_cons_self
      rw [List.foldl_cons, List.foldl_cons]
      have e : (if w.from_ ≤ x ∧ x < w.to_ then max n w.width else n) = (if w.from_ ≤ y ∧ y < w.to_ then max n w.width else n) := by
        by_cases q : w.from_ ≤ x ∧ x < w.to_
        · rw [if_pos q, if_pos (by omega)]
        · rw [if_neg q, if_neg (by omega)]
      rw [e]
      exact ih _ fun v hv => h v (List.mem_cons_of_mem _ hv)
  exact key L 0 h
/-- The units of a week at which windows begin or end, with 0. -/
def ed1 (w : PSpan) : List Int := w.from_ :: if w.to_ < 10080 then [w.to_] else []
def edL (L : List PSpan) : List Int := 0 :: L.flatMap ed1
theorem edL_take {L : List PSpan} {k : Nat} {w : PSpan} (hw : L[k]? = some w) : edL (L.take (k + 1)) = edL (L.take k) ++ ed1 w := by
  unfold edL; rw [takeS hw, List.flatMap_append, List.flatMap_cons, List.flatMap_nil, List.append_nil]; rfl
theorem edL_len (L : List PSpan) : (edL L).length ≤ 2 * L.length + 1 := by
  unfold edL
  rw [List.length_cons]
  have : (L.flatMap ed1).length ≤ 2 * L.length := by
    induction L with
    | nil => exact Nat.le_refl _
    | cons w L ih =>
      rw [List.flatMap_cons, List.length_append, List.length_cons]
      have : (ed1 w).length ≤ 2 := by unfold ed1; split <;> simp
      omega
  omega
theorem ed1_mem {w : PSpan} {e : Int} : e ∈ ed1 w ↔ e = w.from_ ∨ (e = w.to_ ∧ w.to_ < 10080) := by
  unfold ed1
  split
  · simp [*]
  · simp [*]
theorem edL_mem {L : List PSpan} {e : Int} : e ∈ edL L ↔ e = 0 ∨ ∃ w ∈ L, e = w.from_ ∨ (e = w.to_ ∧ w.to_ < 10080) := by
  unfold edL
  rw [List.mem_cons, List.mem_flatMap]
  simp only [ed1_mem]
theorem edL_rng {L : List PSpan} (hL : ∀ w ∈ L, winR w = true) {e : Int} (h : e ∈ edL L) : 0 ≤ e ∧ e < 10080 := by
  rcases edL_mem.1 h with rfl | ⟨w, hw, h⟩
  · omega
  · have := winR_iff.1 (hL w hw)
    omega
/-- The edge of a number, or the week's end. -/
def xat (X : List Int) (i : Nat) : Int := (X[i]?).getD 10080
theorem xat_some {X : List Int} {i : Nat} {x : Int} (h : X[i]? = some x) : xat X i = x := by unfold xat; rw [h]; rfl
theorem xat_end {X : List Int} {i : Nat} (h : X.length ≤ i) : xat X i = 10080 := by unfold xat; rw [List.getElem?_eq_none h]; rfl
theorem Tms.lt {A X : List Int} (h : Tms A X) {i j : Nat} {x y : Int} (hx : X[i]? = some x) (hy : X[j]? = some y) (hij : i < j) : x < y := by
  have h1 := get_lt hx
  have h2 := get_lt hy
  have := List.pairwise_iff_getElem.1 h.1 i j h1 h2 hij
  rw [List.getElem?_eq_getElem h1] at hx
  rw [List.getElem?_eq_getElem h2] at hy
  cases hx; cases hy; exact this
theorem Tms.rng {L : List PSpan} {X : List Int} (hL : ∀ w ∈ L, winR w = true) (h : Tms (edL L) X) {i : Nat} {x : Int} (hx : X[i]? = some x) : 0 ≤ x ∧ x < 10080 := edL_rng hL ((h.2 x).1 (List.mem_of_getElem? hx))
theorem Tms.zero {L : List PSpan} {X : List Int} (hL : ∀ w ∈ L, winR w = true) (h : Tms (edL L) X) : X[0]? = some 0 := by
  obtain ⟨i, hi⟩ := List.getElem?_of_mem ((h.2 0).2 (edL_mem.2 (.inl rfl)))
  by_cases e : i = 0
  · subst e; exact hi
  · obtain ⟨x, hx⟩ := get_ex (show 0 < X.length by have := get_lt hi; omega)
    have h1 := h.lt hx hi (by omega)
    have h2 := h.rng hL hx
    omega
theorem Tms.step {L : List PSpan} {X : List Int} (hL : ∀ w ∈ L, winR w = true) (h : Tms (edL L) X) {i : Nat} {x : Int} (hx : X[i]? = some x) : x < xat X (i + 1) ∧ xat X (i + 1) ≤ 10080 := by
  rcases Nat.lt_or_ge (i + 1) X.length with q | q
  · obtain ⟨y, hy⟩ := get_ex q
    rw [xat_some hy]
    exact ⟨h.lt hx hy (by omega), by have := h.rng hL hy; omega⟩
  · rw [xat_end q]
    exact ⟨(h.rng hL hx).2, Int.le_refl _⟩
/-- No edge lies between. -/
theorem Tms.none {L : List PSpan} {X : List Int} (hL : ∀ w ∈ L, winR w = true) (h : Tms (edL L) X) {i : Nat} {x e : Int} (hx : X[i]? = some x) (he : e ∈ edL L) (h1 : x < e) : xat X (i + 1) ≤ e := by
  obtain ⟨j, hj⟩ := List.getElem?_of_mem ((h.2 e).2 he)
  have hij : i < j := by
    rcases Nat.lt_or_ge i j with q | q
    · exact q
    · exfalso
      by_cases e2 : i = j
      · subst e2; rw [hx] at hj; cases hj; omega
      · have := h.lt hj hx (by omega); omega
  obtain ⟨y, hy⟩ := get_ex (show i + 1 < X.length by have := get_lt hj; omega)
  rw [xat_some hy]
  by_cases e2 : i + 1 = j
  · subst e2; rw [hy] at hj; cases hj; omega
  · have := h.lt hy hj (by omega); omega
theorem tak_in {L : List PSpan} {X : List Int} (hL : ∀ w ∈ L, winR w = true) (h : Tms (edL L) X) {i : Nat} {x y : Int} (hx : X[i]? = some x) (h1 : x ≤ y) (h2 : y < xat X (i + 1)) : takW L y = takW L x := by
  refine (takW_const h1 fun w hw => ⟨fun q => ?_, fun q => ?_⟩).symm
  · have := h.none hL hx (edL_mem.2 (.inr ⟨w, hw, .inl rfl⟩)) q; omega
  · by_cases q2 : w.to_ < 10080
    · have := h.none hL hx (edL_mem.2 (.inr ⟨w, hw, .inr ⟨rfl, q2⟩⟩)) q; omega
    · have := (h.step hL hx).2; omega
/-- The next edge above, so far as was looked. -/
def NxI (L : List PSpan) (x : Int) (k : Nat) (b : Int) : Prop := x < b ∧ b ≤ 10080 ∧ (∀ j w, j < k → L[j]? = some w → (x < w.from_ → b ≤ w.from_) ∧ (x < w.to_ → b ≤ w.to_)) ∧ (b = 10080 ∨ ∃ w ∈ L, b = w.from_ ∨ b = w.to_)
theorem NxI.start {L : List PSpan} {x : Int} (h : x < 10080) : NxI L x 0 10080 := ⟨h, Int.le_refl _, fun j w q => by omega, .inl rfl⟩
theorem NxI.next {L : List PSpan} {x b b1 b2 : Int} {k : Nat} {w : PSpan} (h : NxI L x k b) (hw : L[k]? = some w) (h1 : b1 = if x < w.from_ ∧ w.from_ < b then w.from_ else b) (h2 : b2 = if x < w.to_ ∧ w.to_ < b1 then w.to_ else b1) : NxI L x (k + 1) b2 := by
  obtain ⟨g1, g2, g3, g4⟩ := h
  have hb1 : b1 ≤ b ∧ x < b1 ∧ (x < w.from_ → b1 ≤ w.from_) ∧ (b1 = b ∨ b1 = w.from_) := by rw [h1]; split <;> omega
  have hb2 : b2 ≤ b1 ∧ x < b2 ∧ (x < w.to_ → b2 ≤ w.to_) ∧ (b2 = b1 ∨ b2 = w.to_) := by rw [h2]; split <;> omega
  have hm := List.mem_of_getElem? hw
  refine ⟨hb2.2.1, by omega, fun i y hi hy => ?_, ?_⟩
  · by_cases e : i = k
    · subst e; rw [hw] at hy; cases hy; omega
    · have := g3 i y (by omega) hy; omega
  · rcases hb2.2.2.2 with e | e
    · rw [e]
      rcases hb1.2.2.2 with e1 | e1
      · rw [e1]; exact g4
      · rw [e1]; exact .inr ⟨w, hm, .inl rfl⟩
    · rw [e]; exact .inr ⟨w, hm, .inr rfl⟩
/-- The next edge above a time of the week. -/
def Nxt (L : List PSpan) (x b : Int) : Prop := NxI L x L.length b
theorem Nxt.eq {L : List PSpan} {X : List Int} (hL : ∀ w ∈ L, winR w = true) (h : Tms (edL L) X) {i : Nat} {x y b : Int} (hx : X[i]? = some x) (h1 : x ≤ y) (h2 : y < xat X (i + 1)) (hb : Nxt L y b) : b = xat X (i + 1) := by
  obtain ⟨b1, b2, b3, b4⟩ := hb
  have up : b ≤ xat X (i + 1) := by
    rcases Nat.lt_or_ge (i + 1) X.length with q | q
    · obtain ⟨z, hz⟩ := get_ex q
      rw [xat_some hz] at h2 ⊢
      rcases edL_mem.1 ((h.2 z).1 (List.mem_of_getElem? hz)) with rfl | ⟨w, hw, e⟩
      · have := h.rng hL hx; omega
      · obtain ⟨j, hj⟩ := List.getElem?_of_mem hw
        have := b3 j w (get_lt hj) hj
        rcases e with rfl | ⟨rfl, _⟩
        · exact this.1 h2
        · exact this.2 h2
    · rw [xat_end q]; exact b2
  have hle := (h.step hL hx).2
  rcases b4 with rfl | ⟨w, hw, e⟩
  · omega
  · by_cases q : b < 10080
    · have := h.none hL hx (e := b) (edL_mem.2 (.inr ⟨w, hw, by rcases e with e | e; (exact .inl e); (exact .inr ⟨e, by omega⟩)⟩)) (by omega)
      omega
    · omega
theorem Nxt.uniq {L : List PSpan} {x b c : Int} (hb : Nxt L x b) (hc : Nxt L x c) : b = c := by
  have one : ∀ {b c : Int}, Nxt L x b → Nxt L x c → b ≤ c := by
    intro b c hb hc
    rcases hc.2.2.2 with rfl | ⟨w, hw, e⟩
    · exact hb.2.1
    · obtain ⟨j, hj⟩ := List.getElem?_of_mem hw
      have := hb.2.2.1 j w (get_lt hj) hj
      have := hc.1
      rcases e with rfl | rfl
      · exact (hb.2.2.1 j w (get_lt hj) hj).1 (by omega)
      · exact (hb.2.2.1 j w (get_lt hj) hj).2 (by omega)
  have h1 := one hb hc
  have h2 := one hc hb
  omega
/-- For how long nothing is taken, up to an edge. -/
def opP (L : List PSpan) (X : List Int) : Nat → Int
  | 0 => 0
  | k + 1 => opP L X k + if takW L (xat X k) = 0 then xat X (k + 1) - xat X k else 0
theorem opP_rng {L : List PSpan} {X : List Int} (hL : ∀ w ∈ L, winR w = true) (h : Tms (edL L) X) : ∀ k, k ≤ X.length → 0 ≤ opP L X k ∧ opP L X k ≤ xat X k
  | 0, _ => by
    rw [xat_some (h.zero hL)]
    exact ⟨Int.le_refl _, Int.le_refl _⟩
  | k + 1, hk => by
    obtain ⟨x, hx⟩ := get_ex (show k < X.length by omega)
    have h1 := opP_rng hL h k (by omega)
    have h2 := h.step hL hx
    unfold opP
    rw [xat_some hx] at h1 ⊢
    split <;> omega
/-- What is taken at a time. -/
def takT (L : List PSpan) (t : Int) : Int := if t < 0 then 0 else takW L (t % 10080)
theorem takT_rng {L : List PSpan} (hL : ∀ w ∈ L, winR w = true) (t : Int) : 0 ≤ takT L t ∧ takT L t ≤ 64 := by
  unfold takT
  split
  · omega
  · exact takW_rng hL _
theorem tmod_pos {t : Int} (h : ¬ t < 0) : t.tmod 10080 = t % 10080 := Int.tmod_eq_emod_of_nonneg (by omega)
theorem tdiv_pos {t : Int} (h : ¬ t < 0) : t.tdiv 10080 = t / 10080 := Int.tdiv_eq_ediv_of_nonneg (by omega)
/-- Spans with one more. -/
def jn (C : List PSpan) (s : PSpan) : List PSpan :=
  match C[C.length - 1]? with
  | some l => if l.to_ = s.from_ ∧ l.width = s.width then C.set (C.length - 1) ⟨l.from_, s.to_, l.width⟩ else C ++ [s]
  | none => C ++ [s]
theorem jn_set {C : List PSpan} {s l : PSpan} (hl : C[C.length - 1]? = some l) (h : l.to_ = s.from_ ∧ l.width = s.width) : jn C s = C.set (C.length - 1) ⟨l.from_, s.to_, l.width⟩ := by unfold jn; rw [hl]; exact if_pos h
theorem jn_app {C : List PSpan} {s l : PSpan} (hl : C[C.length - 1]? = some l) (h : ¬ (l.to_ = s.from_ ∧ l.width = s.width)) : jn C s = C ++ [s] := by unfold jn; rw [hl]; exact if_neg h
theorem jn_nil {C : List PSpan} {s : PSpan} (h : C.length = 0) : jn C s = C ++ [s] := by
  obtain rfl : C = [] := List.length_eq_zero_iff.1 h
  rfl
theorem jn_len (C : List PSpan) (s : PSpan) : (jn C s).length ≤ C.length + 1 := by
  unfold jn
  split
  · split
    · rw [List.length_set]; omega
    · simp
  · simp
/-- The law's walk through time: where it stands, and the spans so far; k steps. -/
inductive Itr (L : List PSpan) (from_ to_ : Int) : Nat → Int → List PSpan → Prop
  | zero : Itr L from_ to_ 0 from_ []
  | step {k : Nat} {t b : Int} {C : List PSpan} : Itr L from_ to_ k t C → t < to_ → Nxt L (t % 10080) b →
      Itr L from_ to_ (k + 1) (min (t / 10080 * 10080 + b) to_) (if 0 < takT L t then jn C ⟨t, min (t / 10080 * 10080 + b) to_, takT L t⟩ else C)
theorem Itr.ge {L : List PSpan} {from_ to_ t : Int} {k : Nat} {C : List PSpan} (hft : from_ ≤ to_) (h : Itr L from_ to_ k t C) : from_ ≤ t ∧ t ≤ to_ := by
  induction h with
  | zero => omega
  | step h h1 h2 ih => have := h2.1; omega
theorem Itr.len {L : List PSpan} {from_ to_ t : Int} {k : Nat} {C : List PSpan} (h : Itr L from_ to_ k t C) : C.length ≤ k := by
  induction h with
  | zero => exact Nat.le_refl _
  | step h h1 h2 ih =>
    split
    · exact Nat.le_trans (jn_len _ _) (by omega)
    · omega
/-- Two walks of one length are one; a longer one exists only where the shorter has not come to the end. -/
theorem Itr.det {L : List PSpan} {from_ to_ : Int} : ∀ {k : Nat} {t u : Int} {C D : List PSpan}, Itr L from_ to_ k t C → Itr L from_ to_ k u D → t = u ∧ C = D
  | 0, _, _, _, _, .zero, .zero => ⟨rfl, rfl⟩
  | k + 1, _, _, _, _, .step h1 h2 h3, .step g1 g2 g3 => by
    obtain ⟨rfl, rfl⟩ := Itr.det h1 g1
    obtain rfl := h3.uniq g3
    exact ⟨rfl, rfl⟩
theorem Itr.pre {L : List PSpan} {from_ to_ t : Int} {k : Nat} {C : List PSpan} (h : Itr L from_ to_ k t C) : ∀ j, j < k → ∃ u D, Itr L from_ to_ j u D ∧ u < to_ := by
  induction h with
  | zero => intro j hj; omega
  | @step k t b C h h1 h2 ih =>
    intro j hj
    by_cases e : j = k
    · subst e; exact ⟨t, C, h, h1⟩
    · exact ih j (by omega)
theorem Itr.fin {L : List PSpan} {from_ to_ t u : Int} {j k : Nat} {C D : List PSpan} (h : Itr L from_ to_ j t C) (hk : Itr L from_ to_ k u D) (ht : ¬ t < to_) (hu : ¬ u < to_) : j = k ∧ C = D := by
  have e : j = k := by
    rcases Nat.lt_trichotomy j k with q | q | q
    · obtain ⟨v, F, hv, hlt⟩ := hk.pre j q
      obtain ⟨rfl, _⟩ := hv.det h
      exact absurd hlt ht
    · exact q
    · obtain ⟨v, F, hv, hlt⟩ := h.pre k q
      obtain ⟨rfl, _⟩ := hv.det hk
      exact absurd hlt hu
  subst e
  exact ⟨rfl, (h.det hk).2⟩
theorem Itr.no {L : List PSpan} {from_ to_ t u : Int} {j k : Nat} {C D : List PSpan} (h : Itr L from_ to_ j t C) (hk : Itr L from_ to_ k u D) (ht : ¬ t < to_) (hjk : j < k) : False := by
  obtain ⟨v, F, hv, hlt⟩ := hk.pre j hjk
  obtain ⟨rfl, _⟩ := hv.det h
  exact ht hlt
def clampT (from_ to_ T : Int) : Int := min (max T from_) to_
theorem itr_skip {from_ to_ T T' : Int} (hft : from_ ≤ to_) (h1 : T < T') (h : ¬ max from_ T < min to_ T') : clampT from_ to_ T' = clampT from_ to_ T := by unfold clampT; omega
theorem Itr.go {L : List PSpan} {X : List Int} (hL : ∀ w ∈ L, winR w = true) (hX : Tms (edL L) X) {from_ to_ q : Int} {k i : Nat} {C : List PSpan} {x : Int} (hft : 0 ≤ from_ ∧ from_ ≤ to_) (hq : 0 ≤ q) (hx : X[i]? = some x) (h : Itr L from_ to_ k (clampT from_ to_ (10080 * q + x)) C) (ho : max from_ (10080 * q + x) < min to_ (10080 * q + xat X (i + 1))) (hex : ∃ b, Nxt L (clampT from_ to_ (10080 * q + x) % 10080) b) :
    Itr L from_ to_ (k + 1) (clampT from_ to_ (10080 * q + xat X (i + 1))) (if 0 < takT L (10080 * q + x) then jn C ⟨max from_ (10080 * q + x), min to_ (10080 * q + xat X (i + 1)), takT L (10080 * q + x)⟩ else C) := by
  obtain ⟨b, hb⟩ := hex
  have hr := hX.rng hL hx
  have hs := hX.step hL hx
  have e1 : clampT from_ to_ (10080 * q + x) = max from_ (10080 * q + x) := by unfold clampT; omega
  obtain ⟨r, hr2⟩ : ∃ r, max from_ (10080 * q + x) = 10080 * q + r := ⟨max from_ (10080 * q + x) - 10080 * q, by omega⟩
  have hrx : x ≤ r ∧ r < xat X (i + 1) := by omega
  have em : (10080 * q + r) % 10080 = r := by omega
  have ed : (10080 * q + r) / 10080 * 10080 = 10080 * q := by omega
  rw [e1, hr2] at h hb
  rw [em] at hb
  have hbe := hb.eq hL hX hx hrx.1 hrx.2
  subst hbe
  have e2 : clampT from_ to_ (10080 * q + xat X (i + 1)) = min (10080 * q + xat X (i + 1)) to_ := by unfold clampT; omega
  have e3 : takT L (10080 * q + r) = takT L (10080 * q + x) := by
    unfold takT
    rw [if_neg (by omega), if_neg (by omega), em, show (10080 * q + x) % 10080 = x by omega]
    exact tak_in hL hX hx hrx.1 hrx.2
  have key := Itr.step h (by omega) (by rw [em]; exact hb)
  rw [ed, e3, ← e2] at key
  rw [hr2, show min to_ (10080 * q + xat X (i + 1)) = clampT from_ to_ (10080 * q + xat X (i + 1)) by rw [e2]; omega]
  exact key
theorem nxt_ex (L : List PSpan) {x : Int} (h : x < 10080) : ∃ b, Nxt L x b := by
  have key : ∀ k, k ≤ L.length → ∃ b, NxI L x k b := by
    intro k
    induction k with
    | zero => intro _; exact ⟨_, .start h⟩
    | succ k ih =>
      intro hk
      obtain ⟨b, hb⟩ := ih (by omega)
      obtain ⟨w, hw⟩ := get_ex (show k < L.length by omega)
      exact ⟨_, hb.next hw rfl rfl⟩
  exact key _ (Nat.le_refl _)
theorem opP_succ {L : List PSpan} {X : List Int} {k : Nat} : opP L X (k + 1) = opP L X k + if takW L (xat X k) = 0 then xat X (k + 1) - xat X k else 0 := rfl
theorem takT_week {L : List PSpan} {x : Int} (h : 0 ≤ x ∧ x < 10080) : takT L x = takW L x := by
  unfold takT; rw [if_neg (by omega), show x % 10080 = x by omega]
theorem clamp_lo {from_ to_ T : Int} (h : T ≤ from_) (hft : from_ ≤ to_) : clampT from_ to_ T = from_ := by unfold clampT; omega
theorem clamp_hi {from_ to_ T : Int} (h : to_ ≤ T) : clampT from_ to_ T = to_ := by unfold clampT; omega
theorem tms_ex (A : List Int) : ∃ X, Tms A X := by
  refine ⟨cpt eqI (A.mergeSort (fun a b => decide (a ≤ b))), srt_tms0 (List.mergeSort_perm _ _) ?_⟩
  have := List.pairwise_mergeSort (le := fun (a b : Int) => decide (a ≤ b)) (fun a b c h1 h2 => by simp at *; omega) (fun a b => by simp; omega) A
  exact this.imp fun h => by simpa using h
theorem pw_head {L : List PSpan} {X : List Int} (hL : ∀ w ∈ L, winR w = true) (h : Tms (edL L) X) : xat X 0 = 0 := xat_some (h.zero hL)
end Go.Proofs.Ytjkojdjjooangaa.Sym
