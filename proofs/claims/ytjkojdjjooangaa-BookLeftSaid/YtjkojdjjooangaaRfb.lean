/- The document's profile: what its functions come to. -/
import Derived.Test.YtjkojdjjooangaaBkd
namespace Go.Proofs.Ytjkojdjjooangaa
open Go.Proofs.Ytjkojdjjooangaa.Sym
open Go.RowKit (Below)
set_option linter.unusedVariables false
set_option linter.unusedSimpArgs false
@[reducible] def plB (q : Nat) (free now : Int) (sl : Value) (v : Int) : Nat × Obj := (q, .cells [.int .i64 free, .int .i64 now, sl, .int .i64 v].toArray 36 (0, 0))
@[reducible] def iC (x : Int) : List Value := [.int .i64 x]
theorem spOn_yes {s : PSpan} {t : Int} (h : s.from_ ≤ t ∧ (t < s.to_ ∨ s.to_ = 1152921504606846976)) : spOn s t = true := by
  unfold spOn; simp only [Bool.and_eq_true, Bool.or_eq_true, decide_eq_true_eq]; exact h
theorem spOn_no {s : PSpan} {t : Int} (h : ¬ (s.from_ ≤ t ∧ (t < s.to_ ∨ s.to_ = 1152921504606846976))) : ¬ spOn s t = true := by
  unfold spOn; simp only [Bool.and_eq_true, Bool.or_eq_true, decide_eq_true_eq]; exact h
structure EdG where
  k : Nat
  e : List Int
  a : Option Addr
  c : Nat
  E : SHeap
structure EbG where
  j : Nat
  b : Int
structure StG where
  k : Nat
  a : Option Addr
  c : Nat
  E : SHeap
structure BdG where
  k : Nat
  m : Int
  M : Int
def endsL (L : List PSpan) : List Int := L.flatMap fun s => [s.from_, s.to_]
theorem endsL_len (L : List PSpan) : (endsL L).length = 2 * L.length := by
  induction L with
  | nil => rfl
  | cons s L ih => unfold endsL at *; rw [List.flatMap_cons, List.length_append, ih, List.length_cons]; simp; omega
theorem ends_mem {L : List PSpan} {p : Int} (h : PEnds L p) : p ∈ endsL L := by
  obtain ⟨s, hs, h⟩ := h
  unfold endsL
  rw [List.mem_flatMap]
  exact ⟨s, hs, by rcases h with rfl | rfl <;> simp⟩
def abv (x p : Int) : Bool := decide (x < p) && decide (p < 1152921504606846976)
def cntA (L : List PSpan) (x : Int) : Nat := ((endsL L).filter (abv x)).length
theorem filter_lt {α : Type} {p q : α → Bool} : ∀ {l : List α} {x : α}, (∀ y, q y = true → p y = true) → x ∈ l → p x = true → q x = false → (l.filter q).length < (l.filter p).length
  | [], x, _, h, _, _ => by cases h
  | y :: l, x, hpq, h, hp, hq => by
    have hle : ∀ m : List α, (m.filter q).length ≤ (m.filter p).length := by
      intro m
      induction m with
      | nil => exact Nat.le_refl _
      | cons z m ih =>
        by_cases h1 : q z = true
        · rw [List.filter_cons_of_pos h1, List.filter_cons_of_pos (hpq z h1)]; simp; exact ih
        · by_cases h2 : p z = true
          · rw [List.filter_cons_of_neg h1, List.filter_cons_of_pos h2]; simp; omega
          · rw [List.filter_cons_of_neg h1, List.filter_cons_of_neg h2]; exact ih
    rw [List.mem_cons] at h
    rcases h with rfl | h
    · rw [List.filter_cons_of_pos hp, List.filter_cons_of_neg (by rw [hq]; decide)]
      have := hle l
      simp; omega
    · have ih := filter_lt hpq h hp hq
      by_cases h1 : q y = true
      · rw [List.filter_cons_of_pos h1, List.filter_cons_of_pos (hpq y h1)]; simp; exact ih
      · by_cases h2 : p y = true
        · rw [List.filter_cons_of_neg h1, List.filter_cons_of_pos h2]; simp; omega
        · rw [List.filter_cons_of_neg h1, List.filter_cons_of_neg h2]; exact ih
/-- The least end above the last edge, so far as j spans were looked at. -/
def BestI (L : List PSpan) (last : Int) (j : Nat) (b : Int) : Prop :=
  last < b ∧ b ≤ 1152921504606846976 ∧ (∀ i s, i < j → L[i]? = some s → (last < s.from_ → b ≤ s.from_) ∧ (last < s.to_ → b ≤ s.to_)) ∧ (b = 1152921504606846976 ∨ PEnds L b)
theorem BestI.start {L : List PSpan} {last : Int} (h : last < 1152921504606846976) : BestI L last 0 1152921504606846976 := ⟨h, Int.le_refl _, fun i s h => by omega, .inl rfl⟩
theorem BestI.step {L : List PSpan} {last b b1 b2 : Int} {j : Nat} {s : PSpan} (h : BestI L last j b) (hx : L[j]? = some s) (ok : SpOk s) (h1 : b1 = if last < s.from_ ∧ s.from_ < b then s.from_ else b) (h2 : b2 = if last < s.to_ ∧ s.to_ < b1 then s.to_ else b1) : BestI L last (j + 1) b2 := by
  obtain ⟨g1, g2, g3, g4⟩ := h
  have hb1 : b1 ≤ b ∧ last < b1 ∧ (last < s.from_ → b1 ≤ s.from_) ∧ (b1 = b ∨ b1 = s.from_) := by rw [h1]; split <;> omega
  have hb2 : b2 ≤ b1 ∧ last < b2 ∧ (last < s.to_ → b2 ≤ s.to_) ∧ (b2 = b1 ∨ b2 = s.to_) := by rw [h2]; split <;> omega
  have hm := List.mem_of_getElem? hx
  refine ⟨hb2.2.1, by omega, fun i x hi hxi => ?_, ?_⟩
  · by_cases e : i = j
    · subst e; rw [hx] at hxi; cases hxi; omega
    · have := g3 i x (by omega) hxi; omega
  · rcases hb2.2.2.2 with e | e
    · rw [e]
      rcases hb1.2.2.2 with e1 | e1
      · rw [e1]; exact g4
      · rw [e1]; exact .inr ⟨s, hm, .inl rfl⟩
    · rw [e]; exact .inr ⟨s, hm, .inr rfl⟩
theorem BestI.all {L : List PSpan} {last b : Int} {j : Nat} (h : BestI L last j b) (hj : L.length ≤ j) {p : Int} (hp : PEnds L p) (hl : last < p) : b ≤ p := by
  obtain ⟨s, hs, hp⟩ := hp
  obtain ⟨i, hi⟩ := List.getElem?_of_mem hs
  have := h.2.2.1 i s (by have := get_lt hi; omega) hi
  rcases hp with rfl | rfl
  · exact this.1 hl
  · exact this.2 hl
/-- The edges so far: k of them behind now. -/
structure EdI (now : Int) (L : List PSpan) (e : List Int) (k : Nat) (last : Int) : Prop where
  head : e[0]? = some now
  ris : e.Pairwise (· < ·)
  lt : ∀ p ∈ e, p < 1152921504606846976
  len : e.length = k + 1
  lastAt : e[k]? = some last
  comp : ∀ p, PEnds L p → now < p → p ≤ last → p ∈ e
  cnt : cntA L last + k ≤ 2 * L.length
theorem EdI.start {now : Int} {L : List PSpan} (h : now < 1152921504606846976) : EdI now L [now] 0 now :=
  ⟨rfl, by simp, fun p hp => by simp at hp; omega, rfl, rfl, fun p _ h1 h2 => by omega, by unfold cntA; have := List.length_filter_le (abv now) (endsL L); rw [endsL_len] at this; omega⟩
theorem EdI.le {now last : Int} {L : List PSpan} {e : List Int} {k : Nat} (h : EdI now L e k last) {p : Int} (hp : p ∈ e) : p ≤ last := by
  obtain ⟨i, hi⟩ := List.getElem?_of_mem hp
  have hR := eS_ris (f := fun _ => 0) h.ris
  exact hR.le (eS_get hi) (eS_get h.lastAt) (by have := get_lt hi; have := h.len; omega)
theorem EdI.push {now last b : Int} {L : List PSpan} {e : List Int} {k j : Nat} (h : EdI now L e k last) (hB : BestI L last j b) (hj : L.length ≤ j) (hb : ¬ b = 1152921504606846976) : EdI now L (e ++ [b]) (k + 1) b := by
  have hb1 := hB.1
  have hb2 := hB.2.1
  have hbe : PEnds L b := hB.2.2.2.resolve_left hb
  refine ⟨?_, ?_, ?_, by rw [List.length_append, h.len]; rfl, ?_, ?_, ?_⟩
  · rw [List.getElem?_append_left (by rw [h.len]; omega)]; exact h.head
  · rw [List.pairwise_append]
    refine ⟨h.ris, by simp, fun x hx y hy => ?_⟩
    simp at hy
    have := h.le hx
    omega
  · intro p hp
    rw [List.mem_append] at hp
    rcases hp with hp | hp
    · exact h.lt p hp
    · simp at hp; omega
  · rw [List.getElem?_append_right (by rw [h.len]; omega), h.len, Nat.sub_self]; rfl
  · intro p hp h1 h2
    rw [List.mem_append]
    rcases Int.lt_or_le last p with q | q
    · have := hB.all hj hp q
      exact .inr (by simp; omega)
    · exact .inl (h.comp p hp h1 q)
  · have := filter_lt (p := abv last) (q := abv b) (l := endsL L) (x := b) (fun y hy => by unfold abv at *; simp only [Bool.and_eq_true, decide_eq_true_eq] at *; omega) (ends_mem hbe) (by unfold abv; simp only [Bool.and_eq_true, decide_eq_true_eq]; omega) (by unfold abv; simp)
    have h2 := h.cnt
    unfold cntA at *
    omega
theorem EdI.stop {now last b : Int} {L : List PSpan} {e : List Int} {k j : Nat} (h : EdI now L e k last) (hB : BestI L last j b) (hj : L.length ≤ j) (hb : b = 1152921504606846976) : EdgesOk now L e :=
  ⟨h.head, h.ris, fun p hp h1 h2 => by
    rcases Int.lt_or_le last p with q | q
    · have := hB.all hj hp q; omega
    · exact h.comp p hp h1 q, h.lt⟩
theorem EdI.full {now last : Int} {L : List PSpan} {e : List Int} {k : Nat} (h : EdI now L e k last) (hk : 2 * L.length ≤ k) : EdgesOk now L e :=
  ⟨h.head, h.ris, fun p hp h1 h2 => by
    rcases Int.lt_or_le last p with q | q
    · have h3 := h.cnt
      unfold cntA at h3
      have h4 : ((endsL L).filter (abv last)) = [] := List.length_eq_zero_iff.1 (by omega)
      have h5 := List.filter_eq_nil_iff.1 h4 p (ends_mem hp)
      exact absurd (by unfold abv; simp only [Bool.and_eq_true, decide_eq_true_eq]; omega) h5
    · exact h.comp p hp h1 q, h.lt⟩
theorem edges_ge {now : Int} {L : List PSpan} {e : List Int} (h : EdgesOk now L e) {i : Nat} {x : Int} (hx : e[i]? = some x) : now ≤ x :=
  (eS_ris (f := fun _ => 0) h.ris).le (eS_get h.head) (eS_get hx) (Nat.zero_le _)
/-! ### the steps -/
theorem cptG_last : ∀ (l : List PStep) (p : PStep), ∃ s, (p :: cptG eqF p l)[(p :: cptG eqF p l).length - 1]? = some s ∧ s.free = (lst p l).free
  | [], p => ⟨p, rfl, rfl⟩
  | x :: l, p => by
    obtain ⟨s, h1, h2⟩ := cptG_last l x
    unfold cptG lst
    by_cases h : x.free = p.free
    · rw [if_pos (by unfold eqF; exact decide_eq_true h)]
      by_cases e : cptG eqF x l = []
      · rw [e] at h1 ⊢
        cases h1
        exact ⟨p, rfl, by rw [← h, h2]⟩
      · obtain ⟨y, m, hm⟩ : ∃ y m, cptG eqF x l = y :: m := by
          cases hc : cptG eqF x l with
          | nil => exact absurd hc e
          | cons y m => exact ⟨y, m, rfl⟩
        rw [hm] at h1 ⊢
        exact ⟨s, h1, h2⟩
    · rw [if_neg (by unfold eqF; simpa using h)]
      refine ⟨s, ?_, h2⟩
      rw [List.length_cons, List.length_cons, Nat.add_sub_cancel, List.getElem?_cons_succ]
      rw [List.length_cons, Nat.add_sub_cancel] at h1
      exact h1
theorem cpt_last {l : List PStep} {p : PStep} (hp : l[l.length - 1]? = some p) : ∃ s, (cpt eqF l)[(cpt eqF l).length - 1]? = some s ∧ s.free = p.free := by
  cases l with
  | nil => simp at hp
  | cons s l =>
    have h := lst_get l s
    rw [show (s :: l).length - 1 = l.length by simp] at hp
    rw [hp] at h; cases h
    exact cptG_last l s
theorem eS_len {f : Int → Int} {e : List Int} : (eS f e).length = e.length := by unfold eS; exact List.length_map _
theorem out_len {f : Int → Int} {e : List Int} {k : Nat} : (cpt eqF ((eS f e).take k)).length ≤ e.length := by
  have := (cpt_sub eqF ((eS f e).take k)).length_le
  rw [List.length_take, eS_len] at this; omega
theorem out_push {f : Int → Int} {e : List Int} {k : Nat} {x : Int} (hx : e[k]? = some x) (h : (cpt eqF ((eS f e).take k)).length = 0 ∨ ∃ s, (cpt eqF ((eS f e).take k))[(cpt eqF ((eS f e).take k)).length - 1]? = some s ∧ s.free ≠ f x) : cpt eqF ((eS f e).take (k + 1)) = cpt eqF ((eS f e).take k) ++ [⟨x, f x⟩] := by
  have hx2 := eS_get (f := f) hx
  have hk := get_lt hx
  by_cases e0 : k = 0
  · subst e0; rw [takeS hx2]; rfl
  · obtain ⟨p, hp⟩ := get_ex (show k - 1 < (eS f e).length by rw [eS_len]; omega)
    rw [take_snoc (by omega) hx2 hp]
    have hp2 : ((eS f e).take k)[((eS f e).take k).length - 1]? = some p := by
      rw [List.length_take, eS_len, show min k e.length - 1 = k - 1 by omega, List.getElem?_take, if_pos (by omega)]; exact hp
    obtain ⟨s, h1, h2⟩ := cpt_last hp2
    rcases h with h | ⟨s', h3, h4⟩
    · rw [h] at h1; have := get_lt h1; omega
    · rw [h1] at h3; cases h3
      rw [if_neg]
      unfold eqF
      rw [decide_eq_true_eq]
      intro q
      exact h4 (by rw [h2, ← q])
theorem out_keep {f : Int → Int} {e : List Int} {k : Nat} {x : Int} (hx : e[k]? = some x) (h : ∃ s, (cpt eqF ((eS f e).take k))[(cpt eqF ((eS f e).take k)).length - 1]? = some s ∧ s.free = f x) : cpt eqF ((eS f e).take (k + 1)) = cpt eqF ((eS f e).take k) := by
  have hx2 := eS_get (f := f) hx
  have hk := get_lt hx
  obtain ⟨s, h3, h4⟩ := h
  have e0 : k ≠ 0 := fun e0 => by subst e0; have := get_lt h3; rw [List.take_zero] at this; simp [cpt] at this
  obtain ⟨p, hp⟩ := get_ex (show k - 1 < (eS f e).length by rw [eS_len]; omega)
  rw [take_snoc (by omega) hx2 hp]
  have hp2 : ((eS f e).take k)[((eS f e).take k).length - 1]? = some p := by
    rw [List.length_take, eS_len, show min k e.length - 1 = k - 1 by omega, List.getElem?_take, if_pos (by omega)]; exact hp
  obtain ⟨s', h1, h2⟩ := cpt_last hp2
  rw [h1] at h3; cases h3
  rw [if_pos (by unfold eqF; rw [decide_eq_true_eq]; show f x = p.free; rw [← h2, h4]), List.append_nil]
theorem all_vec {e : List Int} {A : Int} {a : Option Addr} {c : Nat} {E : SHeap} (h : OwnVec 1 2 (.slice a (1 + e.length) c) (1 + e.length) ([.int .i64 A] ++ e.flatMap iC) E) : OwnVec 1 2 (.slice a (A :: e).length c) (A :: e).length ((A :: e).flatMap iC) E := by
  rw [Nat.add_comm] at h; exact h
theorem minOn_bd {f : Int → Int} {a b m : Int} (h : MinOn f a b m) (hr : ∀ t, a ≤ t → 0 ≤ f t ∧ f t ≤ 64) : 0 ≤ m ∧ m ≤ 64 := by
  refine ⟨?_, h.1⟩
  rcases h.2.2 with q | ⟨t, q1, q2, q3⟩
  · omega
  · have := hr t q1; omega
theorem okBoth {f : Int → Int} {a b m M d : Int} (h : MinOn f a b m) (k : MaxOn f a b M) (h1 : ¬ m + d < 0) (h2 : ¬ 64 < M + d) : ∀ t, a ≤ t → t < b → 0 ≤ f t + d ∧ f t + d ≤ 64 := fun t q1 q2 => by
  have h3 := h.2.1 t q1 q2; have h4 := k.2.1 t q1 q2; omega
theorem rngBoth {f : Int → Int} {a b m M d : Int} (h : MinOn f a b m) (k : MaxOn f a b M) (hd : -64 ≤ d ∧ d ≤ 64) (hb : m + d < 0 ∨ 64 < M + d) : ∃ t, a ≤ t ∧ t < b ∧ (f t + d < 0 ∨ 64 < f t + d) := by
  rcases hb with q | q
  · rcases h.2.2 with e | ⟨t, q1, q2, q3⟩
    · omega
    · exact ⟨t, q1, q2, .inl (by omega)⟩
  · rcases k.2.2 with e | ⟨t, q1, q2, q3⟩
    · omega
    · exact ⟨t, q1, q2, .inr (by omega)⟩
theorem ag34 : aggOf Try.prog 34 = some false := by kernel_rfl
theorem cl33 : Callable Try.prog 33 := ⟨Try.f33, Try.func33, by kernel_rfl, by kernel_rfl⟩
theorem cl35 : Callable Try.prog 35 := ⟨Try.f35, Try.func35, by kernel_rfl, by kernel_rfl⟩
theorem cl92 : Callable Try.prog 92 := ⟨Try.f92, Try.func92, by kernel_rfl, by kernel_rfl⟩
theorem fd36_0 : fldOf Try.prog 36 0 = some (0, 3, 1) := by kernel_rfl
theorem fd36_1 : fldOf Try.prog 36 1 = some (1, 2, 1) := by kernel_rfl
theorem fd36_2 : fldOf Try.prog 36 2 = some (2, 34, 1) := by kernel_rfl
theorem fd36_3 : fldOf Try.prog 36 3 = some (3, 3, 1) := by kernel_rfl
theorem sz34 : szOf Try.prog 34 = some 1 := by kernel_rfl
section
variable {W0 : World}
set_option maxRecDepth 100000 in
set_option maxHeartbeats 1000000 in
theorem qat_s (q : Nat) (free now : Int) (a : Option Addr) (cap : Nat) (L : List PSpan) (ver : Int) (H : SHeap) (hc : Cells W0 H q 0 [.int .i64 free, .int .i64 now, .slice a L.length cap, .int .i64 ver]) (hs : SlV W0 H 3 PSpan.cells a cap L) (hL : ∀ s ∈ L, SpOk s) (hfr : 0 ≤ free ∧ free ≤ 64) (hll : L.length ≤ 1000) (t : Int) : AC Try.prog W0 35 [.pointer (some ⟨q, 0, none⟩), .int .i64 t] H (fun v H' => v = .int .i64 (atP free L (max t now)) ∧ H' = H) := by
  have hle := hs.le
  have hcb := hs.capb
  refine ac_of Try.func35 rfl rfl rfl ?_
  refine aw_seq_region ?_
  refine sr_as ?_
  refine sr_nil ?_
  refine aw_kp [0, 1, 4] ?_
  refine aw_join (ι := Unit) (fun _ => True) (fun _ => [(0, .pointer (some ⟨q, 0, none⟩)), (1, .int .i64 (max t now)), (4, .int .i64 0)]) (fun _ => H) ?_ ?_
  · refine aw_seq_region ?_
    refine sr_mv ?_
    refine sr_mv ?_
    refine sr_rd (x_nilCheck rfl) ?_
    refine sr_rd (x_fieldAddr fd36_1 rfl) ?_
    refine sr_rd (x_load ag2 rfl (cells_get (Cells.mono hc Sub.autoR) 1 rfl)) ?_
    refine sr_c (x_lt rfl rfl) (fun h1 => ?_) (fun h1 => ?_)
    · refine sr_nil ?_
      refine aw_kp [0, 1, 4, 12] ?_
      refine aw_true rfl ?_
      refine aw_region ?_
      refine sr_mv ?_
      refine sr_rd (x_nilCheck rfl) ?_
      refine sr_rd (x_fieldAddr fd36_1 rfl) ?_
      refine sr_rd (x_load ag2 rfl (cells_get (Cells.mono hc Sub.autoR) 1 rfl)) ?_
      refine sr_as ?_
      refine sr_nil ?_
      show ∃ s', _ ∧ _ ∧ _
      exact ⟨(), trivial, (by first | (rw [Int.max_eq_left (by omega)]; exact KeepF.auto) | (rw [Int.max_eq_right (by omega)]; exact KeepF.auto)), Sub.autoP⟩
    · refine sr_nil ?_
      refine aw_kp [0, 1, 4, 12] ?_
      refine aw_false rfl ?_
      refine aw_skip ?_
      show ∃ s', _ ∧ _ ∧ _
      exact ⟨(), trivial, (by first | (rw [Int.max_eq_left (by omega)]; exact KeepF.auto) | (rw [Int.max_eq_right (by omega)]; exact KeepF.auto)), Sub.autoP⟩
  · intro _ _
    refine aw_seq_region ?_
    refine sr_mv ?_
    refine sr_rd (x_nilCheck rfl) ?_
    refine sr_rd (x_fieldAddr fd36_0 rfl) ?_
    refine sr_rd (x_load ag3 rfl (cells_get (Cells.mono hc Sub.autoR) 0 rfl)) ?_
    refine sr_as ?_
    refine sr_nil ?_
    refine aw_kp [0, 1, 4, 5] ?_
    refine aw_seq ?_
    refine aw_seq_region ?_
    refine sr_as ?_
    refine sr_nil ?_
    refine aw_kp [0, 1, 4, 5, 6] ?_
    refine aw_block ?_
    refine aw_loop (ι := Nat) (fun k => k ≤ L.length) (fun k => [(0, .pointer (some ⟨q, 0, none⟩)), (1, .int .i64 (max t now)), (4, .int .i64 0), (5, .int .i64 (atP free (L.take k) (max t now))), (6, .int .i64 k)]) (fun _ => H) (fun k => L.length - k) 0 (Nat.zero_le _) KeepF.auto Sub.autoP ?_
    intro k hk
    have hb := atP_bd (L := L.take k) (fun s hs => hL s (List.mem_of_mem_take hs)) (max t now) free 1 (by omega) (by omega)
    rw [List.length_take] at hb
    refine aw_seq ?_
    refine aw_seq_region ?_
    refine sr_mv ?_
    refine sr_mv ?_
    refine sr_rd (x_nilCheck rfl) ?_
    refine sr_rd (x_fieldAddr fd36_2 rfl) ?_
    refine sr_rd (x_load ag34 rfl (cells_get (Cells.mono hc Sub.autoR) 2 rfl)) ?_
    refine sr_rd (x_lenSlice Try.underlying34 rfl) ?_
    refine sr_c (x_lt rfl rfl) (fun h2 => ?_) (fun h2 => ?_)
    · refine sr_nil ?_
      refine aw_kp [0, 1, 4, 5, 6, 21, 22, 23, 24, 25, 26, 27] ?_
      refine aw_true rfl ?_
      refine aw_skip ?_
      show AW _ _ _ _ _ _ _
      refine aw_seq ?_
      refine aw_block ?_
      refine aw_seq_region ?_
      obtain ⟨x, hx⟩ := get_ex (show k < L.length by omega)
      obtain ⟨bx, ox, hax, hcx⟩ := hs.at_ _ _ hx
      have hxo := hL x (List.mem_of_getElem? hx)
      unfold SpOk at hxo
      refine sr_mv ?_
      refine sr_rd (x_nilCheck rfl) ?_
      refine sr_rd (x_fieldAddr fd36_2 rfl) ?_
      refine sr_rd (x_load ag34 rfl (cells_get (Cells.mono hc Sub.autoR) 2 rfl)) ?_
      refine sr_mv ?_
      refine sr_rd (x_indexAddrN (k) Try.underlying34 sz55 rfl hax rfl (by omega) (by omega)) ?_
      refine sr_rd (x_fieldAddr fd55_0 rfl) ?_
      refine sr_rd (x_load ag2 rfl (cells_get (Cells.mono hcx Sub.autoR) 0 rfl)) ?_
      refine sr_mv ?_
      refine sr_c (x_le rfl rfl) (fun h3 => ?_) (fun h3 => ?_)
      · refine sr_mv ?_
        refine sr_ry (x_move rfl) ?_
        refine sr_ry (x_move rfl) ?_
        refine sr_ry (x_nilCheck rfl) ?_
        refine sr_ry (x_fieldAddr fd36_2 rfl) ?_
        refine sr_ry (x_load ag34 rfl (cells_get (Cells.mono hc Sub.autoR) 2 rfl)) ?_
        refine sr_ry (x_move rfl) ?_
        refine sr_ry (x_indexAddrN (k) Try.underlying34 sz55 rfl hax rfl (by omega) (by omega)) ?_
        refine sr_ry (x_fieldAddr fd55_1 rfl) ?_
        refine sr_ry (x_load ag2 rfl (cells_get (Cells.mono hcx Sub.autoR) 1 rfl)) ?_
        refine sr_cy (x_lt rfl rfl) (fun h4 => ?_) (fun h4 => ?_)
        · refine sr_ry (x_move rfl) ?_
          refine sr_sk ?_
          refine sr_sk ?_
          refine sr_sk ?_
          refine sr_sk ?_
          refine sr_sk ?_
          refine sr_sk ?_
          refine sr_sk ?_
          refine sr_sk ?_
          refine sr_sk ?_
          refine sr_ry (x_pick_t rfl rfl rfl) ?_
          refine sr_rd (x_pick_t rfl rfl rfl) ?_
          refine sr_nil ?_
          refine aw_kp [0, 1, 4, 5, 6, 21, 22, 23, 24, 25, 26, 27, 30, 31, 32, 33, 34, 35, 36, 37, 38, 39, 40, 41, 42, 43, 44, 45, 46, 47, 48, 49, 50, 51, 52, 53, 54, 55, 56, 57, 58, 59, 60, 61, 62] ?_
          refine aw_true rfl ?_
          refine aw_region ?_
          refine sr_mv ?_
          refine sr_mv ?_
          refine sr_rd (x_nilCheck rfl) ?_
          refine sr_rd (x_fieldAddr fd36_2 rfl) ?_
          refine sr_rd (x_load ag34 rfl (cells_get (Cells.mono hc Sub.autoR) 2 rfl)) ?_
          refine sr_mv ?_
          refine sr_rd (x_indexAddrN (k) Try.underlying34 sz55 rfl hax rfl (by omega) (by omega)) ?_
          refine sr_rd (x_fieldAddr fd55_2 rfl) ?_
          refine sr_rd (x_load ag3 rfl (cells_get (Cells.mono hcx Sub.autoR) 2 rfl)) ?_
          refine sr_rd (x_add' rfl rfl (i64w (by omega) (by omega))) ?_
          refine sr_as ?_
          refine sr_nil ?_
          show AW _ _ _ _ _ _ _
          refine aw_region ?_
          refine sr_mv ?_
          refine sr_rd (x_add' rfl rfl (i64w (by omega) (by omega))) ?_
          refine sr_as ?_
          refine sr_nil ?_
          show ∃ s', _ ∧ _ ∧ _ ∧ _
          first | exact ⟨k + 1, by omega, by omega, (by rw [atP_take hx, if_pos (spOn_yes (by omega))]; exact KeepF.auto), Sub.autoR⟩ | exact ⟨k + 1, by omega, by omega, (by rw [atP_take hx, if_neg (spOn_no (by omega))]; exact KeepF.auto), Sub.autoR⟩
        · refine sr_ry (x_move rfl) ?_
          refine sr_ry (x_move rfl) ?_
          refine sr_ry (x_nilCheck rfl) ?_
          refine sr_ry (x_fieldAddr fd36_2 rfl) ?_
          refine sr_ry (x_load ag34 rfl (cells_get (Cells.mono hc Sub.autoR) 2 rfl)) ?_
          refine sr_ry (x_move rfl) ?_
          refine sr_ry (x_indexAddrN (k) Try.underlying34 sz55 rfl hax rfl (by omega) (by omega)) ?_
          refine sr_ry (x_fieldAddr fd55_1 rfl) ?_
          refine sr_ry (x_load ag2 rfl (cells_get (Cells.mono hcx Sub.autoR) 1 rfl)) ?_
          refine sr_cy (x_eq rfl rfl) (fun h5 => ?_) (fun h5 => ?_)
          · refine sr_ry (x_pick_f rfl rfl rfl) ?_
            refine sr_rd (x_pick_t rfl rfl rfl) ?_
            refine sr_nil ?_
            refine aw_kp [0, 1, 4, 5, 6, 21, 22, 23, 24, 25, 26, 27, 30, 31, 32, 33, 34, 35, 36, 37, 38, 39, 40, 41, 42, 43, 44, 45, 46, 47, 48, 49, 50, 51, 52, 53, 54, 55, 56, 57, 58, 59, 60, 61, 62] ?_
            refine aw_true rfl ?_
            refine aw_region ?_
            refine sr_mv ?_
            refine sr_mv ?_
            refine sr_rd (x_nilCheck rfl) ?_
            refine sr_rd (x_fieldAddr fd36_2 rfl) ?_
            refine sr_rd (x_load ag34 rfl (cells_get (Cells.mono hc Sub.autoR) 2 rfl)) ?_
            refine sr_mv ?_
            refine sr_rd (x_indexAddrN (k) Try.underlying34 sz55 rfl hax rfl (by omega) (by omega)) ?_
            refine sr_rd (x_fieldAddr fd55_2 rfl) ?_
            refine sr_rd (x_load ag3 rfl (cells_get (Cells.mono hcx Sub.autoR) 2 rfl)) ?_
            refine sr_rd (x_add' rfl rfl (i64w (by omega) (by omega))) ?_
            refine sr_as ?_
            refine sr_nil ?_
            show AW _ _ _ _ _ _ _
            refine aw_region ?_
            refine sr_mv ?_
            refine sr_rd (x_add' rfl rfl (i64w (by omega) (by omega))) ?_
            refine sr_as ?_
            refine sr_nil ?_
            show ∃ s', _ ∧ _ ∧ _ ∧ _
            first | exact ⟨k + 1, by omega, by omega, (by rw [atP_take hx, if_pos (spOn_yes (by omega))]; exact KeepF.auto), Sub.autoR⟩ | exact ⟨k + 1, by omega, by omega, (by rw [atP_take hx, if_neg (spOn_no (by omega))]; exact KeepF.auto), Sub.autoR⟩
          · refine sr_ry (x_pick_f rfl rfl rfl) ?_
            refine sr_rd (x_pick_t rfl rfl rfl) ?_
            refine sr_nil ?_
            refine aw_kp [0, 1, 4, 5, 6, 21, 22, 23, 24, 25, 26, 27, 30, 31, 32, 33, 34, 35, 36, 37, 38, 39, 40, 41, 42, 43, 44, 45, 46, 47, 48, 49, 50, 51, 52, 53, 54, 55, 56, 57, 58, 59, 60, 61, 62] ?_
            refine aw_false rfl ?_
            refine aw_skip ?_
            show AW _ _ _ _ _ _ _
            refine aw_region ?_
            refine sr_mv ?_
            refine sr_rd (x_add' rfl rfl (i64w (by omega) (by omega))) ?_
            refine sr_as ?_
            refine sr_nil ?_
            show ∃ s', _ ∧ _ ∧ _ ∧ _
            first | exact ⟨k + 1, by omega, by omega, (by rw [atP_take hx, if_pos (spOn_yes (by omega))]; exact KeepF.auto), Sub.autoR⟩ | exact ⟨k + 1, by omega, by omega, (by rw [atP_take hx, if_neg (spOn_no (by omega))]; exact KeepF.auto), Sub.autoR⟩
      · refine sr_mv ?_
        refine sr_sk ?_
        refine sr_sk ?_
        refine sr_sk ?_
        refine sr_sk ?_
        refine sr_sk ?_
        refine sr_sk ?_
        refine sr_sk ?_
        refine sr_sk ?_
        refine sr_sk ?_
        refine sr_sk ?_
        refine sr_sk ?_
        refine sr_skip rfl (wtd_un rfl rfl rfl) rfl ?_
        refine sr_skip rfl (wtd_un rfl rfl rfl) rfl ?_
        refine sr_skip rfl (wtd_un rfl rfl rfl) rfl ?_
        refine sr_skip rfl (wtd_un rfl rfl rfl) rfl ?_
        refine sr_skip rfl (wtd_un rfl rfl rfl) rfl ?_
        refine sr_skip rfl (wtd_un rfl rfl rfl) rfl ?_
        refine sr_skip rfl (wtd_un rfl rfl rfl) rfl ?_
        refine sr_skip rfl (wtd_un rfl rfl rfl) rfl ?_
        refine sr_skip rfl (wtd_un rfl rfl rfl) rfl ?_
        refine sr_sk ?_
        refine sr_rd (x_pick_f rfl rfl rfl) ?_
        refine sr_nil ?_
        refine aw_kp [0, 1, 4, 5, 6, 21, 22, 23, 24, 25, 26, 27, 30, 31, 32, 33, 34, 35, 36, 37, 38, 39, 40, 41, 42, 43, 44, 45, 46, 47, 48, 49, 50, 51, 52, 53, 54, 55, 56, 57, 58, 59, 60, 61, 62] ?_
        refine aw_false rfl ?_
        refine aw_skip ?_
        show AW _ _ _ _ _ _ _
        refine aw_region ?_
        refine sr_mv ?_
        refine sr_rd (x_add' rfl rfl (i64w (by omega) (by omega))) ?_
        refine sr_as ?_
        refine sr_nil ?_
        show ∃ s', _ ∧ _ ∧ _ ∧ _
        first | exact ⟨k + 1, by omega, by omega, (by rw [atP_take hx, if_pos (spOn_yes (by omega))]; exact KeepF.auto), Sub.autoR⟩ | exact ⟨k + 1, by omega, by omega, (by rw [atP_take hx, if_neg (spOn_no (by omega))]; exact KeepF.auto), Sub.autoR⟩
    · refine sr_nil ?_
      refine aw_kp [0, 1, 4, 5, 6, 21, 22, 23, 24, 25, 26, 27] ?_
      refine aw_false rfl ?_
      refine aw_exit ?_
      show AW _ _ _ _ _ _ _
      refine aw_seq_region ?_
      refine sr_mv ?_
      refine sr_as ?_
      refine sr_nil ?_
      refine aw_kp [4] ?_
      refine aw_ret ?_
      show ∃ v H2, ResV _ _ _ _ _ _ v ∧ Sub H2 _ ∧ _
      exact ⟨_, H, resV rfl (.cons rfl .nil), Sub.autoR, ⟨congrArg (Value.int .i64) (by rw [List.take_of_length_le (by omega)]), rfl⟩⟩
set_option maxRecDepth 100000 in
set_option maxHeartbeats 4000000 in
theorem qedges_s (q : Nat) (free now : Int) (a : Option Addr) (cap : Nat) (L : List PSpan) (ver : Int) (H : SHeap) (hc : Cells W0 H q 0 [.int .i64 free, .int .i64 now, .slice a L.length cap, .int .i64 ver]) (hs : SlV W0 H 3 PSpan.cells a cap L) (hL : ∀ s ∈ L, SpOk s) (hfr : 0 ≤ free ∧ free ≤ 64) (hll : L.length ≤ 1000) (hnow : 0 ≤ now ∧ now ≤ 1099511627776) : AC Try.prog W0 92 [.pointer (some ⟨q, 0, none⟩)] H (fun v H' => ∃ (e : List Int) (a' : Option Addr) (cap' : Nat) (E' : SHeap), v = .slice a' e.length cap' ∧ EdgesOk now L e ∧ e.length ≤ 2 * L.length + 1 ∧ OwnVec 1 2 (.slice a' e.length cap') e.length (e.flatMap iC) E' ∧ H' = E' ++ H) := by
  have hle := hs.le
  have hcb := hs.capb
  refine ac_of Try.func92 rfl rfl rfl ?_
  refine aw_seq_region ?_
  refine sr_as ?_
  refine sr_nil ?_
  refine aw_kp [0, 2] ?_
  refine aw_seq_region ?_
  refine sr_mv ?_
  refine sr_rd (x_nilCheck rfl) ?_
  refine sr_rd (x_fieldAddr fd36_1 rfl) ?_
  refine sr_rd (x_load ag2 rfl (cells_get (Cells.mono hc Sub.autoR) 1 rfl)) ?_
  refine sr_new rfl (wtd_none rfl) rfl (x_buildSlice Try.underlying87 sz2 zr2 rfl rfl rfl rfl Parts.auto Fill.auto) ?_
  intro r1_4 hr1_4 gr1_4
  refine sr_as ?_
  refine sr_nil ?_
  refine aw_kp [0, 2, 3] ?_
  refine aw_seq ?_
  refine aw_seq_region ?_
  refine sr_as ?_
  refine sr_nil ?_
  refine aw_kp [0, 2, 3, 4] ?_
  refine aw_block ?_
  refine aw_loop (ι := EdG) (fun s => s.k ≤ 2 * L.length ∧ (∃ last, EdI now L s.e s.k last) ∧ OwnVec 1 2 (.slice s.a s.e.length s.c) s.e.length (s.e.flatMap iC) s.E) (fun s => [(0, .pointer (some ⟨q, 0, none⟩)), (2, .slice none 0 0), (3, .slice s.a s.e.length s.c), (4, .int .i64 s.k)]) (fun s => s.E ++ H) (fun s => 2 * L.length - s.k) ⟨0, [now], some ⟨r1_4, 0, none⟩, 1, [(r1_4, .cells [.int .i64 now].toArray 2 (0, 0))]⟩ (⟨Nat.zero_le _, ⟨now, EdI.start (by omega)⟩, .mk (L := [.int .i64 now]) (post := []) rfl rfl (Nat.le_refl 1) (by omega)⟩) KeepF.auto Sub.autoP ?_
  intro s9 hs9
  obtain ⟨k, e, a1, c1, E⟩ := s9
  dsimp only at hs9 ⊢
  obtain ⟨hk, ⟨last, hE⟩, V⟩ := hs9
  have hlen := hE.len
  have hse := V.slv' (W0 := W0) (fun _ => rfl) rfl (Sub.refl _)
  have hel := hse.le
  have hec := hse.capb
  obtain ⟨be, oe, hae, hce⟩ := hse.at_ _ _ hE.lastAt
  refine aw_seq ?_
  refine aw_seq_region ?_
  refine sr_mv ?_
  refine sr_mv ?_
  refine sr_rd (x_nilCheck rfl) ?_
  refine sr_rd (x_fieldAddr fd36_2 rfl) ?_
  refine sr_rd (x_load ag34 rfl (cells_get (Cells.mono hc Sub.autoR) 2 rfl)) ?_
  refine sr_rd (x_lenSlice Try.underlying34 rfl) ?_
  refine sr_rd (x_mul' rfl rfl (i64w (by omega) (by omega))) ?_
  refine sr_c (x_lt rfl rfl) (fun h1 => ?_) (fun h1 => ?_)
  · refine sr_nil ?_
    refine aw_kp [0, 2, 3, 4, 13, 14, 15, 16, 17, 18, 19, 20] ?_
    refine aw_true rfl ?_
    refine aw_skip ?_
    show AW _ _ _ _ _ _ _
    refine aw_seq ?_
    refine aw_block ?_
    refine aw_seq_region ?_
    refine sr_mv ?_
    refine sr_mv ?_
    refine sr_rd (x_lenSlice Try.underlying87 rfl) ?_
    refine sr_rd (x_cast (u := .int .i64 (k : Nat)) (x_sub' rfl rfl (i64w (by omega) (by omega))) (by congr 1; omega)) ?_
    refine sr_rd (x_indexAddrN (k) Try.underlying87 sz2 rfl hae rfl (by omega) (by omega)) ?_
    refine sr_rd (x_load ag2 rfl (Cells.mono hce Sub.autoE)) ?_
    refine sr_as ?_
    refine sr_nil ?_
    refine aw_kp [0, 2, 3, 4, 5, 13, 14, 15, 16, 17, 18, 19, 20, 23, 24, 25, 26, 27, 28] ?_
    refine aw_seq_region ?_
    refine sr_as ?_
    refine sr_nil ?_
    refine aw_kp [0, 2, 3, 4, 5, 6, 13, 14, 15, 16, 17, 18, 19, 20, 23, 24, 25, 26, 27, 28] ?_
    refine aw_seq ?_
    refine aw_seq_region ?_
    refine sr_as ?_
    refine sr_nil ?_
    refine aw_kp [0, 2, 3, 4, 5, 6, 7, 13, 14, 15, 16, 17, 18, 19, 20, 23, 24, 25, 26, 27, 28] ?_
    refine aw_block ?_
    refine aw_loop (ι := EbG) (fun s => s.j ≤ L.length ∧ BestI L last s.j s.b) (fun s => [(0, .pointer (some ⟨q, 0, none⟩)), (2, .slice none 0 0), (3, .slice a1 e.length c1), (4, .int .i64 k), (5, .int .i64 last), (6, .int .i64 s.b), (7, .int .i64 s.j)]) (fun _ => E ++ H) (fun s => L.length - s.j) ⟨0, 1152921504606846976⟩ (⟨Nat.zero_le _, BestI.start (hE.lt _ (List.mem_of_getElem? hE.lastAt))⟩) KeepF.auto Sub.autoP ?_
    intro s8 hs8
    obtain ⟨j, b⟩ := s8
    dsimp only at hs8 ⊢
    obtain ⟨hj, hB⟩ := hs8
    refine aw_seq ?_
    refine aw_seq_region ?_
    refine sr_mv ?_
    refine sr_mv ?_
    refine sr_rd (x_nilCheck rfl) ?_
    refine sr_rd (x_fieldAddr fd36_2 rfl) ?_
    refine sr_rd (x_load ag34 rfl (cells_get (Cells.mono hc Sub.autoR) 2 rfl)) ?_
    refine sr_rd (x_lenSlice Try.underlying34 rfl) ?_
    refine sr_c (x_lt rfl rfl) (fun h2 => ?_) (fun h2 => ?_)
    · refine sr_nil ?_
      refine aw_kp [0, 2, 3, 4, 5, 6, 7, 29, 30, 31, 32, 33, 34, 35] ?_
      refine aw_true rfl ?_
      refine aw_skip ?_
      show AW _ _ _ _ _ _ _
      refine aw_seq ?_
      refine aw_block ?_
      refine aw_seq ?_
      refine aw_seq_region ?_
      obtain ⟨x, hx⟩ := get_ex (show j < L.length by omega)
      obtain ⟨bx, ox, hax, hcx⟩ := hs.at_ _ _ hx
      have hxo := hL x (List.mem_of_getElem? hx)
      have hxo2 := hxo
      unfold SpOk at hxo2
      refine sr_mv ?_
      refine sr_rd (x_nilCheck rfl) ?_
      refine sr_rd (x_fieldAddr fd36_2 rfl) ?_
      refine sr_rd (x_load ag34 rfl (cells_get (Cells.mono hc Sub.autoR) 2 rfl)) ?_
      refine sr_mv ?_
      refine sr_rd (x_indexAddrN (j) Try.underlying34 sz55 rfl hax rfl (by omega) (by omega)) ?_
      refine sr_rd (x_fieldAddr fd55_0 rfl) ?_
      refine sr_rd (x_load ag2 rfl (cells_get (Cells.mono hcx Sub.autoR) 0 rfl)) ?_
      refine sr_mv ?_
      refine sr_c (x_gt rfl rfl) (fun h3 => ?_) (fun h3 => ?_)
      · refine sr_mv ?_
        refine sr_ry (x_move rfl) ?_
        refine sr_ry (x_nilCheck rfl) ?_
        refine sr_ry (x_fieldAddr fd36_2 rfl) ?_
        refine sr_ry (x_load ag34 rfl (cells_get (Cells.mono hc Sub.autoR) 2 rfl)) ?_
        refine sr_ry (x_move rfl) ?_
        refine sr_ry (x_indexAddrN (j) Try.underlying34 sz55 rfl hax rfl (by omega) (by omega)) ?_
        refine sr_ry (x_fieldAddr fd55_0 rfl) ?_
        refine sr_ry (x_load ag2 rfl (cells_get (Cells.mono hcx Sub.autoR) 0 rfl)) ?_
        refine sr_ry (x_move rfl) ?_
        refine sr_cy (x_lt rfl rfl) (fun h4 => ?_) (fun h4 => ?_)
        · refine sr_rd (x_pick_t rfl rfl rfl) ?_
          refine sr_nil ?_
          refine aw_kp [0, 2, 3, 4, 5, 6, 7, 29, 30, 31, 32, 33, 34, 35, 38, 39, 40, 41, 42, 43, 44, 45, 46, 47, 48, 49, 50, 51, 52, 53, 54, 55, 56, 57, 58, 59] ?_
          refine aw_true rfl ?_
          refine aw_region ?_
          refine sr_mv ?_
          refine sr_rd (x_nilCheck rfl) ?_
          refine sr_rd (x_fieldAddr fd36_2 rfl) ?_
          refine sr_rd (x_load ag34 rfl (cells_get (Cells.mono hc Sub.autoR) 2 rfl)) ?_
          refine sr_mv ?_
          refine sr_rd (x_indexAddrN (j) Try.underlying34 sz55 rfl hax rfl (by omega) (by omega)) ?_
          refine sr_rd (x_fieldAddr fd55_0 rfl) ?_
          refine sr_rd (x_load ag2 rfl (cells_get (Cells.mono hcx Sub.autoR) 0 rfl)) ?_
          refine sr_as ?_
          refine sr_nil ?_
          show AW _ _ _ _ _ _ _
          refine aw_seq_region ?_
          refine sr_mv ?_
          refine sr_rd (x_nilCheck rfl) ?_
          refine sr_rd (x_fieldAddr fd36_2 rfl) ?_
          refine sr_rd (x_load ag34 rfl (cells_get (Cells.mono hc Sub.autoR) 2 rfl)) ?_
          refine sr_mv ?_
          refine sr_rd (x_indexAddrN (j) Try.underlying34 sz55 rfl hax rfl (by omega) (by omega)) ?_
          refine sr_rd (x_fieldAddr fd55_1 rfl) ?_
          refine sr_rd (x_load ag2 rfl (cells_get (Cells.mono hcx Sub.autoR) 1 rfl)) ?_
          refine sr_mv ?_
          refine sr_c (x_gt rfl rfl) (fun h5 => ?_) (fun h5 => ?_)
          · refine sr_mv ?_
            refine sr_ry (x_move rfl) ?_
            refine sr_ry (x_nilCheck rfl) ?_
            refine sr_ry (x_fieldAddr fd36_2 rfl) ?_
            refine sr_ry (x_load ag34 rfl (cells_get (Cells.mono hc Sub.autoR) 2 rfl)) ?_
            refine sr_ry (x_move rfl) ?_
            refine sr_ry (x_indexAddrN (j) Try.underlying34 sz55 rfl hax rfl (by omega) (by omega)) ?_
            refine sr_ry (x_fieldAddr fd55_1 rfl) ?_
            refine sr_ry (x_load ag2 rfl (cells_get (Cells.mono hcx Sub.autoR) 1 rfl)) ?_
            refine sr_ry (x_move rfl) ?_
            refine sr_cy (x_lt rfl rfl) (fun h6 => ?_) (fun h6 => ?_)
            · refine sr_rd (x_pick_t rfl rfl rfl) ?_
              refine sr_nil ?_
              refine aw_kp [0, 2, 3, 4, 5, 6, 7, 29, 30, 31, 32, 33, 34, 35, 38, 39, 40, 41, 42, 43, 44, 45, 46, 47, 48, 49, 50, 51, 52, 53, 54, 55, 56, 57, 58, 59, 60, 61, 62, 63, 64, 65, 66, 67, 68, 69, 70, 71, 72, 73, 74, 75, 76, 77, 78, 79, 80, 81, 82, 83, 84, 85, 86, 87, 88, 89] ?_
              refine aw_true rfl ?_
              refine aw_region ?_
              refine sr_mv ?_
              refine sr_rd (x_nilCheck rfl) ?_
              refine sr_rd (x_fieldAddr fd36_2 rfl) ?_
              refine sr_rd (x_load ag34 rfl (cells_get (Cells.mono hc Sub.autoR) 2 rfl)) ?_
              refine sr_mv ?_
              refine sr_rd (x_indexAddrN (j) Try.underlying34 sz55 rfl hax rfl (by omega) (by omega)) ?_
              refine sr_rd (x_fieldAddr fd55_1 rfl) ?_
              refine sr_rd (x_load ag2 rfl (cells_get (Cells.mono hcx Sub.autoR) 1 rfl)) ?_
              refine sr_as ?_
              refine sr_nil ?_
              show AW _ _ _ _ _ _ _
              refine aw_region ?_
              refine sr_mv ?_
              refine sr_rd (x_add' rfl rfl (i64w (by omega) (by omega))) ?_
              refine sr_as ?_
              refine sr_nil ?_
              show ∃ s', _ ∧ _ ∧ _ ∧ _
              first | exact ⟨⟨j + 1, x.to_⟩, ⟨by dsimp only; omega, hB.step hx hxo (b1 := x.from_) (b2 := x.to_) (by first | (rw [if_pos (by omega)]; done) | (rw [if_neg (by omega)]; done) | fail) (by first | (rw [if_pos (by omega)]; done) | (rw [if_neg (by omega)]; done) | fail)⟩, by dsimp only; omega, KeepF.auto, Sub.autoD⟩ | exact ⟨⟨j + 1, x.to_⟩, ⟨by dsimp only; omega, hB.step hx hxo (b1 := b) (b2 := x.to_) (by first | (rw [if_pos (by omega)]; done) | (rw [if_neg (by omega)]; done) | fail) (by first | (rw [if_pos (by omega)]; done) | (rw [if_neg (by omega)]; done) | fail)⟩, by dsimp only; omega, KeepF.auto, Sub.autoD⟩ | exact ⟨⟨j + 1, x.from_⟩, ⟨by dsimp only; omega, hB.step hx hxo (b1 := x.from_) (b2 := x.from_) (by first | (rw [if_pos (by omega)]; done) | (rw [if_neg (by omega)]; done) | fail) (by first | (rw [if_pos (by omega)]; done) | (rw [if_neg (by omega)]; done) | fail)⟩, by dsimp only; omega, KeepF.auto, Sub.autoD⟩ | exact ⟨⟨j + 1, b⟩, ⟨by dsimp only; omega, hB.step hx hxo (b1 := b) (b2 := b) (by first | (rw [if_pos (by omega)]; done) | (rw [if_neg (by omega)]; done) | fail) (by first | (rw [if_pos (by omega)]; done) | (rw [if_neg (by omega)]; done) | fail)⟩, by dsimp only; omega, KeepF.auto, Sub.autoD⟩
            · refine sr_rd (x_pick_t rfl rfl rfl) ?_
              refine sr_nil ?_
              refine aw_kp [0, 2, 3, 4, 5, 6, 7, 29, 30, 31, 32, 33, 34, 35, 38, 39, 40, 41, 42, 43, 44, 45, 46, 47, 48, 49, 50, 51, 52, 53, 54, 55, 56, 57, 58, 59, 60, 61, 62, 63, 64, 65, 66, 67, 68, 69, 70, 71, 72, 73, 74, 75, 76, 77, 78, 79, 80, 81, 82, 83, 84, 85, 86, 87, 88, 89] ?_
              refine aw_false rfl ?_
              refine aw_skip ?_
              show AW _ _ _ _ _ _ _
              refine aw_region ?_
              refine sr_mv ?_
              refine sr_rd (x_add' rfl rfl (i64w (by omega) (by omega))) ?_
              refine sr_as ?_
              refine sr_nil ?_
              show ∃ s', _ ∧ _ ∧ _ ∧ _
              first | exact ⟨⟨j + 1, x.to_⟩, ⟨by dsimp only; omega, hB.step hx hxo (b1 := x.from_) (b2 := x.to_) (by first | (rw [if_pos (by omega)]; done) | (rw [if_neg (by omega)]; done) | fail) (by first | (rw [if_pos (by omega)]; done) | (rw [if_neg (by omega)]; done) | fail)⟩, by dsimp only; omega, KeepF.auto, Sub.autoD⟩ | exact ⟨⟨j + 1, x.to_⟩, ⟨by dsimp only; omega, hB.step hx hxo (b1 := b) (b2 := x.to_) (by first | (rw [if_pos (by omega)]; done) | (rw [if_neg (by omega)]; done) | fail) (by first | (rw [if_pos (by omega)]; done) | (rw [if_neg (by omega)]; done) | fail)⟩, by dsimp only; omega, KeepF.auto, Sub.autoD⟩ | exact ⟨⟨j + 1, x.from_⟩, ⟨by dsimp only; omega, hB.step hx hxo (b1 := x.from_) (b2 := x.from_) (by first | (rw [if_pos (by omega)]; done) | (rw [if_neg (by omega)]; done) | fail) (by first | (rw [if_pos (by omega)]; done) | (rw [if_neg (by omega)]; done) | fail)⟩, by dsimp only; omega, KeepF.auto, Sub.autoD⟩ | exact ⟨⟨j + 1, b⟩, ⟨by dsimp only; omega, hB.step hx hxo (b1 := b) (b2 := b) (by first | (rw [if_pos (by omega)]; done) | (rw [if_neg (by omega)]; done) | fail) (by first | (rw [if_pos (by omega)]; done) | (rw [if_neg (by omega)]; done) | fail)⟩, by dsimp only; omega, KeepF.auto, Sub.autoD⟩
          · refine sr_mv ?_
            refine sr_sk ?_
            refine sr_sk ?_
            refine sr_sk ?_
            refine sr_sk ?_
            refine sr_sk ?_
            refine sr_sk ?_
            refine sr_sk ?_
            refine sr_sk ?_
            refine sr_sk ?_
            refine sr_sk ?_
            refine sr_rd (x_pick_f rfl rfl rfl) ?_
            refine sr_nil ?_
            refine aw_kp [0, 2, 3, 4, 5, 6, 7, 29, 30, 31, 32, 33, 34, 35, 38, 39, 40, 41, 42, 43, 44, 45, 46, 47, 48, 49, 50, 51, 52, 53, 54, 55, 56, 57, 58, 59, 60, 61, 62, 63, 64, 65, 66, 67, 68, 69, 70, 71, 72, 73, 74, 75, 76, 77, 78, 79, 80, 81, 82, 83, 84, 85, 86, 87, 88, 89] ?_
            refine aw_false rfl ?_
            refine aw_skip ?_
            show AW _ _ _ _ _ _ _
            refine aw_region ?_
            refine sr_mv ?_
            refine sr_rd (x_add' rfl rfl (i64w (by omega) (by omega))) ?_
            refine sr_as ?_
            refine sr_nil ?_
            show ∃ s', _ ∧ _ ∧ _ ∧ _
            first | exact ⟨⟨j + 1, x.to_⟩, ⟨by dsimp only; omega, hB.step hx hxo (b1 := x.from_) (b2 := x.to_) (by first | (rw [if_pos (by omega)]; done) | (rw [if_neg (by omega)]; done) | fail) (by first | (rw [if_pos (by omega)]; done) | (rw [if_neg (by omega)]; done) | fail)⟩, by dsimp only; omega, KeepF.auto, Sub.autoD⟩ | exact ⟨⟨j + 1, x.to_⟩, ⟨by dsimp only; omega, hB.step hx hxo (b1 := b) (b2 := x.to_) (by first | (rw [if_pos (by omega)]; done) | (rw [if_neg (by omega)]; done) | fail) (by first | (rw [if_pos (by omega)]; done) | (rw [if_neg (by omega)]; done) | fail)⟩, by dsimp only; omega, KeepF.auto, Sub.autoD⟩ | exact ⟨⟨j + 1, x.from_⟩, ⟨by dsimp only; omega, hB.step hx hxo (b1 := x.from_) (b2 := x.from_) (by first | (rw [if_pos (by omega)]; done) | (rw [if_neg (by omega)]; done) | fail) (by first | (rw [if_pos (by omega)]; done) | (rw [if_neg (by omega)]; done) | fail)⟩, by dsimp only; omega, KeepF.auto, Sub.autoD⟩ | exact ⟨⟨j + 1, b⟩, ⟨by dsimp only; omega, hB.step hx hxo (b1 := b) (b2 := b) (by first | (rw [if_pos (by omega)]; done) | (rw [if_neg (by omega)]; done) | fail) (by first | (rw [if_pos (by omega)]; done) | (rw [if_neg (by omega)]; done) | fail)⟩, by dsimp only; omega, KeepF.auto, Sub.autoD⟩
        · refine sr_rd (x_pick_t rfl rfl rfl) ?_
          refine sr_nil ?_
          refine aw_kp [0, 2, 3, 4, 5, 6, 7, 29, 30, 31, 32, 33, 34, 35, 38, 39, 40, 41, 42, 43, 44, 45, 46, 47, 48, 49, 50, 51, 52, 53, 54, 55, 56, 57, 58, 59] ?_
          refine aw_false rfl ?_
          refine aw_skip ?_
          show AW _ _ _ _ _ _ _
          refine aw_seq_region ?_
          refine sr_mv ?_
          refine sr_rd (x_nilCheck rfl) ?_
          refine sr_rd (x_fieldAddr fd36_2 rfl) ?_
          refine sr_rd (x_load ag34 rfl (cells_get (Cells.mono hc Sub.autoR) 2 rfl)) ?_
          refine sr_mv ?_
          refine sr_rd (x_indexAddrN (j) Try.underlying34 sz55 rfl hax rfl (by omega) (by omega)) ?_
          refine sr_rd (x_fieldAddr fd55_1 rfl) ?_
          refine sr_rd (x_load ag2 rfl (cells_get (Cells.mono hcx Sub.autoR) 1 rfl)) ?_
          refine sr_mv ?_
          refine sr_c (x_gt rfl rfl) (fun h7 => ?_) (fun h7 => ?_)
          · refine sr_mv ?_
            refine sr_ry (x_move rfl) ?_
            refine sr_ry (x_nilCheck rfl) ?_
            refine sr_ry (x_fieldAddr fd36_2 rfl) ?_
            refine sr_ry (x_load ag34 rfl (cells_get (Cells.mono hc Sub.autoR) 2 rfl)) ?_
            refine sr_ry (x_move rfl) ?_
            refine sr_ry (x_indexAddrN (j) Try.underlying34 sz55 rfl hax rfl (by omega) (by omega)) ?_
            refine sr_ry (x_fieldAddr fd55_1 rfl) ?_
            refine sr_ry (x_load ag2 rfl (cells_get (Cells.mono hcx Sub.autoR) 1 rfl)) ?_
            refine sr_ry (x_move rfl) ?_
            refine sr_cy (x_lt rfl rfl) (fun h8 => ?_) (fun h8 => ?_)
            · refine sr_rd (x_pick_t rfl rfl rfl) ?_
              refine sr_nil ?_
              refine aw_kp [0, 2, 3, 4, 5, 6, 7, 29, 30, 31, 32, 33, 34, 35, 38, 39, 40, 41, 42, 43, 44, 45, 46, 47, 48, 49, 50, 51, 52, 53, 54, 55, 56, 57, 58, 59, 68, 69, 70, 71, 72, 73, 74, 75, 76, 77, 78, 79, 80, 81, 82, 83, 84, 85, 86, 87, 88, 89] ?_
              refine aw_true rfl ?_
              refine aw_region ?_
              refine sr_mv ?_
              refine sr_rd (x_nilCheck rfl) ?_
              refine sr_rd (x_fieldAddr fd36_2 rfl) ?_
              refine sr_rd (x_load ag34 rfl (cells_get (Cells.mono hc Sub.autoR) 2 rfl)) ?_
              refine sr_mv ?_
              refine sr_rd (x_indexAddrN (j) Try.underlying34 sz55 rfl hax rfl (by omega) (by omega)) ?_
              refine sr_rd (x_fieldAddr fd55_1 rfl) ?_
              refine sr_rd (x_load ag2 rfl (cells_get (Cells.mono hcx Sub.autoR) 1 rfl)) ?_
              refine sr_as ?_
              refine sr_nil ?_
              show AW _ _ _ _ _ _ _
              refine aw_region ?_
              refine sr_mv ?_
              refine sr_rd (x_add' rfl rfl (i64w (by omega) (by omega))) ?_
              refine sr_as ?_
              refine sr_nil ?_
              show ∃ s', _ ∧ _ ∧ _ ∧ _
              first | exact ⟨⟨j + 1, x.to_⟩, ⟨by dsimp only; omega, hB.step hx hxo (b1 := x.from_) (b2 := x.to_) (by first | (rw [if_pos (by omega)]; done) | (rw [if_neg (by omega)]; done) | fail) (by first | (rw [if_pos (by omega)]; done) | (rw [if_neg (by omega)]; done) | fail)⟩, by dsimp only; omega, KeepF.auto, Sub.autoD⟩ | exact ⟨⟨j + 1, x.to_⟩, ⟨by dsimp only; omega, hB.step hx hxo (b1 := b) (b2 := x.to_) (by first | (rw [if_pos (by omega)]; done) | (rw [if_neg (by omega)]; done) | fail) (by first | (rw [if_pos (by omega)]; done) | (rw [if_neg (by omega)]; done) | fail)⟩, by dsimp only; omega, KeepF.auto, Sub.autoD⟩ | exact ⟨⟨j + 1, x.from_⟩, ⟨by dsimp only; omega, hB.step hx hxo (b1 := x.from_) (b2 := x.from_) (by first | (rw [if_pos (by omega)]; done) | (rw [if_neg (by omega)]; done) | fail) (by first | (rw [if_pos (by omega)]; done) | (rw [if_neg (by omega)]; done) | fail)⟩, by dsimp only; omega, KeepF.auto, Sub.autoD⟩ | exact ⟨⟨j + 1, b⟩, ⟨by dsimp only; omega, hB.step hx hxo (b1 := b) (b2 := b) (by first | (rw [if_pos (by omega)]; done) | (rw [if_neg (by omega)]; done) | fail) (by first | (rw [if_pos (by omega)]; done) | (rw [if_neg (by omega)]; done) | fail)⟩, by dsimp only; omega, KeepF.auto, Sub.autoD⟩
            · refine sr_rd (x_pick_t rfl rfl rfl) ?_
              refine sr_nil ?_
              refine aw_kp [0, 2, 3, 4, 5, 6, 7, 29, 30, 31, 32, 33, 34, 35, 38, 39, 40, 41, 42, 43, 44, 45, 46, 47, 48, 49, 50, 51, 52, 53, 54, 55, 56, 57, 58, 59, 68, 69, 70, 71, 72, 73, 74, 75, 76, 77, 78, 79, 80, 81, 82, 83, 84, 85, 86, 87, 88, 89] ?_
              refine aw_false rfl ?_
              refine aw_skip ?_
              show AW _ _ _ _ _ _ _
              refine aw_region ?_
              refine sr_mv ?_
              refine sr_rd (x_add' rfl rfl (i64w (by omega) (by omega))) ?_
              refine sr_as ?_
              refine sr_nil ?_
              show ∃ s', _ ∧ _ ∧ _ ∧ _
              first | exact ⟨⟨j + 1, x.to_⟩, ⟨by dsimp only; omega, hB.step hx hxo (b1 := x.from_) (b2 := x.to_) (by first | (rw [if_pos (by omega)]; done) | (rw [if_neg (by omega)]; done) | fail) (by first | (rw [if_pos (by omega)]; done) | (rw [if_neg (by omega)]; done) | fail)⟩, by dsimp only; omega, KeepF.auto, Sub.autoD⟩ | exact ⟨⟨j + 1, x.to_⟩, ⟨by dsimp only; omega, hB.step hx hxo (b1 := b) (b2 := x.to_) (by first | (rw [if_pos (by omega)]; done) | (rw [if_neg (by omega)]; done) | fail) (by first | (rw [if_pos (by omega)]; done) | (rw [if_neg (by omega)]; done) | fail)⟩, by dsimp only; omega, KeepF.auto, Sub.autoD⟩ | exact ⟨⟨j + 1, x.from_⟩, ⟨by dsimp only; omega, hB.step hx hxo (b1 := x.from_) (b2 := x.from_) (by first | (rw [if_pos (by omega)]; done) | (rw [if_neg (by omega)]; done) | fail) (by first | (rw [if_pos (by omega)]; done) | (rw [if_neg (by omega)]; done) | fail)⟩, by dsimp only; omega, KeepF.auto, Sub.autoD⟩ | exact ⟨⟨j + 1, b⟩, ⟨by dsimp only; omega, hB.step hx hxo (b1 := b) (b2 := b) (by first | (rw [if_pos (by omega)]; done) | (rw [if_neg (by omega)]; done) | fail) (by first | (rw [if_pos (by omega)]; done) | (rw [if_neg (by omega)]; done) | fail)⟩, by dsimp only; omega, KeepF.auto, Sub.autoD⟩
          · refine sr_mv ?_
            refine sr_sk ?_
            refine sr_sk ?_
            refine sr_sk ?_
            refine sr_sk ?_
            refine sr_sk ?_
            refine sr_sk ?_
            refine sr_sk ?_
            refine sr_sk ?_
            refine sr_sk ?_
            refine sr_sk ?_
            refine sr_rd (x_pick_f rfl rfl rfl) ?_
            refine sr_nil ?_
            refine aw_kp [0, 2, 3, 4, 5, 6, 7, 29, 30, 31, 32, 33, 34, 35, 38, 39, 40, 41, 42, 43, 44, 45, 46, 47, 48, 49, 50, 51, 52, 53, 54, 55, 56, 57, 58, 59, 68, 69, 70, 71, 72, 73, 74, 75, 76, 77, 78, 79, 80, 81, 82, 83, 84, 85, 86, 87, 88, 89] ?_
            refine aw_false rfl ?_
            refine aw_skip ?_
            show AW _ _ _ _ _ _ _
            refine aw_region ?_
            refine sr_mv ?_
            refine sr_rd (x_add' rfl rfl (i64w (by omega) (by omega))) ?_
            refine sr_as ?_
            refine sr_nil ?_
            show ∃ s', _ ∧ _ ∧ _ ∧ _
            first | exact ⟨⟨j + 1, x.to_⟩, ⟨by dsimp only; omega, hB.step hx hxo (b1 := x.from_) (b2 := x.to_) (by first | (rw [if_pos (by omega)]; done) | (rw [if_neg (by omega)]; done) | fail) (by first | (rw [if_pos (by omega)]; done) | (rw [if_neg (by omega)]; done) | fail)⟩, by dsimp only; omega, KeepF.auto, Sub.autoD⟩ | exact ⟨⟨j + 1, x.to_⟩, ⟨by dsimp only; omega, hB.step hx hxo (b1 := b) (b2 := x.to_) (by first | (rw [if_pos (by omega)]; done) | (rw [if_neg (by omega)]; done) | fail) (by first | (rw [if_pos (by omega)]; done) | (rw [if_neg (by omega)]; done) | fail)⟩, by dsimp only; omega, KeepF.auto, Sub.autoD⟩ | exact ⟨⟨j + 1, x.from_⟩, ⟨by dsimp only; omega, hB.step hx hxo (b1 := x.from_) (b2 := x.from_) (by first | (rw [if_pos (by omega)]; done) | (rw [if_neg (by omega)]; done) | fail) (by first | (rw [if_pos (by omega)]; done) | (rw [if_neg (by omega)]; done) | fail)⟩, by dsimp only; omega, KeepF.auto, Sub.autoD⟩ | exact ⟨⟨j + 1, b⟩, ⟨by dsimp only; omega, hB.step hx hxo (b1 := b) (b2 := b) (by first | (rw [if_pos (by omega)]; done) | (rw [if_neg (by omega)]; done) | fail) (by first | (rw [if_pos (by omega)]; done) | (rw [if_neg (by omega)]; done) | fail)⟩, by dsimp only; omega, KeepF.auto, Sub.autoD⟩
      · refine sr_mv ?_
        refine sr_sk ?_
        refine sr_sk ?_
        refine sr_sk ?_
        refine sr_sk ?_
        refine sr_sk ?_
        refine sr_sk ?_
        refine sr_sk ?_
        refine sr_sk ?_
        refine sr_sk ?_
        refine sr_sk ?_
        refine sr_rd (x_pick_f rfl rfl rfl) ?_
        refine sr_nil ?_
        refine aw_kp [0, 2, 3, 4, 5, 6, 7, 29, 30, 31, 32, 33, 34, 35, 38, 39, 40, 41, 42, 43, 44, 45, 46, 47, 48, 49, 50, 51, 52, 53, 54, 55, 56, 57, 58, 59] ?_
        refine aw_false rfl ?_
        refine aw_skip ?_
        show AW _ _ _ _ _ _ _
        refine aw_seq_region ?_
        refine sr_mv ?_
        refine sr_rd (x_nilCheck rfl) ?_
        refine sr_rd (x_fieldAddr fd36_2 rfl) ?_
        refine sr_rd (x_load ag34 rfl (cells_get (Cells.mono hc Sub.autoR) 2 rfl)) ?_
        refine sr_mv ?_
        refine sr_rd (x_indexAddrN (j) Try.underlying34 sz55 rfl hax rfl (by omega) (by omega)) ?_
        refine sr_rd (x_fieldAddr fd55_1 rfl) ?_
        refine sr_rd (x_load ag2 rfl (cells_get (Cells.mono hcx Sub.autoR) 1 rfl)) ?_
        refine sr_mv ?_
        refine sr_c (x_gt rfl rfl) (fun h9 => ?_) (fun h9 => ?_)
        · refine sr_mv ?_
          refine sr_ry (x_move rfl) ?_
          refine sr_ry (x_nilCheck rfl) ?_
          refine sr_ry (x_fieldAddr fd36_2 rfl) ?_
          refine sr_ry (x_load ag34 rfl (cells_get (Cells.mono hc Sub.autoR) 2 rfl)) ?_
          refine sr_ry (x_move rfl) ?_
          refine sr_ry (x_indexAddrN (j) Try.underlying34 sz55 rfl hax rfl (by omega) (by omega)) ?_
          refine sr_ry (x_fieldAddr fd55_1 rfl) ?_
          refine sr_ry (x_load ag2 rfl (cells_get (Cells.mono hcx Sub.autoR) 1 rfl)) ?_
          refine sr_ry (x_move rfl) ?_
          refine sr_cy (x_lt rfl rfl) (fun h10 => ?_) (fun h10 => ?_)
          · refine sr_rd (x_pick_t rfl rfl rfl) ?_
            refine sr_nil ?_
            refine aw_kp [0, 2, 3, 4, 5, 6, 7, 29, 30, 31, 32, 33, 34, 35, 38, 39, 40, 41, 42, 43, 44, 45, 46, 47, 48, 49, 50, 51, 52, 53, 54, 55, 56, 57, 58, 59, 68, 69, 70, 71, 72, 73, 74, 75, 76, 77, 78, 79, 80, 81, 82, 83, 84, 85, 86, 87, 88, 89] ?_
            refine aw_true rfl ?_
            refine aw_region ?_
            refine sr_mv ?_
            refine sr_rd (x_nilCheck rfl) ?_
            refine sr_rd (x_fieldAddr fd36_2 rfl) ?_
            refine sr_rd (x_load ag34 rfl (cells_get (Cells.mono hc Sub.autoR) 2 rfl)) ?_
            refine sr_mv ?_
            refine sr_rd (x_indexAddrN (j) Try.underlying34 sz55 rfl hax rfl (by omega) (by omega)) ?_
            refine sr_rd (x_fieldAddr fd55_1 rfl) ?_
            refine sr_rd (x_load ag2 rfl (cells_get (Cells.mono hcx Sub.autoR) 1 rfl)) ?_
            refine sr_as ?_
            refine sr_nil ?_
            show AW _ _ _ _ _ _ _
            refine aw_region ?_
            refine sr_mv ?_
            refine sr_rd (x_add' rfl rfl (i64w (by omega) (by omega))) ?_
            refine sr_as ?_
            refine sr_nil ?_
            show ∃ s', _ ∧ _ ∧ _ ∧ _
            first | exact ⟨⟨j + 1, x.to_⟩, ⟨by dsimp only; omega, hB.step hx hxo (b1 := x.from_) (b2 := x.to_) (by first | (rw [if_pos (by omega)]; done) | (rw [if_neg (by omega)]; done) | fail) (by first | (rw [if_pos (by omega)]; done) | (rw [if_neg (by omega)]; done) | fail)⟩, by dsimp only; omega, KeepF.auto, Sub.autoD⟩ | exact ⟨⟨j + 1, x.to_⟩, ⟨by dsimp only; omega, hB.step hx hxo (b1 := b) (b2 := x.to_) (by first | (rw [if_pos (by omega)]; done) | (rw [if_neg (by omega)]; done) | fail) (by first | (rw [if_pos (by omega)]; done) | (rw [if_neg (by omega)]; done) | fail)⟩, by dsimp only; omega, KeepF.auto, Sub.autoD⟩ | exact ⟨⟨j + 1, x.from_⟩, ⟨by dsimp only; omega, hB.step hx hxo (b1 := x.from_) (b2 := x.from_) (by first | (rw [if_pos (by omega)]; done) | (rw [if_neg (by omega)]; done) | fail) (by first | (rw [if_pos (by omega)]; done) | (rw [if_neg (by omega)]; done) | fail)⟩, by dsimp only; omega, KeepF.auto, Sub.autoD⟩ | exact ⟨⟨j + 1, b⟩, ⟨by dsimp only; omega, hB.step hx hxo (b1 := b) (b2 := b) (by first | (rw [if_pos (by omega)]; done) | (rw [if_neg (by omega)]; done) | fail) (by first | (rw [if_pos (by omega)]; done) | (rw [if_neg (by omega)]; done) | fail)⟩, by dsimp only; omega, KeepF.auto, Sub.autoD⟩
          · refine sr_rd (x_pick_t rfl rfl rfl) ?_
            refine sr_nil ?_
            refine aw_kp [0, 2, 3, 4, 5, 6, 7, 29, 30, 31, 32, 33, 34, 35, 38, 39, 40, 41, 42, 43, 44, 45, 46, 47, 48, 49, 50, 51, 52, 53, 54, 55, 56, 57, 58, 59, 68, 69, 70, 71, 72, 73, 74, 75, 76, 77, 78, 79, 80, 81, 82, 83, 84, 85, 86, 87, 88, 89] ?_
            refine aw_false rfl ?_
            refine aw_skip ?_
            show AW _ _ _ _ _ _ _
            refine aw_region ?_
            refine sr_mv ?_
            refine sr_rd (x_add' rfl rfl (i64w (by omega) (by omega))) ?_
            refine sr_as ?_
            refine sr_nil ?_
            show ∃ s', _ ∧ _ ∧ _ ∧ _
            first | exact ⟨⟨j + 1, x.to_⟩, ⟨by dsimp only; omega, hB.step hx hxo (b1 := x.from_) (b2 := x.to_) (by first | (rw [if_pos (by omega)]; done) | (rw [if_neg (by omega)]; done) | fail) (by first | (rw [if_pos (by omega)]; done) | (rw [if_neg (by omega)]; done) | fail)⟩, by dsimp only; omega, KeepF.auto, Sub.autoD⟩ | exact ⟨⟨j + 1, x.to_⟩, ⟨by dsimp only; omega, hB.step hx hxo (b1 := b) (b2 := x.to_) (by first | (rw [if_pos (by omega)]; done) | (rw [if_neg (by omega)]; done) | fail) (by first | (rw [if_pos (by omega)]; done) | (rw [if_neg (by omega)]; done) | fail)⟩, by dsimp only; omega, KeepF.auto, Sub.autoD⟩ | exact ⟨⟨j + 1, x.from_⟩, ⟨by dsimp only; omega, hB.step hx hxo (b1 := x.from_) (b2 := x.from_) (by first | (rw [if_pos (by omega)]; done) | (rw [if_neg (by omega)]; done) | fail) (by first | (rw [if_pos (by omega)]; done) | (rw [if_neg (by omega)]; done) | fail)⟩, by dsimp only; omega, KeepF.auto, Sub.autoD⟩ | exact ⟨⟨j + 1, b⟩, ⟨by dsimp only; omega, hB.step hx hxo (b1 := b) (b2 := b) (by first | (rw [if_pos (by omega)]; done) | (rw [if_neg (by omega)]; done) | fail) (by first | (rw [if_pos (by omega)]; done) | (rw [if_neg (by omega)]; done) | fail)⟩, by dsimp only; omega, KeepF.auto, Sub.autoD⟩
        · refine sr_mv ?_
          refine sr_sk ?_
          refine sr_sk ?_
          refine sr_sk ?_
          refine sr_sk ?_
          refine sr_sk ?_
          refine sr_sk ?_
          refine sr_sk ?_
          refine sr_sk ?_
          refine sr_sk ?_
          refine sr_sk ?_
          refine sr_rd (x_pick_f rfl rfl rfl) ?_
          refine sr_nil ?_
          refine aw_kp [0, 2, 3, 4, 5, 6, 7, 29, 30, 31, 32, 33, 34, 35, 38, 39, 40, 41, 42, 43, 44, 45, 46, 47, 48, 49, 50, 51, 52, 53, 54, 55, 56, 57, 58, 59, 68, 69, 70, 71, 72, 73, 74, 75, 76, 77, 78, 79, 80, 81, 82, 83, 84, 85, 86, 87, 88, 89] ?_
          refine aw_false rfl ?_
          refine aw_skip ?_
          show AW _ _ _ _ _ _ _
          refine aw_region ?_
          refine sr_mv ?_
          refine sr_rd (x_add' rfl rfl (i64w (by omega) (by omega))) ?_
          refine sr_as ?_
          refine sr_nil ?_
          show ∃ s', _ ∧ _ ∧ _ ∧ _
          first | exact ⟨⟨j + 1, x.to_⟩, ⟨by dsimp only; omega, hB.step hx hxo (b1 := x.from_) (b2 := x.to_) (by first | (rw [if_pos (by omega)]; done) | (rw [if_neg (by omega)]; done) | fail) (by first | (rw [if_pos (by omega)]; done) | (rw [if_neg (by omega)]; done) | fail)⟩, by dsimp only; omega, KeepF.auto, Sub.autoD⟩ | exact ⟨⟨j + 1, x.to_⟩, ⟨by dsimp only; omega, hB.step hx hxo (b1 := b) (b2 := x.to_) (by first | (rw [if_pos (by omega)]; done) | (rw [if_neg (by omega)]; done) | fail) (by first | (rw [if_pos (by omega)]; done) | (rw [if_neg (by omega)]; done) | fail)⟩, by dsimp only; omega, KeepF.auto, Sub.autoD⟩ | exact ⟨⟨j + 1, x.from_⟩, ⟨by dsimp only; omega, hB.step hx hxo (b1 := x.from_) (b2 := x.from_) (by first | (rw [if_pos (by omega)]; done) | (rw [if_neg (by omega)]; done) | fail) (by first | (rw [if_pos (by omega)]; done) | (rw [if_neg (by omega)]; done) | fail)⟩, by dsimp only; omega, KeepF.auto, Sub.autoD⟩ | exact ⟨⟨j + 1, b⟩, ⟨by dsimp only; omega, hB.step hx hxo (b1 := b) (b2 := b) (by first | (rw [if_pos (by omega)]; done) | (rw [if_neg (by omega)]; done) | fail) (by first | (rw [if_pos (by omega)]; done) | (rw [if_neg (by omega)]; done) | fail)⟩, by dsimp only; omega, KeepF.auto, Sub.autoD⟩
    · refine sr_nil ?_
      refine aw_kp [0, 2, 3, 4, 5, 6, 7, 29, 30, 31, 32, 33, 34, 35] ?_
      refine aw_false rfl ?_
      refine aw_exit ?_
      show AW _ _ _ _ _ _ _
      refine aw_seq ?_
      refine aw_seq_region ?_
      refine sr_mv ?_
      refine sr_c (x_eq rfl rfl) (fun h11 => ?_) (fun h11 => ?_)
      · refine sr_nil ?_
        refine aw_kp [0, 2, 3, 4, 5, 6, 7, 29, 30, 31, 32, 33, 34, 35, 98, 99] ?_
        refine aw_true rfl ?_
        refine aw_seq_region ?_
        refine sr_mv ?_
        refine sr_as ?_
        refine sr_nil ?_
        refine aw_kp [0, 2, 3, 4, 5, 6, 7, 29, 30, 31, 32, 33, 34, 35, 98, 99, 100] ?_
        refine aw_ret ?_
        show ∃ v H2, ResV _ _ _ _ _ _ v ∧ Sub H2 _ ∧ _
        exact ⟨_, E ++ H, resV rfl (.cons rfl .nil), Sub.autoP, e, a1, c1, E, rfl, (by first | exact hE.full (by omega) | exact hE.stop hB (by omega) (by omega)), by omega, V, rfl⟩
      · refine sr_nil ?_
        refine aw_kp [0, 2, 3, 4, 5, 6, 7, 29, 30, 31, 32, 33, 34, 35, 98, 99] ?_
        refine aw_false rfl ?_
        refine aw_skip ?_
        show AW _ _ _ _ _ _ _
        refine aw_region ?_
        refine sr_mv ?_
        refine sr_mv ?_
        refine sr_new rfl (wtd_none rfl) rfl (x_buildSlice Try.underlying87 sz2 zr2 rfl rfl rfl rfl Parts.auto Fill.auto) ?_
        intro r16_2 hr16_2 gr16_2
        refine sr_d rfl (wtd_none rfl) rfl (opS_append (G := (r16_2, .cells [.int .i64 b].toArray 2 (0, 0)) :: H) (N := (iC b)) (m := 1) Try.underlying87 sz2 zr2 rfl by2 rfl rfl V Sub.autoP (.inr ⟨_, _, rfl, (cells_ext mauto Ext.auto)⟩) (rfl) rfl (by omega) (by omega)) ?_
        rintro v104 _ ⟨E104, hV104, rfl⟩
        obtain ⟨a104, cap104, rfl⟩ := hV104.isSl
        refine sr_as ?_
        refine sr_nil ?_
        show AW _ _ _ _ _ _ _
        refine aw_region ?_
        refine sr_mv ?_
        refine sr_rd (x_add' rfl rfl (i64w (by omega) (by omega))) ?_
        refine sr_as ?_
        refine sr_nil ?_
        show ∃ s', _ ∧ _ ∧ _ ∧ _
        exact ⟨⟨k + 1, e ++ [b], a104, cap104, E104⟩, ⟨by dsimp only; omega, ⟨b, hE.push hB (by omega) (by omega)⟩, OwnVec.snocS hV104⟩, by dsimp only; omega, (by rw [List.length_append]; exact KeepF.auto), Sub.autoP⟩
  · refine sr_nil ?_
    refine aw_kp [0, 2, 3, 4, 13, 14, 15, 16, 17, 18, 19, 20] ?_
    refine aw_false rfl ?_
    refine aw_exit ?_
    show AW _ _ _ _ _ _ _
    refine aw_seq_region ?_
    refine sr_mv ?_
    refine sr_as ?_
    refine sr_nil ?_
    refine aw_kp [2] ?_
    refine aw_ret ?_
    show ∃ v H2, ResV _ _ _ _ _ _ v ∧ Sub H2 _ ∧ _
    exact ⟨_, E ++ H, resV rfl (.cons rfl .nil), Sub.autoP, e, a1, c1, E, rfl, (by first | exact hE.full (by omega) | exact hE.stop hB (by omega) (by omega)), by omega, V, rfl⟩
set_option maxRecDepth 100000 in
set_option maxHeartbeats 2000000 in
theorem qsteps_s (q : Nat) (free now : Int) (a : Option Addr) (cap : Nat) (L : List PSpan) (ver : Int) (H : SHeap) (hc : Cells W0 H q 0 [.int .i64 free, .int .i64 now, .slice a L.length cap, .int .i64 ver]) (hs : SlV W0 H 3 PSpan.cells a cap L) (hL : ∀ s ∈ L, SpOk s) (hfr : 0 ≤ free ∧ free ≤ 64) (hll : L.length ≤ 1000) (hnow : 0 ≤ now ∧ now ≤ 1099511627776) (S : List PStep) (hrep : Rep S now (atP free L)) : AC Try.prog W0 32 [.pointer (some ⟨q, 0, none⟩)] H (fun v H' => ∃ E2, (∃ a2 cap2, OwnVec 2 76 (.slice a2 S.length cap2) S.length (S.flatMap PStep.cells) E2 ∧ v = .slice a2 S.length cap2) ∧ H' = E2 ++ H) := by
  have hle := hs.le
  have hcb := hs.capb
  refine ac_of Try.func32 rfl rfl rfl ?_
  refine aw_seq_region ?_
  refine sr_as ?_
  refine sr_nil ?_
  refine aw_kp [0, 2] ?_
  refine aw_seq_region ?_
  refine sr_as ?_
  refine sr_nil ?_
  refine aw_kp [0, 2, 3] ?_
  refine aw_seq_region ?_
  refine sr_mv ?_
  refine sr_d rfl (wtd_none rfl) rfl (opS_call rfl rfl rfl rfl cl92 (qedges_s q free now a cap L ver _ hc hs hL hfr hll hnow)) ?_
  rintro _ _ ⟨e, ae, ce, Ee, rfl, he, hel, Ve, rfl⟩
  have hse := Ve.slv' (W0 := W0) (fun _ => rfl) rfl (Sub.refl _)
  have hcl := hse.le
  have hec := hse.capb
  refine sr_as ?_
  refine sr_nil ?_
  refine aw_kp [0, 2, 3, 4] ?_
  refine aw_seq ?_
  refine aw_seq_region ?_
  refine sr_as ?_
  refine sr_nil ?_
  refine aw_kp [0, 2, 3, 4, 5] ?_
  refine aw_block ?_
  refine aw_loop (ι := StG) (fun s => s.k ≤ e.length ∧ OwnVec 2 76 (.slice s.a (cpt eqF ((eS (atP free L) e).take s.k)).length s.c) (cpt eqF ((eS (atP free L) e).take s.k)).length ((cpt eqF ((eS (atP free L) e).take s.k)).flatMap PStep.cells) s.E) (fun s => [(0, .pointer (some ⟨q, 0, none⟩)), (2, .slice none 0 0), (3, .slice s.a (cpt eqF ((eS (atP free L) e).take s.k)).length s.c), (4, .slice ae e.length ce), (5, .int .i64 s.k)]) (fun s => s.E ++ (Ee ++ H)) (fun s => e.length - s.k) ⟨0, none, 0, []⟩ (⟨Nat.zero_le _, .nil⟩) KeepF.auto Sub.autoP ?_
  intro s9 hs9
  obtain ⟨k, ao, co, Eo⟩ := s9
  dsimp only at hs9 ⊢
  obtain ⟨hk, V⟩ := hs9
  obtain ⟨O, hO⟩ : ∃ O, O = (cpt eqF ((eS (atP free L) e).take k)) := ⟨_, rfl⟩
  rw [← hO] at V ⊢
  have hso := V.slv' (W0 := W0) (fun _ => rfl) rfl (Sub.refl _)
  have hol := hso.le
  have hoc := hso.capb
  have hO9 := out_len (f := atP free L) (e := e) (k := k)
  rw [← hO] at hO9
  refine aw_seq ?_
  refine aw_seq_region ?_
  refine sr_mv ?_
  refine sr_mv ?_
  refine sr_rd (x_lenSlice Try.underlying87 rfl) ?_
  refine sr_c (x_lt rfl rfl) (fun h1 => ?_) (fun h1 => ?_)
  · refine sr_nil ?_
    refine aw_kp [0, 2, 3, 4, 5, 9, 10, 11, 12] ?_
    refine aw_true rfl ?_
    refine aw_skip ?_
    show AW _ _ _ _ _ _ _
    refine aw_seq ?_
    refine aw_block ?_
    refine aw_seq_dr ⟨_, 13, 46, [[], [], [0, 1], [0, 1, 2], [], [], [], [5, 6], [5, 6, 7], [4, 5, 6, 7, 8], [0, 1, 2, 3, 4, 5, 6, 7, 8, 9], [], [0, 1, 2, 3, 4, 5, 6, 7, 8, 9, 10, 11]], [.light, .light, .light, .mem, .light, .light, .light, .light, .mem, .call, .light, .alloc, .loc 11]⟩ (by kernel_rfl) rfl rfl mix ?_
    obtain ⟨x, hx⟩ := get_ex (show k < e.length by omega)
    obtain ⟨bx, ox, hax, hcx⟩ := hse.at_ _ _ hx
    have hxn := edges_ge he hx
    refine dr_l (x_move rfl) ?_
    refine dr_l (x_move rfl) ?_
    refine dr_l (x_indexAddrN (k) Try.underlying87 sz2 rfl hax rfl (by omega) (by omega)) ?_
    refine dr_mem0 rfl rfl (wtd_none rfl) (x_load ag2 rfl (Cells.mono hcx Sub.autoE)) ?_
    refine dr_l (x_move rfl) ?_
    refine dr_l (x_move rfl) ?_
    refine dr_l (x_move rfl) ?_
    refine dr_l (x_indexAddrN (k) Try.underlying87 sz2 rfl hax rfl (by omega) (by omega)) ?_
    refine dr_mem0 rfl rfl (wtd_none rfl) (x_load ag2 rfl (Cells.mono hcx Sub.autoE)) ?_
    refine dr_callq0 rfl rfl (wtd_none rfl) (opS_F rfl rfl rfl rfl cl35 ((qat_s q free now a cap L ver _ (Cells.mono hc Sub.autoR) (hs.mono Sub.autoR) hL hfr hll x))) (⟨_, rfl⟩) ?_
    rintro _ rfl
    rw [show max x now = x by omega]
    refine dr_l (x_build zr76 rfl fl76 Parts.auto Fill.auto) ?_
    refine dr_alloc rfl rfl (wtd_none rfl) (x_alloc zr76 rfl) ?_
    intro r6_11 hr6_11 gr6_11
    refine dr_loc rfl rfl rfl (wtd_none rfl) (x_store sz76 rfl rfl rfl rfl rfl Repl.auto Spl.auto) (by first | rfl | simp [keys_append, keys_cons]) ?_
    refine dr_nil (E := [(r6_11, .cells (PStep.cells ⟨x, atP free L x⟩).toArray 76 (0, 0))]) rfl ?_
    refine aw_kp [0, 2, 3, 4, 5, 6, 9, 10, 11, 12, 15, 16, 17, 18, 19, 20, 21, 22, 23, 24, 25] ?_
    refine aw_seq_dr ⟨_, 15, 46, [[], [0], [0, 1], [0, 1, 2], [0, 1, 2, 3], [0, 1, 2, 3], [0, 1, 2, 3, 5], [0, 1, 2, 3, 5, 6], [0, 1, 2, 3, 4, 5, 6, 7], [0, 1, 2, 3, 4, 5, 6, 7, 8], [0, 1, 2, 3, 4, 5, 6, 7, 8, 9], [0, 1, 2, 3], [0, 1, 2, 3, 11], [0, 1, 2, 3, 4, 5, 6, 7, 8, 9, 10, 11, 12], [0, 1, 2, 3, 4, 5, 6, 7, 8, 9, 10, 11, 12, 13]], [.light, .light, .light, .light, .light, .light, .light, .light, .light, .light, .mem, .light, .mem, .light, .light]⟩ (by kernel_rfl) rfl rfl mix ?_
    refine dr_l (x_move rfl) ?_
    refine dr_l (x_lenSlice Try.underlying43 rfl) ?_
    refine dr_cmp rfl rfl (wtd_none rfl) (x_eq rfl rfl) (fun h2 => ?_) (fun h2 => ?_)
    · refine dr_l (x_move rfl) ?_
      refine dr_sk ?_
      refine dr_sk ?_
      refine dr_sk ?_
      refine dr_sk ?_
      refine dr_sk ?_
      refine dr_sk ?_
      refine dr_sk ?_
      refine dr_sk ?_
      refine dr_sk ?_
      refine dr_sk ?_
      refine dr_l (x_pick_t rfl rfl rfl) ?_
      refine dr_nil0 ?_
      refine aw_kp [0, 2, 3, 4, 5, 6, 9, 10, 11, 12, 15, 16, 17, 18, 19, 20, 21, 22, 23, 24, 25, 26, 27, 28, 29, 30, 31, 32, 33, 34, 35, 36, 37, 38, 39, 40] ?_
      refine aw_true rfl ?_
      refine aw_region ?_
      refine sr_mv ?_
      refine sr_rd (x_loadN ag76 sz76 rfl (cells_ext mauto Ext.auto) rfl) ?_
      refine sr_new rfl (wtd_none rfl) rfl (x_buildSlice Try.underlying43 sz76 zr76 rfl rfl rfl rfl Parts.auto Fill.auto) ?_
      intro r8_2 hr8_2 gr8_2
      refine sr_d rfl (wtd_none rfl) rfl (opS_append (G := (r8_2, .cells (PStep.cells ⟨x, atP free L x⟩).toArray 76 (0, 0)) :: (r6_11, .cells (PStep.cells ⟨x, atP free L x⟩).toArray 76 (0, 0)) :: (Ee ++ H)) (N := (PStep.cells ⟨x, atP free L x⟩)) (m := 1) Try.underlying43 sz76 zr76 rfl by76 rfl rfl V Sub.autoP (.inr ⟨_, _, rfl, (cells_ext mauto Ext.auto)⟩) (rfl) rfl (by omega) (by omega)) ?_
      rintro v44 _ ⟨E44, hV44, rfl⟩
      obtain ⟨a44, cap44, rfl⟩ := hV44.isSl
      refine sr_as ?_
      refine sr_nil ?_
      show AW _ _ _ _ _ _ _
      refine aw_region ?_
      refine sr_mv ?_
      refine sr_rd (x_add' rfl rfl (i64w (by omega) (by omega))) ?_
      refine sr_as ?_
      refine sr_nil ?_
      show ∃ s', _ ∧ _ ∧ _ ∧ _
      first | exact ⟨⟨k + 1, a44, cap44, E44⟩, ⟨by dsimp only; omega, (by dsimp only; rw [out_push hx (by rw [← hO]; first | exact .inl (by omega) | exact .inr ⟨y, hy, by assumption⟩), ← hO]; exact OwnVec.snocS hV44)⟩, by dsimp only; omega, (by rw [out_push hx (by rw [← hO]; first | exact .inl (by omega) | exact .inr ⟨y, hy, by assumption⟩), ← hO, List.length_append]; exact KeepF.auto), Sub.autoD⟩ | exact ⟨⟨k + 1, ao, co, Eo⟩, ⟨by dsimp only; omega, (by dsimp only; rw [out_keep hx (by rw [← hO]; exact ⟨y, hy, Classical.not_not.1 (by assumption)⟩), ← hO]; exact V)⟩, by dsimp only; omega, (by rw [out_keep hx (by rw [← hO]; exact ⟨y, hy, Classical.not_not.1 (by assumption)⟩), ← hO]; exact KeepF.auto), Sub.autoD⟩
    · refine dr_l (x_move rfl) ?_
      refine dr_y (x_move rfl) ?_
      refine dr_y (x_move rfl) ?_
      refine dr_y (x_lenSlice Try.underlying43 rfl) ?_
      refine dr_y (x_cast (u := .int .i64 ((O.length - 1 : Nat) : Int)) (x_sub' rfl rfl (i64w (by omega) (by omega))) (by congr 1; omega)) ?_
      obtain ⟨y, hy⟩ := get_ex (show O.length - 1 < O.length by omega)
      obtain ⟨by_, oy, hay, hcy⟩ := hso.at_ _ _ hy
      refine dr_y (x_indexAddrN (O.length - 1) Try.underlying43 sz76 rfl hay rfl (by omega) (by omega)) ?_
      refine dr_y (x_fieldAddr fd76_1 rfl) ?_
      refine dr_mem0 rfl rfl (wtd_yes rfl rfl rfl) (x_load ag3 rfl (cells_get (Cells.mono hcy Sub.autoE) 1 rfl)) ?_
      refine dr_y (x_fieldAddr fd76_1 rfl) ?_
      refine dr_mem0 rfl rfl (wtd_yes rfl rfl rfl) (x_load ag3 rfl (cells_ext mauto Ext.auto)) ?_
      refine dr_cmp rfl rfl (wtd_yes rfl rfl rfl) (x_ne rfl rfl) (fun h3 => ?_) (fun h3 => ?_)
      · refine dr_l (x_pick_f rfl rfl rfl) ?_
        refine dr_nil0 ?_
        refine aw_kp [0, 2, 3, 4, 5, 6, 9, 10, 11, 12, 15, 16, 17, 18, 19, 20, 21, 22, 23, 24, 25, 26, 27, 28, 29, 30, 31, 32, 33, 34, 35, 36, 37, 38, 39, 40] ?_
        refine aw_true rfl ?_
        refine aw_region ?_
        refine sr_mv ?_
        refine sr_rd (x_loadN ag76 sz76 rfl (cells_ext mauto Ext.auto) rfl) ?_
        refine sr_new rfl (wtd_none rfl) rfl (x_buildSlice Try.underlying43 sz76 zr76 rfl rfl rfl rfl Parts.auto Fill.auto) ?_
        intro r8_2 hr8_2 gr8_2
        refine sr_d rfl (wtd_none rfl) rfl (opS_append (G := (r8_2, .cells (PStep.cells ⟨x, atP free L x⟩).toArray 76 (0, 0)) :: (r6_11, .cells (PStep.cells ⟨x, atP free L x⟩).toArray 76 (0, 0)) :: (Ee ++ H)) (N := (PStep.cells ⟨x, atP free L x⟩)) (m := 1) Try.underlying43 sz76 zr76 rfl by76 rfl rfl V Sub.autoP (.inr ⟨_, _, rfl, (cells_ext mauto Ext.auto)⟩) (rfl) rfl (by omega) (by omega)) ?_
        rintro v44 _ ⟨E44, hV44, rfl⟩
        obtain ⟨a44, cap44, rfl⟩ := hV44.isSl
        refine sr_as ?_
        refine sr_nil ?_
        show AW _ _ _ _ _ _ _
        refine aw_region ?_
        refine sr_mv ?_
        refine sr_rd (x_add' rfl rfl (i64w (by omega) (by omega))) ?_
        refine sr_as ?_
        refine sr_nil ?_
        show ∃ s', _ ∧ _ ∧ _ ∧ _
        first | exact ⟨⟨k + 1, a44, cap44, E44⟩, ⟨by dsimp only; omega, (by dsimp only; rw [out_push hx (by rw [← hO]; first | exact .inl (by omega) | exact .inr ⟨y, hy, by assumption⟩), ← hO]; exact OwnVec.snocS hV44)⟩, by dsimp only; omega, (by rw [out_push hx (by rw [← hO]; first | exact .inl (by omega) | exact .inr ⟨y, hy, by assumption⟩), ← hO, List.length_append]; exact KeepF.auto), Sub.autoD⟩ | exact ⟨⟨k + 1, ao, co, Eo⟩, ⟨by dsimp only; omega, (by dsimp only; rw [out_keep hx (by rw [← hO]; exact ⟨y, hy, Classical.not_not.1 (by assumption)⟩), ← hO]; exact V)⟩, by dsimp only; omega, (by rw [out_keep hx (by rw [← hO]; exact ⟨y, hy, Classical.not_not.1 (by assumption)⟩), ← hO]; exact KeepF.auto), Sub.autoD⟩
      · refine dr_l (x_pick_f rfl rfl rfl) ?_
        refine dr_nil0 ?_
        refine aw_kp [0, 2, 3, 4, 5, 6, 9, 10, 11, 12, 15, 16, 17, 18, 19, 20, 21, 22, 23, 24, 25, 26, 27, 28, 29, 30, 31, 32, 33, 34, 35, 36, 37, 38, 39, 40] ?_
        refine aw_false rfl ?_
        refine aw_skip ?_
        show AW _ _ _ _ _ _ _
        refine aw_region ?_
        refine sr_mv ?_
        refine sr_rd (x_add' rfl rfl (i64w (by omega) (by omega))) ?_
        refine sr_as ?_
        refine sr_nil ?_
        show ∃ s', _ ∧ _ ∧ _ ∧ _
        first | exact ⟨⟨k + 1, a44, cap44, E44⟩, ⟨by dsimp only; omega, (by dsimp only; rw [out_push hx (by rw [← hO]; first | exact .inl (by omega) | exact .inr ⟨y, hy, by assumption⟩), ← hO]; exact OwnVec.snocS hV44)⟩, by dsimp only; omega, (by rw [out_push hx (by rw [← hO]; first | exact .inl (by omega) | exact .inr ⟨y, hy, by assumption⟩), ← hO, List.length_append]; exact KeepF.auto), Sub.autoD⟩ | exact ⟨⟨k + 1, ao, co, Eo⟩, ⟨by dsimp only; omega, (by dsimp only; rw [out_keep hx (by rw [← hO]; exact ⟨y, hy, Classical.not_not.1 (by assumption)⟩), ← hO]; exact V)⟩, by dsimp only; omega, (by rw [out_keep hx (by rw [← hO]; exact ⟨y, hy, Classical.not_not.1 (by assumption)⟩), ← hO]; exact KeepF.auto), Sub.autoD⟩
  · refine sr_nil ?_
    refine aw_kp [0, 2, 3, 4, 5, 9, 10, 11, 12] ?_
    refine aw_false rfl ?_
    refine aw_exit ?_
    show AW _ _ _ _ _ _ _
    refine aw_seq_region ?_
    refine sr_mv ?_
    refine sr_as ?_
    refine sr_nil ?_
    refine aw_kp [2] ?_
    refine aw_ret ?_
    show ∃ v H2, ResV _ _ _ _ _ _ v ∧ Sub H2 _ ∧ _
    (have hfin := hrep.steps hL he); (rw [List.take_of_length_le (by unfold eS; rw [List.length_map]; omega), hfin] at hO); (subst hO); exact ⟨_, Eo ++ H, resV rfl (.cons rfl .nil), Sub.autoP, Eo, ⟨ao, co, V, rfl⟩, rfl⟩
set_option maxRecDepth 100000 in
set_option maxHeartbeats 4000000 in
theorem qbounds_s (q : Nat) (free now : Int) (a : Option Addr) (cap : Nat) (L : List PSpan) (ver : Int) (H : SHeap) (hc : Cells W0 H q 0 [.int .i64 free, .int .i64 now, .slice a L.length cap, .int .i64 ver]) (hs : SlV W0 H 3 PSpan.cells a cap L) (hL : ∀ s ∈ L, SpOk s) (hfr : 0 ≤ free ∧ free ≤ 64) (hll : L.length ≤ 1000) (hnow : 0 ≤ now ∧ now ≤ 1099511627776) (from_ to_ : Int) : AC Try.prog W0 33 [.pointer (some ⟨q, 0, none⟩), .int .i64 from_, .int .i64 to_] H (fun v H' => (∃ m M, v = .tuple #[.int .i64 m, .int .i64 M] ∧ (max from_ now < to_ → MinOn (atP free L) (max from_ now) to_ m ∧ MaxOn (atP free L) (max from_ now) to_ M) ∧ (to_ ≤ max from_ now → m = 64)) ∧ H' = H) := by
  have hle := hs.le
  have hcb := hs.capb
  refine ac_of Try.func33 rfl rfl rfl ?_
  refine aw_seq_region ?_
  refine sr_as ?_
  refine sr_as ?_
  refine sr_nil ?_
  refine aw_kp [0, 1, 2, 6, 7] ?_
  refine aw_join (ι := Unit) (fun _ => True) (fun _ => [(0, .pointer (some ⟨q, 0, none⟩)), (1, .int .i64 (max from_ now)), (2, .int .i64 to_), (6, .int .i64 0), (7, .int .i64 0)]) (fun _ => H) ?_ ?_
  · refine aw_seq_region ?_
    refine sr_mv ?_
    refine sr_mv ?_
    refine sr_rd (x_nilCheck rfl) ?_
    refine sr_rd (x_fieldAddr fd36_1 rfl) ?_
    refine sr_rd (x_load ag2 rfl (cells_get (Cells.mono hc Sub.autoR) 1 rfl)) ?_
    refine sr_c (x_lt rfl rfl) (fun h1 => ?_) (fun h1 => ?_)
    · refine sr_nil ?_
      refine aw_kp [0, 1, 2, 6, 7, 18] ?_
      refine aw_true rfl ?_
      refine aw_region ?_
      refine sr_mv ?_
      refine sr_rd (x_nilCheck rfl) ?_
      refine sr_rd (x_fieldAddr fd36_1 rfl) ?_
      refine sr_rd (x_load ag2 rfl (cells_get (Cells.mono hc Sub.autoR) 1 rfl)) ?_
      refine sr_as ?_
      refine sr_nil ?_
      show ∃ s', _ ∧ _ ∧ _
      exact ⟨(), trivial, (by first | (rw [Int.max_eq_left (by omega)]; exact KeepF.auto) | (rw [Int.max_eq_right (by omega)]; exact KeepF.auto)), Sub.autoP⟩
    · refine sr_nil ?_
      refine aw_kp [0, 1, 2, 6, 7, 18] ?_
      refine aw_false rfl ?_
      refine aw_skip ?_
      show ∃ s', _ ∧ _ ∧ _
      exact ⟨(), trivial, (by first | (rw [Int.max_eq_left (by omega)]; exact KeepF.auto) | (rw [Int.max_eq_right (by omega)]; exact KeepF.auto)), Sub.autoP⟩
  · intro _ _
    refine aw_seq_region ?_
    refine sr_as ?_
    refine sr_as ?_
    refine sr_nil ?_
    refine aw_kp [0, 1, 2, 6, 7, 8, 9] ?_
    refine aw_seq ?_
    refine aw_seq_region ?_
    refine sr_mv ?_
    refine sr_mv ?_
    refine sr_c (x_ge rfl rfl) (fun h2 => ?_) (fun h2 => ?_)
    · refine sr_nil ?_
      refine aw_kp [0, 1, 2, 6, 7, 8, 9, 25] ?_
      refine aw_true rfl ?_
      refine aw_seq_region ?_
      refine sr_mv ?_
      refine sr_mv ?_
      refine sr_as ?_
      refine sr_as ?_
      refine sr_nil ?_
      refine aw_kp [0, 1, 2, 6, 7, 8, 9] ?_
      refine aw_ret ?_
      show ∃ v H2, ResV _ _ _ _ _ _ v ∧ Sub H2 _ ∧ _
      first | exact ⟨_, H, resV rfl (.cons rfl (.cons rfl .nil)), Sub.autoR, ⟨64, 0, rfl, (fun h => by omega), fun _ => rfl⟩, rfl⟩ | exact ⟨_, H, resV rfl (.cons rfl (.cons rfl .nil)), Sub.autoR, ⟨m, M, rfl, (fun _ => ⟨hm.done he hL (by omega) (by rw [List.length_cons]; omega), hM.done he hL (by omega) (by rw [List.length_cons]; omega)⟩), fun h => by omega⟩, rfl⟩
    · refine sr_nil ?_
      refine aw_kp [0, 1, 2, 6, 7, 8, 9, 25] ?_
      refine aw_false rfl ?_
      refine aw_skip ?_
      show AW _ _ _ _ _ _ _
      refine aw_seq_region ?_
      refine sr_mv ?_
      refine sr_new rfl (wtd_none rfl) rfl (x_buildSlice Try.underlying87 sz2 zr2 rfl rfl rfl rfl Parts.auto Fill.auto) ?_
      intro r6_1 hr6_1 gr6_1
      refine sr_mv ?_
      refine sr_d rfl (wtd_none rfl) rfl (opS_call rfl rfl rfl rfl cl92 (qedges_s q free now a cap L ver _ (Cells.mono hc Sub.autoR) (hs.mono Sub.autoR) hL hfr hll hnow)) ?_
      rintro _ _ ⟨e, ae, ce, Ee, rfl, he, hel, Ve, rfl⟩
      have hse0 := Ve.slv' (W0 := W0) (fun _ => rfl) rfl (Sub.refl _)
      refine sr_d rfl (wtd_none rfl) rfl (opS_append (G := Ee ++ H) (N := e.flatMap iC) (m := e.length) Try.underlying87 sz2 zr2 rfl by2 rfl rfl (OwnVec.mk (size := 1) (e := 2) (r := r6_1) (n := 1) (cap := 1) (L := [.int .i64 (max from_ now)]) (post := []) rfl rfl (by decide) (by decide)) Sub.autoP (((hse0.mono Sub.autoE).flat (fun _ => rfl) (by omega))) (flat_len (n := 1) (enc := iC) (fun _ => rfl) e) (all_flat (fun _ => rfl) e) (by omega) (by omega)) ?_
      rintro v32 _ ⟨E32, hV32, rfl⟩
      obtain ⟨aa, ca, rfl⟩ := hV32.isSl
      have Va := all_vec hV32
      have hsa := Va.slv' (W0 := W0) (fun _ => rfl) rfl (Sub.refl _)
      have hal := hsa.le
      have hac := hsa.capb
      rw [List.length_cons] at hal
      refine sr_as ?_
      refine sr_nil ?_
      refine aw_kp [0, 1, 2, 6, 7, 8, 9, 10] ?_
      refine aw_seq ?_
      refine aw_seq_region ?_
      refine sr_as ?_
      refine sr_nil ?_
      refine aw_kp [0, 1, 2, 6, 7, 8, 9, 10, 11] ?_
      refine aw_block ?_
      refine aw_loop (ι := BdG) (fun s => s.k ≤ e.length + 1 ∧ MinE (atP free L) ((max from_ now) :: e) (max from_ now) to_ s.k s.m ∧ MaxE (atP free L) ((max from_ now) :: e) (max from_ now) to_ s.k s.M) (fun s => [(0, .pointer (some ⟨q, 0, none⟩)), (1, .int .i64 (max from_ now)), (2, .int .i64 to_), (6, .int .i64 0), (7, .int .i64 0), (8, .int .i64 s.m), (9, .int .i64 s.M), (10, .slice aa (1 + e.length) ca), (11, .int .i64 s.k)]) (fun _ => E32 ++ H) (fun s => e.length + 1 - s.k) ⟨0, 64, 0⟩ (⟨Nat.zero_le _, MinE.start, MaxE.start⟩) KeepF.auto Sub.autoP ?_
      intro s9 hs9
      obtain ⟨k, m, M⟩ := s9
      dsimp only at hs9 ⊢
      obtain ⟨hk, hm, hM⟩ := hs9
      refine aw_seq ?_
      refine aw_seq_region ?_
      refine sr_mv ?_
      refine sr_mv ?_
      refine sr_rd (x_lenSlice Try.underlying87 rfl) ?_
      refine sr_c (x_lt rfl rfl) (fun h3 => ?_) (fun h3 => ?_)
      · refine sr_nil ?_
        refine aw_kp [0, 1, 2, 6, 7, 8, 9, 10, 11, 33, 34, 35, 36] ?_
        refine aw_true rfl ?_
        refine aw_skip ?_
        show AW _ _ _ _ _ _ _
        refine aw_seq ?_
        refine aw_block ?_
        refine aw_seq ?_
        refine aw_seq_region ?_
        obtain ⟨x, hx⟩ := get_ex (show k < ((max from_ now) :: e).length by rw [List.length_cons]; omega)
        obtain ⟨bx, ox, hax, hcx⟩ := hsa.at_ _ _ hx
        refine sr_mv ?_
        refine sr_mv ?_
        refine sr_rd (x_indexAddrN (k) Try.underlying87 sz2 rfl hax rfl (by omega) (by omega)) ?_
        refine sr_rd (x_load ag2 rfl (Cells.mono hcx Sub.autoE)) ?_
        refine sr_mv ?_
        refine sr_c (x_lt rfl rfl) (fun h4 => ?_) (fun h4 => ?_)
        · refine sr_mv ?_
          refine sr_sk ?_
          refine sr_sk ?_
          refine sr_sk ?_
          refine sr_sk ?_
          refine sr_sk ?_
          refine sr_sk ?_
          refine sr_rd (x_pick_t rfl rfl rfl) ?_
          refine sr_nil ?_
          refine aw_kp [0, 1, 2, 6, 7, 8, 9, 10, 11, 33, 34, 35, 36, 39, 40, 41, 42, 43, 44, 45, 46, 47, 48, 49, 50, 51, 52] ?_
          refine aw_true rfl ?_
          refine aw_exit ?_
          show AW _ _ _ _ _ _ _
          refine aw_region ?_
          refine sr_mv ?_
          refine sr_rd (x_add' rfl rfl (i64w (by omega) (by omega))) ?_
          refine sr_as ?_
          refine sr_nil ?_
          show ∃ s', _ ∧ _ ∧ _ ∧ _
          first | exact ⟨⟨k + 1, m, M⟩, ⟨by dsimp only; omega, hm.skip hx (by omega), hM.skip hx (by omega)⟩, by dsimp only; omega, KeepF.auto, Sub.autoD⟩ | exact ⟨⟨k + 1, m, M⟩, ⟨by dsimp only; omega, hm.step hx (by omega) (by omega) (by first | (rw [if_pos (by omega)]; done) | (rw [if_neg (by omega)]; done) | fail), hM.step hx (by omega) (by omega) (by first | (rw [if_pos (by omega)]; done) | (rw [if_neg (by omega)]; done) | fail)⟩, by dsimp only; omega, KeepF.auto, Sub.autoD⟩ | exact ⟨⟨k + 1, m, atP free L x⟩, ⟨by dsimp only; omega, hm.step hx (by omega) (by omega) (by first | (rw [if_pos (by omega)]; done) | (rw [if_neg (by omega)]; done) | fail), hM.step hx (by omega) (by omega) (by first | (rw [if_pos (by omega)]; done) | (rw [if_neg (by omega)]; done) | fail)⟩, by dsimp only; omega, KeepF.auto, Sub.autoD⟩ | exact ⟨⟨k + 1, atP free L x, M⟩, ⟨by dsimp only; omega, hm.step hx (by omega) (by omega) (by first | (rw [if_pos (by omega)]; done) | (rw [if_neg (by omega)]; done) | fail), hM.step hx (by omega) (by omega) (by first | (rw [if_pos (by omega)]; done) | (rw [if_neg (by omega)]; done) | fail)⟩, by dsimp only; omega, KeepF.auto, Sub.autoD⟩ | exact ⟨⟨k + 1, atP free L x, atP free L x⟩, ⟨by dsimp only; omega, hm.step hx (by omega) (by omega) (by first | (rw [if_pos (by omega)]; done) | (rw [if_neg (by omega)]; done) | fail), hM.step hx (by omega) (by omega) (by first | (rw [if_pos (by omega)]; done) | (rw [if_neg (by omega)]; done) | fail)⟩, by dsimp only; omega, KeepF.auto, Sub.autoD⟩
        · refine sr_mv ?_
          refine sr_ry (x_move rfl) ?_
          refine sr_ry (x_move rfl) ?_
          refine sr_ry (x_indexAddrN (k) Try.underlying87 sz2 rfl hax rfl (by omega) (by omega)) ?_
          refine sr_ry (x_load ag2 rfl (Cells.mono hcx Sub.autoE)) ?_
          refine sr_ry (x_move rfl) ?_
          refine sr_cy (x_ge rfl rfl) (fun h5 => ?_) (fun h5 => ?_)
          · refine sr_rd (x_pick_f rfl rfl rfl) ?_
            refine sr_nil ?_
            refine aw_kp [0, 1, 2, 6, 7, 8, 9, 10, 11, 33, 34, 35, 36, 39, 40, 41, 42, 43, 44, 45, 46, 47, 48, 49, 50, 51, 52] ?_
            refine aw_true rfl ?_
            refine aw_exit ?_
            show AW _ _ _ _ _ _ _
            refine aw_region ?_
            refine sr_mv ?_
            refine sr_rd (x_add' rfl rfl (i64w (by omega) (by omega))) ?_
            refine sr_as ?_
            refine sr_nil ?_
            show ∃ s', _ ∧ _ ∧ _ ∧ _
            first | exact ⟨⟨k + 1, m, M⟩, ⟨by dsimp only; omega, hm.skip hx (by omega), hM.skip hx (by omega)⟩, by dsimp only; omega, KeepF.auto, Sub.autoD⟩ | exact ⟨⟨k + 1, m, M⟩, ⟨by dsimp only; omega, hm.step hx (by omega) (by omega) (by first | (rw [if_pos (by omega)]; done) | (rw [if_neg (by omega)]; done) | fail), hM.step hx (by omega) (by omega) (by first | (rw [if_pos (by omega)]; done) | (rw [if_neg (by omega)]; done) | fail)⟩, by dsimp only; omega, KeepF.auto, Sub.autoD⟩ | exact ⟨⟨k + 1, m, atP free L x⟩, ⟨by dsimp only; omega, hm.step hx (by omega) (by omega) (by first | (rw [if_pos (by omega)]; done) | (rw [if_neg (by omega)]; done) | fail), hM.step hx (by omega) (by omega) (by first | (rw [if_pos (by omega)]; done) | (rw [if_neg (by omega)]; done) | fail)⟩, by dsimp only; omega, KeepF.auto, Sub.autoD⟩ | exact ⟨⟨k + 1, atP free L x, M⟩, ⟨by dsimp only; omega, hm.step hx (by omega) (by omega) (by first | (rw [if_pos (by omega)]; done) | (rw [if_neg (by omega)]; done) | fail), hM.step hx (by omega) (by omega) (by first | (rw [if_pos (by omega)]; done) | (rw [if_neg (by omega)]; done) | fail)⟩, by dsimp only; omega, KeepF.auto, Sub.autoD⟩ | exact ⟨⟨k + 1, atP free L x, atP free L x⟩, ⟨by dsimp only; omega, hm.step hx (by omega) (by omega) (by first | (rw [if_pos (by omega)]; done) | (rw [if_neg (by omega)]; done) | fail), hM.step hx (by omega) (by omega) (by first | (rw [if_pos (by omega)]; done) | (rw [if_neg (by omega)]; done) | fail)⟩, by dsimp only; omega, KeepF.auto, Sub.autoD⟩
          · refine sr_rd (x_pick_f rfl rfl rfl) ?_
            refine sr_nil ?_
            refine aw_kp [0, 1, 2, 6, 7, 8, 9, 10, 11, 33, 34, 35, 36, 39, 40, 41, 42, 43, 44, 45, 46, 47, 48, 49, 50, 51, 52] ?_
            refine aw_false rfl ?_
            refine aw_skip ?_
            show AW _ _ _ _ _ _ _
            refine aw_seq_region ?_
            refine sr_mv ?_
            refine sr_mv ?_
            refine sr_mv ?_
            refine sr_rd (x_indexAddrN (k) Try.underlying87 sz2 rfl hax rfl (by omega) (by omega)) ?_
            refine sr_rd (x_load ag2 rfl (Cells.mono hcx Sub.autoE)) ?_
            refine sr_d rfl (wtd_none rfl) rfl (opS_call rfl rfl rfl rfl cl35 (qat_s q free now a cap L ver _ (Cells.mono hc Sub.autoR) (hs.mono Sub.autoR) hL hfr hll x)) ?_
            rintro _ H9 ⟨rfl, rfl⟩
            rw [show max x now = x by omega]
            refine sr_as ?_
            refine sr_nil ?_
            refine aw_kp [0, 1, 2, 6, 7, 8, 9, 10, 11, 12, 33, 34, 35, 36, 39, 40, 41, 42, 43, 44, 45, 46, 47, 48, 49, 50, 51, 52, 53, 54, 55, 56, 57, 58] ?_
            refine aw_seq ?_
            refine aw_seq_region ?_
            refine sr_mv ?_
            refine sr_mv ?_
            refine sr_c (x_lt rfl rfl) (fun h6 => ?_) (fun h6 => ?_)
            · refine sr_nil ?_
              refine aw_kp [0, 1, 2, 6, 7, 8, 9, 10, 11, 12, 33, 34, 35, 36, 39, 40, 41, 42, 43, 44, 45, 46, 47, 48, 49, 50, 51, 52, 53, 54, 55, 56, 57, 58, 59, 60, 61] ?_
              refine aw_true rfl ?_
              refine aw_region ?_
              refine sr_mv ?_
              refine sr_as ?_
              refine sr_nil ?_
              show AW _ _ _ _ _ _ _
              refine aw_seq_region ?_
              refine sr_mv ?_
              refine sr_mv ?_
              refine sr_c (x_gt rfl rfl) (fun h7 => ?_) (fun h7 => ?_)
              · refine sr_nil ?_
                refine aw_kp [0, 1, 2, 6, 7, 8, 9, 10, 11, 12, 33, 34, 35, 36, 39, 40, 41, 42, 43, 44, 45, 46, 47, 48, 49, 50, 51, 52, 53, 54, 55, 56, 57, 58, 59, 60, 61, 62, 63, 64, 65] ?_
                refine aw_true rfl ?_
                refine aw_region ?_
                refine sr_mv ?_
                refine sr_as ?_
                refine sr_nil ?_
                show AW _ _ _ _ _ _ _
                refine aw_region ?_
                refine sr_mv ?_
                refine sr_rd (x_add' rfl rfl (i64w (by omega) (by omega))) ?_
                refine sr_as ?_
                refine sr_nil ?_
                show ∃ s', _ ∧ _ ∧ _ ∧ _
                first | exact ⟨⟨k + 1, m, M⟩, ⟨by dsimp only; omega, hm.skip hx (by omega), hM.skip hx (by omega)⟩, by dsimp only; omega, KeepF.auto, Sub.autoD⟩ | exact ⟨⟨k + 1, m, M⟩, ⟨by dsimp only; omega, hm.step hx (by omega) (by omega) (by first | (rw [if_pos (by omega)]; done) | (rw [if_neg (by omega)]; done) | fail), hM.step hx (by omega) (by omega) (by first | (rw [if_pos (by omega)]; done) | (rw [if_neg (by omega)]; done) | fail)⟩, by dsimp only; omega, KeepF.auto, Sub.autoD⟩ | exact ⟨⟨k + 1, m, atP free L x⟩, ⟨by dsimp only; omega, hm.step hx (by omega) (by omega) (by first | (rw [if_pos (by omega)]; done) | (rw [if_neg (by omega)]; done) | fail), hM.step hx (by omega) (by omega) (by first | (rw [if_pos (by omega)]; done) | (rw [if_neg (by omega)]; done) | fail)⟩, by dsimp only; omega, KeepF.auto, Sub.autoD⟩ | exact ⟨⟨k + 1, atP free L x, M⟩, ⟨by dsimp only; omega, hm.step hx (by omega) (by omega) (by first | (rw [if_pos (by omega)]; done) | (rw [if_neg (by omega)]; done) | fail), hM.step hx (by omega) (by omega) (by first | (rw [if_pos (by omega)]; done) | (rw [if_neg (by omega)]; done) | fail)⟩, by dsimp only; omega, KeepF.auto, Sub.autoD⟩ | exact ⟨⟨k + 1, atP free L x, atP free L x⟩, ⟨by dsimp only; omega, hm.step hx (by omega) (by omega) (by first | (rw [if_pos (by omega)]; done) | (rw [if_neg (by omega)]; done) | fail), hM.step hx (by omega) (by omega) (by first | (rw [if_pos (by omega)]; done) | (rw [if_neg (by omega)]; done) | fail)⟩, by dsimp only; omega, KeepF.auto, Sub.autoD⟩
              · refine sr_nil ?_
                refine aw_kp [0, 1, 2, 6, 7, 8, 9, 10, 11, 12, 33, 34, 35, 36, 39, 40, 41, 42, 43, 44, 45, 46, 47, 48, 49, 50, 51, 52, 53, 54, 55, 56, 57, 58, 59, 60, 61, 62, 63, 64, 65] ?_
                refine aw_false rfl ?_
                refine aw_skip ?_
                show AW _ _ _ _ _ _ _
                refine aw_region ?_
                refine sr_mv ?_
                refine sr_rd (x_add' rfl rfl (i64w (by omega) (by omega))) ?_
                refine sr_as ?_
                refine sr_nil ?_
                show ∃ s', _ ∧ _ ∧ _ ∧ _
                first | exact ⟨⟨k + 1, m, M⟩, ⟨by dsimp only; omega, hm.skip hx (by omega), hM.skip hx (by omega)⟩, by dsimp only; omega, KeepF.auto, Sub.autoD⟩ | exact ⟨⟨k + 1, m, M⟩, ⟨by dsimp only; omega, hm.step hx (by omega) (by omega) (by first | (rw [if_pos (by omega)]; done) | (rw [if_neg (by omega)]; done) | fail), hM.step hx (by omega) (by omega) (by first | (rw [if_pos (by omega)]; done) | (rw [if_neg (by omega)]; done) | fail)⟩, by dsimp only; omega, KeepF.auto, Sub.autoD⟩ | exact ⟨⟨k + 1, m, atP free L x⟩, ⟨by dsimp only; omega, hm.step hx (by omega) (by omega) (by first | (rw [if_pos (by omega)]; done) | (rw [if_neg (by omega)]; done) | fail), hM.step hx (by omega) (by omega) (by first | (rw [if_pos (by omega)]; done) | (rw [if_neg (by omega)]; done) | fail)⟩, by dsimp only; omega, KeepF.auto, Sub.autoD⟩ | exact ⟨⟨k + 1, atP free L x, M⟩, ⟨by dsimp only; omega, hm.step hx (by omega) (by omega) (by first | (rw [if_pos (by omega)]; done) | (rw [if_neg (by omega)]; done) | fail), hM.step hx (by omega) (by omega) (by first | (rw [if_pos (by omega)]; done) | (rw [if_neg (by omega)]; done) | fail)⟩, by dsimp only; omega, KeepF.auto, Sub.autoD⟩ | exact ⟨⟨k + 1, atP free L x, atP free L x⟩, ⟨by dsimp only; omega, hm.step hx (by omega) (by omega) (by first | (rw [if_pos (by omega)]; done) | (rw [if_neg (by omega)]; done) | fail), hM.step hx (by omega) (by omega) (by first | (rw [if_pos (by omega)]; done) | (rw [if_neg (by omega)]; done) | fail)⟩, by dsimp only; omega, KeepF.auto, Sub.autoD⟩
            · refine sr_nil ?_
              refine aw_kp [0, 1, 2, 6, 7, 8, 9, 10, 11, 12, 33, 34, 35, 36, 39, 40, 41, 42, 43, 44, 45, 46, 47, 48, 49, 50, 51, 52, 53, 54, 55, 56, 57, 58, 59, 60, 61] ?_
              refine aw_false rfl ?_
              refine aw_skip ?_
              show AW _ _ _ _ _ _ _
              refine aw_seq_region ?_
              refine sr_mv ?_
              refine sr_mv ?_
              refine sr_c (x_gt rfl rfl) (fun h8 => ?_) (fun h8 => ?_)
              · refine sr_nil ?_
                refine aw_kp [0, 1, 2, 6, 7, 8, 9, 10, 11, 12, 33, 34, 35, 36, 39, 40, 41, 42, 43, 44, 45, 46, 47, 48, 49, 50, 51, 52, 53, 54, 55, 56, 57, 58, 59, 60, 61, 63, 64, 65] ?_
                refine aw_true rfl ?_
                refine aw_region ?_
                refine sr_mv ?_
                refine sr_as ?_
                refine sr_nil ?_
                show AW _ _ _ _ _ _ _
                refine aw_region ?_
                refine sr_mv ?_
                refine sr_rd (x_add' rfl rfl (i64w (by omega) (by omega))) ?_
                refine sr_as ?_
                refine sr_nil ?_
                show ∃ s', _ ∧ _ ∧ _ ∧ _
                first | exact ⟨⟨k + 1, m, M⟩, ⟨by dsimp only; omega, hm.skip hx (by omega), hM.skip hx (by omega)⟩, by dsimp only; omega, KeepF.auto, Sub.autoD⟩ | exact ⟨⟨k + 1, m, M⟩, ⟨by dsimp only; omega, hm.step hx (by omega) (by omega) (by first | (rw [if_pos (by omega)]; done) | (rw [if_neg (by omega)]; done) | fail), hM.step hx (by omega) (by omega) (by first | (rw [if_pos (by omega)]; done) | (rw [if_neg (by omega)]; done) | fail)⟩, by dsimp only; omega, KeepF.auto, Sub.autoD⟩ | exact ⟨⟨k + 1, m, atP free L x⟩, ⟨by dsimp only; omega, hm.step hx (by omega) (by omega) (by first | (rw [if_pos (by omega)]; done) | (rw [if_neg (by omega)]; done) | fail), hM.step hx (by omega) (by omega) (by first | (rw [if_pos (by omega)]; done) | (rw [if_neg (by omega)]; done) | fail)⟩, by dsimp only; omega, KeepF.auto, Sub.autoD⟩ | exact ⟨⟨k + 1, atP free L x, M⟩, ⟨by dsimp only; omega, hm.step hx (by omega) (by omega) (by first | (rw [if_pos (by omega)]; done) | (rw [if_neg (by omega)]; done) | fail), hM.step hx (by omega) (by omega) (by first | (rw [if_pos (by omega)]; done) | (rw [if_neg (by omega)]; done) | fail)⟩, by dsimp only; omega, KeepF.auto, Sub.autoD⟩ | exact ⟨⟨k + 1, atP free L x, atP free L x⟩, ⟨by dsimp only; omega, hm.step hx (by omega) (by omega) (by first | (rw [if_pos (by omega)]; done) | (rw [if_neg (by omega)]; done) | fail), hM.step hx (by omega) (by omega) (by first | (rw [if_pos (by omega)]; done) | (rw [if_neg (by omega)]; done) | fail)⟩, by dsimp only; omega, KeepF.auto, Sub.autoD⟩
              · refine sr_nil ?_
                refine aw_kp [0, 1, 2, 6, 7, 8, 9, 10, 11, 12, 33, 34, 35, 36, 39, 40, 41, 42, 43, 44, 45, 46, 47, 48, 49, 50, 51, 52, 53, 54, 55, 56, 57, 58, 59, 60, 61, 63, 64, 65] ?_
                refine aw_false rfl ?_
                refine aw_skip ?_
                show AW _ _ _ _ _ _ _
                refine aw_region ?_
                refine sr_mv ?_
                refine sr_rd (x_add' rfl rfl (i64w (by omega) (by omega))) ?_
                refine sr_as ?_
                refine sr_nil ?_
                show ∃ s', _ ∧ _ ∧ _ ∧ _
                first | exact ⟨⟨k + 1, m, M⟩, ⟨by dsimp only; omega, hm.skip hx (by omega), hM.skip hx (by omega)⟩, by dsimp only; omega, KeepF.auto, Sub.autoD⟩ | exact ⟨⟨k + 1, m, M⟩, ⟨by dsimp only; omega, hm.step hx (by omega) (by omega) (by first | (rw [if_pos (by omega)]; done) | (rw [if_neg (by omega)]; done) | fail), hM.step hx (by omega) (by omega) (by first | (rw [if_pos (by omega)]; done) | (rw [if_neg (by omega)]; done) | fail)⟩, by dsimp only; omega, KeepF.auto, Sub.autoD⟩ | exact ⟨⟨k + 1, m, atP free L x⟩, ⟨by dsimp only; omega, hm.step hx (by omega) (by omega) (by first | (rw [if_pos (by omega)]; done) | (rw [if_neg (by omega)]; done) | fail), hM.step hx (by omega) (by omega) (by first | (rw [if_pos (by omega)]; done) | (rw [if_neg (by omega)]; done) | fail)⟩, by dsimp only; omega, KeepF.auto, Sub.autoD⟩ | exact ⟨⟨k + 1, atP free L x, M⟩, ⟨by dsimp only; omega, hm.step hx (by omega) (by omega) (by first | (rw [if_pos (by omega)]; done) | (rw [if_neg (by omega)]; done) | fail), hM.step hx (by omega) (by omega) (by first | (rw [if_pos (by omega)]; done) | (rw [if_neg (by omega)]; done) | fail)⟩, by dsimp only; omega, KeepF.auto, Sub.autoD⟩ | exact ⟨⟨k + 1, atP free L x, atP free L x⟩, ⟨by dsimp only; omega, hm.step hx (by omega) (by omega) (by first | (rw [if_pos (by omega)]; done) | (rw [if_neg (by omega)]; done) | fail), hM.step hx (by omega) (by omega) (by first | (rw [if_pos (by omega)]; done) | (rw [if_neg (by omega)]; done) | fail)⟩, by dsimp only; omega, KeepF.auto, Sub.autoD⟩
      · refine sr_nil ?_
        refine aw_kp [0, 1, 2, 6, 7, 8, 9, 10, 11, 33, 34, 35, 36] ?_
        refine aw_false rfl ?_
        refine aw_exit ?_
        show AW _ _ _ _ _ _ _
        refine aw_seq_region ?_
        refine sr_mv ?_
        refine sr_mv ?_
        refine sr_as ?_
        refine sr_as ?_
        refine sr_nil ?_
        refine aw_kp [6, 7] ?_
        refine aw_ret ?_
        show ∃ v H2, ResV _ _ _ _ _ _ v ∧ Sub H2 _ ∧ _
        first | exact ⟨_, H, resV rfl (.cons rfl (.cons rfl .nil)), Sub.autoR, ⟨64, 0, rfl, (fun h => by omega), fun _ => rfl⟩, rfl⟩ | exact ⟨_, H, resV rfl (.cons rfl (.cons rfl .nil)), Sub.autoR, ⟨m, M, rfl, (fun _ => ⟨hm.done he hL (by omega) (by rw [List.length_cons]; omega), hM.done he hL (by omega) (by rw [List.length_cons]; omega)⟩), fun h => by omega⟩, rfl⟩
set_option maxRecDepth 100000 in
set_option maxHeartbeats 4000000 in
theorem qear_s (q : Nat) (free now : Int) (a : Option Addr) (cap : Nat) (L : List PSpan) (ver : Int) (H : SHeap) (hc : Cells W0 H q 0 [.int .i64 free, .int .i64 now, .slice a L.length cap, .int .i64 ver]) (hs : SlV W0 H 3 PSpan.cells a cap L) (hL : ∀ s ∈ L, SpOk s) (hfr : 0 ≤ free ∧ free ≤ 64) (hll : L.length ≤ 1000) (hnow : 0 ≤ now ∧ now ≤ 1099511627776) (from_ long w : Int) : AC Try.prog W0 25 [.pointer (some ⟨q, 0, none⟩), .int .i64 from_, .int .i64 long, .int .i64 w] H (fun v H' => (∃ t e, v = .tuple #[.int .i64 t, .int .i64 e] ∧ EarC (atP free L) now from_ long w t e) ∧ H' = H) := by
  have hle := hs.le
  have hcb := hs.capb
  refine ac_of Try.func25 rfl rfl rfl ?_
  refine aw_seq_region ?_
  refine sr_as ?_
  refine sr_as ?_
  refine sr_nil ?_
  refine aw_kp [0, 1, 2, 3, 8, 9] ?_
  refine aw_seq ?_
  refine aw_seq_region ?_
  refine sr_mv ?_
  refine sr_c (x_lt rfl rfl) (fun h1 => ?_) (fun h1 => ?_)
  · refine sr_mv ?_
    refine sr_sk ?_
    refine sr_sk ?_
    refine sr_rd (x_pick_t rfl rfl rfl) ?_
    refine sr_mv ?_
    refine sr_sk ?_
    refine sr_sk ?_
    refine sr_rd (x_pick_t rfl rfl rfl) ?_
    refine sr_mv ?_
    refine sr_sk ?_
    refine sr_sk ?_
    refine sr_rd (x_pick_t rfl rfl rfl) ?_
    refine sr_nil ?_
    refine aw_kp [0, 1, 2, 3, 8, 9, 27] ?_
    refine aw_true rfl ?_
    refine aw_seq_region ?_
    refine sr_as ?_
    refine sr_as ?_
    refine sr_nil ?_
    refine aw_kp [0, 1, 2, 3, 8, 9] ?_
    refine aw_ret ?_
    show ∃ v H2, ResV _ _ _ _ _ _ v ∧ Sub H2 _ ∧ _
    first | exact ⟨_, H, resV rfl (.cons rfl (.cons rfl .nil)), Sub.autoR, ⟨_, _, rfl, .arg (by omega)⟩, rfl⟩ | exact ⟨_, H, resV rfl (.cons rfl (.cons rfl .nil)), Sub.autoR, ⟨_, _, rfl, .some (by omega) (EarE.some_ he hL (by omega) (by omega) hE hx (by omega) (by omega) (hfe.1 (by omega)))⟩, rfl⟩ | exact ⟨_, H, resV rfl (.cons rfl (.cons rfl .nil)), Sub.autoR, ⟨_, _, rfl, .none (by omega) (EarE.none_ he hL (by omega) (by omega) hE (by rw [List.length_cons]; omega))⟩, rfl⟩
  · refine sr_mv ?_
    refine sr_ry (x_move rfl) ?_
    refine sr_cy (x_gt rfl rfl) (fun h2 => ?_) (fun h2 => ?_)
    · refine sr_rd (x_pick_f rfl rfl rfl) ?_
      refine sr_mv ?_
      refine sr_sk ?_
      refine sr_sk ?_
      refine sr_rd (x_pick_t rfl rfl rfl) ?_
      refine sr_mv ?_
      refine sr_sk ?_
      refine sr_sk ?_
      refine sr_rd (x_pick_t rfl rfl rfl) ?_
      refine sr_nil ?_
      refine aw_kp [0, 1, 2, 3, 8, 9, 27] ?_
      refine aw_true rfl ?_
      refine aw_seq_region ?_
      refine sr_as ?_
      refine sr_as ?_
      refine sr_nil ?_
      refine aw_kp [0, 1, 2, 3, 8, 9] ?_
      refine aw_ret ?_
      show ∃ v H2, ResV _ _ _ _ _ _ v ∧ Sub H2 _ ∧ _
      first | exact ⟨_, H, resV rfl (.cons rfl (.cons rfl .nil)), Sub.autoR, ⟨_, _, rfl, .arg (by omega)⟩, rfl⟩ | exact ⟨_, H, resV rfl (.cons rfl (.cons rfl .nil)), Sub.autoR, ⟨_, _, rfl, .some (by omega) (EarE.some_ he hL (by omega) (by omega) hE hx (by omega) (by omega) (hfe.1 (by omega)))⟩, rfl⟩ | exact ⟨_, H, resV rfl (.cons rfl (.cons rfl .nil)), Sub.autoR, ⟨_, _, rfl, .none (by omega) (EarE.none_ he hL (by omega) (by omega) hE (by rw [List.length_cons]; omega))⟩, rfl⟩
    · refine sr_rd (x_pick_f rfl rfl rfl) ?_
      refine sr_mv ?_
      refine sr_ry (x_move rfl) ?_
      refine sr_cy (x_lt rfl rfl) (fun h3 => ?_) (fun h3 => ?_)
      · refine sr_rd (x_pick_f rfl rfl rfl) ?_
        refine sr_mv ?_
        refine sr_sk ?_
        refine sr_sk ?_
        refine sr_rd (x_pick_t rfl rfl rfl) ?_
        refine sr_nil ?_
        refine aw_kp [0, 1, 2, 3, 8, 9, 27] ?_
        refine aw_true rfl ?_
        refine aw_seq_region ?_
        refine sr_as ?_
        refine sr_as ?_
        refine sr_nil ?_
        refine aw_kp [0, 1, 2, 3, 8, 9] ?_
        refine aw_ret ?_
        show ∃ v H2, ResV _ _ _ _ _ _ v ∧ Sub H2 _ ∧ _
        first | exact ⟨_, H, resV rfl (.cons rfl (.cons rfl .nil)), Sub.autoR, ⟨_, _, rfl, .arg (by omega)⟩, rfl⟩ | exact ⟨_, H, resV rfl (.cons rfl (.cons rfl .nil)), Sub.autoR, ⟨_, _, rfl, .some (by omega) (EarE.some_ he hL (by omega) (by omega) hE hx (by omega) (by omega) (hfe.1 (by omega)))⟩, rfl⟩ | exact ⟨_, H, resV rfl (.cons rfl (.cons rfl .nil)), Sub.autoR, ⟨_, _, rfl, .none (by omega) (EarE.none_ he hL (by omega) (by omega) hE (by rw [List.length_cons]; omega))⟩, rfl⟩
      · refine sr_rd (x_pick_f rfl rfl rfl) ?_
        refine sr_mv ?_
        refine sr_ry (x_move rfl) ?_
        refine sr_cy (x_gt rfl rfl) (fun h4 => ?_) (fun h4 => ?_)
        · refine sr_rd (x_pick_f rfl rfl rfl) ?_
          refine sr_nil ?_
          refine aw_kp [0, 1, 2, 3, 8, 9, 27] ?_
          refine aw_true rfl ?_
          refine aw_seq_region ?_
          refine sr_as ?_
          refine sr_as ?_
          refine sr_nil ?_
          refine aw_kp [0, 1, 2, 3, 8, 9] ?_
          refine aw_ret ?_
          show ∃ v H2, ResV _ _ _ _ _ _ v ∧ Sub H2 _ ∧ _
          first | exact ⟨_, H, resV rfl (.cons rfl (.cons rfl .nil)), Sub.autoR, ⟨_, _, rfl, .arg (by omega)⟩, rfl⟩ | exact ⟨_, H, resV rfl (.cons rfl (.cons rfl .nil)), Sub.autoR, ⟨_, _, rfl, .some (by omega) (EarE.some_ he hL (by omega) (by omega) hE hx (by omega) (by omega) (hfe.1 (by omega)))⟩, rfl⟩ | exact ⟨_, H, resV rfl (.cons rfl (.cons rfl .nil)), Sub.autoR, ⟨_, _, rfl, .none (by omega) (EarE.none_ he hL (by omega) (by omega) hE (by rw [List.length_cons]; omega))⟩, rfl⟩
        · refine sr_rd (x_pick_f rfl rfl rfl) ?_
          refine sr_nil ?_
          refine aw_kp [0, 1, 2, 3, 8, 9, 27] ?_
          refine aw_false rfl ?_
          refine aw_skip ?_
          show AW _ _ _ _ _ _ _
          refine aw_join (ι := Unit) (fun _ => True) (fun _ => [(0, .pointer (some ⟨q, 0, none⟩)), (1, .int .i64 (max from_ now)), (2, .int .i64 long), (3, .int .i64 w), (8, .int .i64 0), (9, .int .i64 0)]) (fun _ => H) ?_ ?_
          · refine aw_seq_region ?_
            refine sr_mv ?_
            refine sr_mv ?_
            refine sr_rd (x_nilCheck rfl) ?_
            refine sr_rd (x_fieldAddr fd36_1 rfl) ?_
            refine sr_rd (x_load ag2 rfl (cells_get (Cells.mono hc Sub.autoR) 1 rfl)) ?_
            refine sr_c (x_lt rfl rfl) (fun h5 => ?_) (fun h5 => ?_)
            · refine sr_nil ?_
              refine aw_kp [0, 1, 2, 3, 8, 9, 33] ?_
              refine aw_true rfl ?_
              refine aw_region ?_
              refine sr_mv ?_
              refine sr_rd (x_nilCheck rfl) ?_
              refine sr_rd (x_fieldAddr fd36_1 rfl) ?_
              refine sr_rd (x_load ag2 rfl (cells_get (Cells.mono hc Sub.autoR) 1 rfl)) ?_
              refine sr_as ?_
              refine sr_nil ?_
              show ∃ s', _ ∧ _ ∧ _
              exact ⟨(), trivial, (by first | (rw [Int.max_eq_left (by omega)]; exact KeepF.auto) | (rw [Int.max_eq_right (by omega)]; exact KeepF.auto)), Sub.autoP⟩
            · refine sr_nil ?_
              refine aw_kp [0, 1, 2, 3, 8, 9, 33] ?_
              refine aw_false rfl ?_
              refine aw_skip ?_
              show ∃ s', _ ∧ _ ∧ _
              exact ⟨(), trivial, (by first | (rw [Int.max_eq_left (by omega)]; exact KeepF.auto) | (rw [Int.max_eq_right (by omega)]; exact KeepF.auto)), Sub.autoP⟩
          · intro _ _
            refine aw_seq_region ?_
            refine sr_mv ?_
            refine sr_new rfl (wtd_none rfl) rfl (x_buildSlice Try.underlying87 sz2 zr2 rfl rfl rfl rfl Parts.auto Fill.auto) ?_
            intro r5_1 hr5_1 gr5_1
            refine sr_mv ?_
            refine sr_d rfl (wtd_none rfl) rfl (opS_call rfl rfl rfl rfl cl92 (qedges_s q free now a cap L ver _ (Cells.mono hc Sub.autoR) (hs.mono Sub.autoR) hL hfr hll hnow)) ?_
            rintro _ _ ⟨e, ae, ce, Ee, rfl, he, hel, Ve, rfl⟩
            have hse0 := Ve.slv' (W0 := W0) (fun _ => rfl) rfl (Sub.refl _)
            refine sr_d rfl (wtd_none rfl) rfl (opS_append (G := Ee ++ H) (N := e.flatMap iC) (m := e.length) Try.underlying87 sz2 zr2 rfl by2 rfl rfl (OwnVec.mk (size := 1) (e := 2) (r := r5_1) (n := 1) (cap := 1) (L := [.int .i64 (max from_ now)]) (post := []) rfl rfl (by decide) (by decide)) Sub.autoP (((hse0.mono Sub.autoE).flat (fun _ => rfl) (by omega))) (flat_len (n := 1) (enc := iC) (fun _ => rfl) e) (all_flat (fun _ => rfl) e) (by omega) (by omega)) ?_
            rintro v42 _ ⟨E42, hV42, rfl⟩
            obtain ⟨aa, ca, rfl⟩ := hV42.isSl
            have Va := all_vec hV42
            have hsa := Va.slv' (W0 := W0) (fun _ => rfl) rfl (Sub.refl _)
            have hal := hsa.le
            have hac := hsa.capb
            rw [List.length_cons] at hal
            refine sr_as ?_
            refine sr_nil ?_
            refine aw_kp [0, 1, 2, 3, 8, 9, 10] ?_
            refine aw_seq ?_
            refine aw_seq_region ?_
            refine sr_as ?_
            refine sr_nil ?_
            refine aw_kp [0, 1, 2, 3, 8, 9, 10, 11] ?_
            refine aw_block ?_
            refine aw_loop (ι := Nat) (fun k => k ≤ e.length + 1 ∧ EarE (atP free L) long w (max from_ now) ((max from_ now) :: e) k) (fun k => [(0, .pointer (some ⟨q, 0, none⟩)), (1, .int .i64 (max from_ now)), (2, .int .i64 long), (3, .int .i64 w), (8, .int .i64 0), (9, .int .i64 0), (10, .slice aa (1 + e.length) ca), (11, .int .i64 k)]) (fun _ => E42 ++ H) (fun k => e.length + 1 - k) 0 (⟨Nat.zero_le _, fun j p h => by omega⟩) KeepF.auto Sub.autoP ?_
            intro k hk9
            obtain ⟨hk, hE⟩ := hk9
            refine aw_seq ?_
            refine aw_seq_region ?_
            refine sr_mv ?_
            refine sr_mv ?_
            refine sr_rd (x_lenSlice Try.underlying87 rfl) ?_
            refine sr_c (x_lt rfl rfl) (fun h6 => ?_) (fun h6 => ?_)
            · refine sr_nil ?_
              refine aw_kp [0, 1, 2, 3, 8, 9, 10, 11, 43, 44, 45, 46] ?_
              refine aw_true rfl ?_
              refine aw_skip ?_
              show AW _ _ _ _ _ _ _
              refine aw_seq ?_
              refine aw_block ?_
              refine aw_seq ?_
              refine aw_seq_region ?_
              obtain ⟨x, hx⟩ := get_ex (show k < ((max from_ now) :: e).length by rw [List.length_cons]; omega)
              obtain ⟨bx, ox, hax, hcx⟩ := hsa.at_ _ _ hx
              refine sr_mv ?_
              refine sr_mv ?_
              refine sr_rd (x_indexAddrN (k) Try.underlying87 sz2 rfl hax rfl (by omega) (by omega)) ?_
              refine sr_rd (x_load ag2 rfl (Cells.mono hcx Sub.autoE)) ?_
              refine sr_mv ?_
              refine sr_c (x_lt rfl rfl) (fun h7 => ?_) (fun h7 => ?_)
              · refine sr_mv ?_
                refine sr_sk ?_
                refine sr_sk ?_
                refine sr_sk ?_
                refine sr_sk ?_
                refine sr_sk ?_
                refine sr_rd (x_pick_t rfl rfl rfl) ?_
                refine sr_nil ?_
                refine aw_kp [0, 1, 2, 3, 8, 9, 10, 11, 43, 44, 45, 46, 49, 50, 51, 52, 53, 54, 55, 56, 57, 58, 59, 60, 61] ?_
                refine aw_true rfl ?_
                refine aw_exit ?_
                show AW _ _ _ _ _ _ _
                refine aw_region ?_
                refine sr_mv ?_
                refine sr_rd (x_add' rfl rfl (i64w (by omega) (by omega))) ?_
                refine sr_as ?_
                refine sr_nil ?_
                show ∃ s', _ ∧ _ ∧ _ ∧ _
                first | exact ⟨k + 1, ⟨by omega, hE.step hx (by first | exact .inl (by omega) | exact .inr (.inl (by omega)) | exact .inr (.inr (mt hfe.2 (by omega))))⟩, by omega, KeepF.auto, Sub.autoD⟩
              · refine sr_mv ?_
                refine sr_ry (x_move rfl) ?_
                refine sr_ry (x_move rfl) ?_
                refine sr_ry (x_indexAddrN (k) Try.underlying87 sz2 rfl hax rfl (by omega) (by omega)) ?_
                refine sr_ry (x_load ag2 rfl (Cells.mono hcx Sub.autoE)) ?_
                refine sr_cy (x_gt rfl rfl) (fun h8 => ?_) (fun h8 => ?_)
                · refine sr_rd (x_pick_f rfl rfl rfl) ?_
                  refine sr_nil ?_
                  refine aw_kp [0, 1, 2, 3, 8, 9, 10, 11, 43, 44, 45, 46, 49, 50, 51, 52, 53, 54, 55, 56, 57, 58, 59, 60, 61] ?_
                  refine aw_true rfl ?_
                  refine aw_exit ?_
                  show AW _ _ _ _ _ _ _
                  refine aw_region ?_
                  refine sr_mv ?_
                  refine sr_rd (x_add' rfl rfl (i64w (by omega) (by omega))) ?_
                  refine sr_as ?_
                  refine sr_nil ?_
                  show ∃ s', _ ∧ _ ∧ _ ∧ _
                  first | exact ⟨k + 1, ⟨by omega, hE.step hx (by first | exact .inl (by omega) | exact .inr (.inl (by omega)) | exact .inr (.inr (mt hfe.2 (by omega))))⟩, by omega, KeepF.auto, Sub.autoD⟩
                · refine sr_rd (x_pick_f rfl rfl rfl) ?_
                  refine sr_nil ?_
                  refine aw_kp [0, 1, 2, 3, 8, 9, 10, 11, 43, 44, 45, 46, 49, 50, 51, 52, 53, 54, 55, 56, 57, 58, 59, 60, 61] ?_
                  refine aw_false rfl ?_
                  refine aw_skip ?_
                  show AW _ _ _ _ _ _ _
                  refine aw_seq_dr ⟨_, 17, 84, [[], [], [], [1, 2], [1, 2, 3], [], [], [5, 6], [5, 6, 7], [], [5, 6, 7, 8, 9], [0, 1, 2, 3, 4, 5, 6, 7, 8, 9, 10], [0, 1, 2, 3, 4, 5, 6, 7, 8, 9, 10, 11], [0, 1, 2, 3, 4, 5, 6, 7, 8, 9, 10, 11, 12], [0, 1, 2, 3, 4, 5, 6, 7, 8, 9, 10, 11, 12], [0, 1, 2, 3, 4, 5, 6, 7, 8, 9, 10, 11, 12, 13], [0, 1, 2, 3, 4, 5, 6, 7, 8, 9, 10, 11, 12, 13, 14, 15]], [.light, .light, .light, .light, .mem, .light, .light, .light, .mem, .light, .light, .eff, .light, .light, .light, .light, .light]⟩ (by kernel_rfl) rfl rfl mix ?_
                  refine dr_l (x_move rfl) ?_
                  refine dr_l (x_move rfl) ?_
                  refine dr_l (x_move rfl) ?_
                  refine dr_l (x_indexAddrN (k) Try.underlying87 sz2 rfl hax rfl (by omega) (by omega)) ?_
                  refine dr_mem0 rfl rfl (wtd_none rfl) (x_load ag2 rfl (Cells.mono hcx Sub.autoE)) ?_
                  refine dr_l (x_move rfl) ?_
                  refine dr_l (x_move rfl) ?_
                  refine dr_l (x_indexAddrN (k) Try.underlying87 sz2 rfl hax rfl (by omega) (by omega)) ?_
                  refine dr_mem0 rfl rfl (wtd_none rfl) (x_load ag2 rfl (Cells.mono hcx Sub.autoE)) ?_
                  refine dr_l (x_move rfl) ?_
                  refine dr_l (x_add' rfl rfl (i64w (by omega) (by omega))) ?_
                  refine dr_effC rfl (V := []) rfl (L' := []) (clear_all rfl) rfl (wtd_none rfl) rfl rfl rfl rfl cl33 (qbounds_s q free now a cap L ver _ (Cells.mono hc Sub.autoR) (hs.mono Sub.autoR) hL hfr hll hnow x (x + long)) ?_
                  rintro _ _ ⟨⟨m, M, rfl, hB, -⟩, rfl⟩
                  rw [show max x now = x by omega] at hB
                  have hmm := (hB (by omega)).1
                  have hfe := hmm.feas (w := w) (by omega)
                  refine dr_l (x_move rfl) ?_
                  refine dr_l (x_extract rfl rfl) ?_
                  refine dr_l (x_extract rfl rfl) ?_
                  refine dr_l (x_assign rfl) ?_
                  refine dr_l (x_assign rfl) ?_
                  refine dr_nil0 ?_
                  refine aw_kp [0, 1, 2, 3, 8, 9, 10, 11, 12, 43, 44, 45, 46, 49, 50, 51, 52, 53, 54, 55, 56, 57, 58, 59, 60, 61, 62, 63, 64, 65, 66, 67, 68, 69, 70, 71, 72, 73, 74, 75, 76] ?_
                  refine aw_seq_region ?_
                  refine sr_mv ?_
                  refine sr_mv ?_
                  refine sr_c (x_ge rfl rfl) (fun h9 => ?_) (fun h9 => ?_)
                  · refine sr_nil ?_
                    refine aw_kp [0, 1, 2, 3, 8, 9, 10, 11, 12, 43, 44, 45, 46, 49, 50, 51, 52, 53, 54, 55, 56, 57, 58, 59, 60, 61, 62, 63, 64, 65, 66, 67, 68, 69, 70, 71, 72, 73, 74, 75, 76, 77, 78, 79] ?_
                    refine aw_true rfl ?_
                    refine aw_seq_region ?_
                    refine sr_mv ?_
                    refine sr_mv ?_
                    refine sr_rd (x_indexAddrN (k) Try.underlying87 sz2 rfl hax rfl (by omega) (by omega)) ?_
                    refine sr_rd (x_load ag2 rfl (Cells.mono hcx Sub.autoE)) ?_
                    refine sr_as ?_
                    refine sr_as ?_
                    refine sr_nil ?_
                    refine aw_kp [0, 1, 2, 3, 8, 9, 10, 11, 12, 43, 44, 45, 46, 49, 50, 51, 52, 53, 54, 55, 56, 57, 58, 59, 60, 61, 62, 63, 64, 65, 66, 67, 68, 69, 70, 71, 72, 73, 74, 75, 76, 77, 78, 79, 80, 81, 82, 83] ?_
                    refine aw_ret ?_
                    show ∃ v H2, ResV _ _ _ _ _ _ v ∧ Sub H2 _ ∧ _
                    first | exact ⟨_, H, resV rfl (.cons rfl (.cons rfl .nil)), Sub.autoR, ⟨_, _, rfl, .arg (by omega)⟩, rfl⟩ | exact ⟨_, H, resV rfl (.cons rfl (.cons rfl .nil)), Sub.autoR, ⟨_, _, rfl, .some (by omega) (EarE.some_ he hL (by omega) (by omega) hE hx (by omega) (by omega) (hfe.1 (by omega)))⟩, rfl⟩ | exact ⟨_, H, resV rfl (.cons rfl (.cons rfl .nil)), Sub.autoR, ⟨_, _, rfl, .none (by omega) (EarE.none_ he hL (by omega) (by omega) hE (by rw [List.length_cons]; omega))⟩, rfl⟩
                  · refine sr_nil ?_
                    refine aw_kp [0, 1, 2, 3, 8, 9, 10, 11, 12, 43, 44, 45, 46, 49, 50, 51, 52, 53, 54, 55, 56, 57, 58, 59, 60, 61, 62, 63, 64, 65, 66, 67, 68, 69, 70, 71, 72, 73, 74, 75, 76, 77, 78, 79] ?_
                    refine aw_false rfl ?_
                    refine aw_skip ?_
                    show AW _ _ _ _ _ _ _
                    refine aw_region ?_
                    refine sr_mv ?_
                    refine sr_rd (x_add' rfl rfl (i64w (by omega) (by omega))) ?_
                    refine sr_as ?_
                    refine sr_nil ?_
                    show ∃ s', _ ∧ _ ∧ _ ∧ _
                    first | exact ⟨k + 1, ⟨by omega, hE.step hx (by first | exact .inl (by omega) | exact .inr (.inl (by omega)) | exact .inr (.inr (mt hfe.2 (by omega))))⟩, by omega, KeepF.auto, Sub.autoD⟩
            · refine sr_nil ?_
              refine aw_kp [0, 1, 2, 3, 8, 9, 10, 11, 43, 44, 45, 46] ?_
              refine aw_false rfl ?_
              refine aw_exit ?_
              show AW _ _ _ _ _ _ _
              refine aw_seq_region ?_
              refine sr_as ?_
              refine sr_as ?_
              refine sr_nil ?_
              refine aw_kp [8, 9] ?_
              refine aw_ret ?_
              show ∃ v H2, ResV _ _ _ _ _ _ v ∧ Sub H2 _ ∧ _
              first | exact ⟨_, H, resV rfl (.cons rfl (.cons rfl .nil)), Sub.autoR, ⟨_, _, rfl, .arg (by omega)⟩, rfl⟩ | exact ⟨_, H, resV rfl (.cons rfl (.cons rfl .nil)), Sub.autoR, ⟨_, _, rfl, .some (by omega) (EarE.some_ he hL (by omega) (by omega) hE hx (by omega) (by omega) (hfe.1 (by omega)))⟩, rfl⟩ | exact ⟨_, H, resV rfl (.cons rfl (.cons rfl .nil)), Sub.autoR, ⟨_, _, rfl, .none (by omega) (EarE.none_ he hL (by omega) (by omega) hE (by rw [List.length_cons]; omega))⟩, rfl⟩
set_option maxRecDepth 100000 in
set_option maxHeartbeats 4000000 in
theorem qadd_s (q : Nat) (free now : Int) (a : Option Addr) (cap : Nat) (L : List PSpan) (ver : Int) (E G : SHeap) (V : OwnVec 3 55 (.slice a L.length cap) L.length (L.flatMap PSpan.cells) E) (hL : ∀ s ∈ L, SpOk s) (hfr : 0 ≤ free ∧ free ≤ 64) (hll : L.length ≤ 1000) (hnow : 0 ≤ now ∧ now ≤ 1099511627776) (hrng : ∀ t, now ≤ t → 0 ≤ atP free L t ∧ atP free L t ≤ 64) (hv : 0 ≤ ver ∧ ver ≤ 1000000) (from_ to_ d : Int) : AC Try.prog W0 86 [.pointer (some ⟨q, 0, none⟩), .int .i64 from_, .int .i64 to_, .int .i64 d] (plB q free now (.slice a L.length cap) ver :: (E ++ G)) (fun v H' => ∃ (e : Int) (ch : Bool) (L' : List PSpan) (a' : Option Addr) (cap' : Nat) (E' : SHeap), v = .int .i64 e ∧ AddC (atP free L) now from_ to_ d e ch ∧ L' = (if ch = true then L ++ [⟨max from_ now, to_, d⟩] else L) ∧ OwnVec 3 55 (.slice a' L'.length cap') L'.length (L'.flatMap PSpan.cells) E' ∧ H' = plB q free now (.slice a' L'.length cap') (if ch = true then ver + 1 else ver) :: (E' ++ G)) := by
  have hs : SlV W0 E 3 PSpan.cells a cap L := V.slv' (fun _ => rfl) rfl (Sub.refl _)
  have hle := hs.le
  have hcb := hs.capb
  refine ac_of Try.func86 rfl rfl rfl ?_
  refine aw_seq_region ?_
  refine sr_as ?_
  refine sr_nil ?_
  refine aw_kp [0, 1, 2, 3, 8] ?_
  refine aw_seq ?_
  refine aw_seq_region ?_
  refine sr_mv ?_
  refine sr_mv ?_
  refine sr_c (x_ge rfl rfl) (fun h1 => ?_) (fun h1 => ?_)
  · refine sr_mv ?_
    refine sr_sk ?_
    refine sr_sk ?_
    refine sr_rd (x_pick_t rfl rfl rfl) ?_
    refine sr_mv ?_
    refine sr_sk ?_
    refine sr_sk ?_
    refine sr_rd (x_pick_t rfl rfl rfl) ?_
    refine sr_mv ?_
    refine sr_sk ?_
    refine sr_sk ?_
    refine sr_rd (x_pick_t rfl rfl rfl) ?_
    refine sr_nil ?_
    refine aw_kp [0, 1, 2, 3, 8, 25] ?_
    refine aw_true rfl ?_
    refine aw_seq_region ?_
    refine sr_as ?_
    refine sr_nil ?_
    refine aw_kp [0, 1, 2, 3, 8] ?_
    refine aw_ret ?_
    show ∃ v H2, ResV _ _ _ _ _ _ v ∧ Sub H2 _ ∧ _
    first | exact ⟨_, (plB q free now (.slice a L.length cap) ver :: (E ++ G)), resV rfl (.cons rfl .nil), Sub.autoD, 1, false, L, a, cap, E, rfl, .arg (by omega), rfl, V, rfl⟩ | exact ⟨_, (plB q free now (.slice a L.length cap) ver :: (E ++ G)), resV rfl (.cons rfl .nil), Sub.autoD, 0, false, L, a, cap, E, rfl, .zero (by omega) (by omega), rfl, V, rfl⟩ | exact ⟨_, (plB q free now (.slice a L.length cap) ver :: (E ++ G)), resV rfl (.cons rfl .nil), Sub.autoD, 5, false, L, a, cap, E, rfl, .range (by omega) (by omega) (rngBoth hm hM (by omega) (by omega)), rfl, V, rfl⟩ | exact ⟨_, plB q free now (.slice a70 (L.length + 1) cap70) (ver + 1) :: (E70 ++ G), resV rfl (.cons rfl .nil), Sub.autoD, 0, true, L ++ [(⟨max from_ now, to_, d⟩ : PSpan)], a70, cap70, E70, rfl, .ok (by omega) (by omega) (okBoth hm hM (by omega) (by omega)), rfl, OwnVec.snocS hV70, (by rw [List.length_append]; rfl)⟩
  · refine sr_mv ?_
    refine sr_ry (x_move rfl) ?_
    refine sr_cy (x_gt rfl rfl) (fun h2 => ?_) (fun h2 => ?_)
    · refine sr_rd (x_pick_f rfl rfl rfl) ?_
      refine sr_mv ?_
      refine sr_sk ?_
      refine sr_sk ?_
      refine sr_rd (x_pick_t rfl rfl rfl) ?_
      refine sr_mv ?_
      refine sr_sk ?_
      refine sr_sk ?_
      refine sr_rd (x_pick_t rfl rfl rfl) ?_
      refine sr_nil ?_
      refine aw_kp [0, 1, 2, 3, 8, 25] ?_
      refine aw_true rfl ?_
      refine aw_seq_region ?_
      refine sr_as ?_
      refine sr_nil ?_
      refine aw_kp [0, 1, 2, 3, 8] ?_
      refine aw_ret ?_
      show ∃ v H2, ResV _ _ _ _ _ _ v ∧ Sub H2 _ ∧ _
      first | exact ⟨_, (plB q free now (.slice a L.length cap) ver :: (E ++ G)), resV rfl (.cons rfl .nil), Sub.autoD, 1, false, L, a, cap, E, rfl, .arg (by omega), rfl, V, rfl⟩ | exact ⟨_, (plB q free now (.slice a L.length cap) ver :: (E ++ G)), resV rfl (.cons rfl .nil), Sub.autoD, 0, false, L, a, cap, E, rfl, .zero (by omega) (by omega), rfl, V, rfl⟩ | exact ⟨_, (plB q free now (.slice a L.length cap) ver :: (E ++ G)), resV rfl (.cons rfl .nil), Sub.autoD, 5, false, L, a, cap, E, rfl, .range (by omega) (by omega) (rngBoth hm hM (by omega) (by omega)), rfl, V, rfl⟩ | exact ⟨_, plB q free now (.slice a70 (L.length + 1) cap70) (ver + 1) :: (E70 ++ G), resV rfl (.cons rfl .nil), Sub.autoD, 0, true, L ++ [(⟨max from_ now, to_, d⟩ : PSpan)], a70, cap70, E70, rfl, .ok (by omega) (by omega) (okBoth hm hM (by omega) (by omega)), rfl, OwnVec.snocS hV70, (by rw [List.length_append]; rfl)⟩
    · refine sr_rd (x_pick_f rfl rfl rfl) ?_
      refine sr_mv ?_
      refine sr_ry (x_move rfl) ?_
      refine sr_cy (x_lt rfl rfl) (fun h3 => ?_) (fun h3 => ?_)
      · refine sr_rd (x_pick_f rfl rfl rfl) ?_
        refine sr_mv ?_
        refine sr_sk ?_
        refine sr_sk ?_
        refine sr_rd (x_pick_t rfl rfl rfl) ?_
        refine sr_nil ?_
        refine aw_kp [0, 1, 2, 3, 8, 25] ?_
        refine aw_true rfl ?_
        refine aw_seq_region ?_
        refine sr_as ?_
        refine sr_nil ?_
        refine aw_kp [0, 1, 2, 3, 8] ?_
        refine aw_ret ?_
        show ∃ v H2, ResV _ _ _ _ _ _ v ∧ Sub H2 _ ∧ _
        first | exact ⟨_, (plB q free now (.slice a L.length cap) ver :: (E ++ G)), resV rfl (.cons rfl .nil), Sub.autoD, 1, false, L, a, cap, E, rfl, .arg (by omega), rfl, V, rfl⟩ | exact ⟨_, (plB q free now (.slice a L.length cap) ver :: (E ++ G)), resV rfl (.cons rfl .nil), Sub.autoD, 0, false, L, a, cap, E, rfl, .zero (by omega) (by omega), rfl, V, rfl⟩ | exact ⟨_, (plB q free now (.slice a L.length cap) ver :: (E ++ G)), resV rfl (.cons rfl .nil), Sub.autoD, 5, false, L, a, cap, E, rfl, .range (by omega) (by omega) (rngBoth hm hM (by omega) (by omega)), rfl, V, rfl⟩ | exact ⟨_, plB q free now (.slice a70 (L.length + 1) cap70) (ver + 1) :: (E70 ++ G), resV rfl (.cons rfl .nil), Sub.autoD, 0, true, L ++ [(⟨max from_ now, to_, d⟩ : PSpan)], a70, cap70, E70, rfl, .ok (by omega) (by omega) (okBoth hm hM (by omega) (by omega)), rfl, OwnVec.snocS hV70, (by rw [List.length_append]; rfl)⟩
      · refine sr_rd (x_pick_f rfl rfl rfl) ?_
        refine sr_mv ?_
        refine sr_ry (x_move rfl) ?_
        refine sr_cy (x_gt rfl rfl) (fun h4 => ?_) (fun h4 => ?_)
        · refine sr_rd (x_pick_f rfl rfl rfl) ?_
          refine sr_nil ?_
          refine aw_kp [0, 1, 2, 3, 8, 25] ?_
          refine aw_true rfl ?_
          refine aw_seq_region ?_
          refine sr_as ?_
          refine sr_nil ?_
          refine aw_kp [0, 1, 2, 3, 8] ?_
          refine aw_ret ?_
          show ∃ v H2, ResV _ _ _ _ _ _ v ∧ Sub H2 _ ∧ _
          first | exact ⟨_, (plB q free now (.slice a L.length cap) ver :: (E ++ G)), resV rfl (.cons rfl .nil), Sub.autoD, 1, false, L, a, cap, E, rfl, .arg (by omega), rfl, V, rfl⟩ | exact ⟨_, (plB q free now (.slice a L.length cap) ver :: (E ++ G)), resV rfl (.cons rfl .nil), Sub.autoD, 0, false, L, a, cap, E, rfl, .zero (by omega) (by omega), rfl, V, rfl⟩ | exact ⟨_, (plB q free now (.slice a L.length cap) ver :: (E ++ G)), resV rfl (.cons rfl .nil), Sub.autoD, 5, false, L, a, cap, E, rfl, .range (by omega) (by omega) (rngBoth hm hM (by omega) (by omega)), rfl, V, rfl⟩ | exact ⟨_, plB q free now (.slice a70 (L.length + 1) cap70) (ver + 1) :: (E70 ++ G), resV rfl (.cons rfl .nil), Sub.autoD, 0, true, L ++ [(⟨max from_ now, to_, d⟩ : PSpan)], a70, cap70, E70, rfl, .ok (by omega) (by omega) (okBoth hm hM (by omega) (by omega)), rfl, OwnVec.snocS hV70, (by rw [List.length_append]; rfl)⟩
        · refine sr_rd (x_pick_f rfl rfl rfl) ?_
          refine sr_nil ?_
          refine aw_kp [0, 1, 2, 3, 8, 25] ?_
          refine aw_false rfl ?_
          refine aw_skip ?_
          show AW _ _ _ _ _ _ _
          refine aw_join (ι := Unit) (fun _ => True) (fun _ => [(0, .pointer (some ⟨q, 0, none⟩)), (1, .int .i64 (max from_ now)), (2, .int .i64 to_), (3, .int .i64 d), (8, .int .i64 0)]) (fun _ => (plB q free now (.slice a L.length cap) ver :: (E ++ G))) ?_ ?_
          · refine aw_seq_region ?_
            refine sr_mv ?_
            refine sr_mv ?_
            refine sr_rd (x_nilCheck rfl) ?_
            refine sr_rd (x_fieldAddr fd36_1 rfl) ?_
            refine sr_rd (x_load ag2 rfl (cells_ext mauto Ext.auto)) ?_
            refine sr_c (x_lt rfl rfl) (fun h5 => ?_) (fun h5 => ?_)
            · refine sr_nil ?_
              refine aw_kp [0, 1, 2, 3, 8, 31] ?_
              refine aw_true rfl ?_
              refine aw_region ?_
              refine sr_mv ?_
              refine sr_rd (x_nilCheck rfl) ?_
              refine sr_rd (x_fieldAddr fd36_1 rfl) ?_
              refine sr_rd (x_load ag2 rfl (cells_ext mauto Ext.auto)) ?_
              refine sr_as ?_
              refine sr_nil ?_
              show ∃ s', _ ∧ _ ∧ _
              exact ⟨(), trivial, (by first | (rw [Int.max_eq_left (by omega)]; exact KeepF.auto) | (rw [Int.max_eq_right (by omega)]; exact KeepF.auto)), Sub.autoP⟩
            · refine sr_nil ?_
              refine aw_kp [0, 1, 2, 3, 8, 31] ?_
              refine aw_false rfl ?_
              refine aw_skip ?_
              show ∃ s', _ ∧ _ ∧ _
              exact ⟨(), trivial, (by first | (rw [Int.max_eq_left (by omega)]; exact KeepF.auto) | (rw [Int.max_eq_right (by omega)]; exact KeepF.auto)), Sub.autoP⟩
          · intro _ _
            refine aw_seq ?_
            refine aw_seq_region ?_
            refine sr_mv ?_
            refine sr_mv ?_
            refine sr_c (x_ge rfl rfl) (fun h6 => ?_) (fun h6 => ?_)
            · refine sr_mv ?_
              refine sr_sk ?_
              refine sr_sk ?_
              refine sr_rd (x_pick_t rfl rfl rfl) ?_
              refine sr_nil ?_
              refine aw_kp [0, 1, 2, 3, 8, 42] ?_
              refine aw_true rfl ?_
              refine aw_seq_region ?_
              refine sr_as ?_
              refine sr_nil ?_
              refine aw_kp [0, 1, 2, 3, 8] ?_
              refine aw_ret ?_
              show ∃ v H2, ResV _ _ _ _ _ _ v ∧ Sub H2 _ ∧ _
              first | exact ⟨_, (plB q free now (.slice a L.length cap) ver :: (E ++ G)), resV rfl (.cons rfl .nil), Sub.autoD, 1, false, L, a, cap, E, rfl, .arg (by omega), rfl, V, rfl⟩ | exact ⟨_, (plB q free now (.slice a L.length cap) ver :: (E ++ G)), resV rfl (.cons rfl .nil), Sub.autoD, 0, false, L, a, cap, E, rfl, .zero (by omega) (by omega), rfl, V, rfl⟩ | exact ⟨_, (plB q free now (.slice a L.length cap) ver :: (E ++ G)), resV rfl (.cons rfl .nil), Sub.autoD, 5, false, L, a, cap, E, rfl, .range (by omega) (by omega) (rngBoth hm hM (by omega) (by omega)), rfl, V, rfl⟩ | exact ⟨_, plB q free now (.slice a70 (L.length + 1) cap70) (ver + 1) :: (E70 ++ G), resV rfl (.cons rfl .nil), Sub.autoD, 0, true, L ++ [(⟨max from_ now, to_, d⟩ : PSpan)], a70, cap70, E70, rfl, .ok (by omega) (by omega) (okBoth hm hM (by omega) (by omega)), rfl, OwnVec.snocS hV70, (by rw [List.length_append]; rfl)⟩
            · refine sr_mv ?_
              refine sr_ry (x_move rfl) ?_
              refine sr_cy (x_eq rfl rfl) (fun h7 => ?_) (fun h7 => ?_)
              · refine sr_rd (x_pick_f rfl rfl rfl) ?_
                refine sr_nil ?_
                refine aw_kp [0, 1, 2, 3, 8, 42] ?_
                refine aw_true rfl ?_
                refine aw_seq_region ?_
                refine sr_as ?_
                refine sr_nil ?_
                refine aw_kp [0, 1, 2, 3, 8] ?_
                refine aw_ret ?_
                show ∃ v H2, ResV _ _ _ _ _ _ v ∧ Sub H2 _ ∧ _
                first | exact ⟨_, (plB q free now (.slice a L.length cap) ver :: (E ++ G)), resV rfl (.cons rfl .nil), Sub.autoD, 1, false, L, a, cap, E, rfl, .arg (by omega), rfl, V, rfl⟩ | exact ⟨_, (plB q free now (.slice a L.length cap) ver :: (E ++ G)), resV rfl (.cons rfl .nil), Sub.autoD, 0, false, L, a, cap, E, rfl, .zero (by omega) (by omega), rfl, V, rfl⟩ | exact ⟨_, (plB q free now (.slice a L.length cap) ver :: (E ++ G)), resV rfl (.cons rfl .nil), Sub.autoD, 5, false, L, a, cap, E, rfl, .range (by omega) (by omega) (rngBoth hm hM (by omega) (by omega)), rfl, V, rfl⟩ | exact ⟨_, plB q free now (.slice a70 (L.length + 1) cap70) (ver + 1) :: (E70 ++ G), resV rfl (.cons rfl .nil), Sub.autoD, 0, true, L ++ [(⟨max from_ now, to_, d⟩ : PSpan)], a70, cap70, E70, rfl, .ok (by omega) (by omega) (okBoth hm hM (by omega) (by omega)), rfl, OwnVec.snocS hV70, (by rw [List.length_append]; rfl)⟩
              · refine sr_rd (x_pick_f rfl rfl rfl) ?_
                refine sr_nil ?_
                refine aw_kp [0, 1, 2, 3, 8, 42] ?_
                refine aw_false rfl ?_
                refine aw_skip ?_
                show AW _ _ _ _ _ _ _
                refine aw_seq_region ?_
                refine sr_mv ?_
                refine sr_mv ?_
                refine sr_mv ?_
                refine sr_d rfl (wtd_none rfl) rfl (opS_call rfl rfl rfl rfl cl33 (qbounds_s q free now a cap L ver _ (cells_ext mauto Ext.auto) (hs.mono Sub.autoE) hL hfr hll hnow (max from_ now) to_)) ?_
                rintro _ H9 ⟨⟨m, M, rfl, hB, -⟩, rfl⟩
                rw [show max (max from_ now) now = max from_ now by omega] at hB
                obtain ⟨hm, hM⟩ := hB (by omega)
                have hmb := minOn_bd hm (fun t q => hrng t (by omega))
                have hMb := maxOn_bd hM (fun t q => hrng t (by omega))
                refine sr_mv ?_
                refine sr_rd (x_extract rfl rfl) ?_
                refine sr_rd (x_extract rfl rfl) ?_
                refine sr_as ?_
                refine sr_as ?_
                refine sr_nil ?_
                refine aw_kp [0, 1, 2, 3, 8, 9, 10] ?_
                refine aw_seq ?_
                refine aw_seq_region ?_
                refine sr_mv ?_
                refine sr_mv ?_
                refine sr_rd (x_add' rfl rfl (i64w (by omega) (by omega))) ?_
                refine sr_c (x_lt rfl rfl) (fun h8 => ?_) (fun h8 => ?_)
                · refine sr_mv ?_
                  refine sr_sk ?_
                  refine sr_sk ?_
                  refine sr_sk ?_
                  refine sr_sk ?_
                  refine sr_rd (x_pick_t rfl rfl rfl) ?_
                  refine sr_nil ?_
                  refine aw_kp [0, 1, 2, 3, 8, 59] ?_
                  refine aw_true rfl ?_
                  refine aw_seq_region ?_
                  refine sr_as ?_
                  refine sr_nil ?_
                  refine aw_kp [0, 1, 2, 3, 8] ?_
                  refine aw_ret ?_
                  show ∃ v H2, ResV _ _ _ _ _ _ v ∧ Sub H2 _ ∧ _
                  first | exact ⟨_, (plB q free now (.slice a L.length cap) ver :: (E ++ G)), resV rfl (.cons rfl .nil), Sub.autoD, 1, false, L, a, cap, E, rfl, .arg (by omega), rfl, V, rfl⟩ | exact ⟨_, (plB q free now (.slice a L.length cap) ver :: (E ++ G)), resV rfl (.cons rfl .nil), Sub.autoD, 0, false, L, a, cap, E, rfl, .zero (by omega) (by omega), rfl, V, rfl⟩ | exact ⟨_, (plB q free now (.slice a L.length cap) ver :: (E ++ G)), resV rfl (.cons rfl .nil), Sub.autoD, 5, false, L, a, cap, E, rfl, .range (by omega) (by omega) (rngBoth hm hM (by omega) (by omega)), rfl, V, rfl⟩ | exact ⟨_, plB q free now (.slice a70 (L.length + 1) cap70) (ver + 1) :: (E70 ++ G), resV rfl (.cons rfl .nil), Sub.autoD, 0, true, L ++ [(⟨max from_ now, to_, d⟩ : PSpan)], a70, cap70, E70, rfl, .ok (by omega) (by omega) (okBoth hm hM (by omega) (by omega)), rfl, OwnVec.snocS hV70, (by rw [List.length_append]; rfl)⟩
                · refine sr_mv ?_
                  refine sr_ry (x_move rfl) ?_
                  refine sr_ry (x_move rfl) ?_
                  refine sr_ry (x_add' rfl rfl (i64w (by omega) (by omega))) ?_
                  refine sr_cy (x_gt rfl rfl) (fun h9 => ?_) (fun h9 => ?_)
                  · refine sr_rd (x_pick_f rfl rfl rfl) ?_
                    refine sr_nil ?_
                    refine aw_kp [0, 1, 2, 3, 8, 59] ?_
                    refine aw_true rfl ?_
                    refine aw_seq_region ?_
                    refine sr_as ?_
                    refine sr_nil ?_
                    refine aw_kp [0, 1, 2, 3, 8] ?_
                    refine aw_ret ?_
                    show ∃ v H2, ResV _ _ _ _ _ _ v ∧ Sub H2 _ ∧ _
                    first | exact ⟨_, (plB q free now (.slice a L.length cap) ver :: (E ++ G)), resV rfl (.cons rfl .nil), Sub.autoD, 1, false, L, a, cap, E, rfl, .arg (by omega), rfl, V, rfl⟩ | exact ⟨_, (plB q free now (.slice a L.length cap) ver :: (E ++ G)), resV rfl (.cons rfl .nil), Sub.autoD, 0, false, L, a, cap, E, rfl, .zero (by omega) (by omega), rfl, V, rfl⟩ | exact ⟨_, (plB q free now (.slice a L.length cap) ver :: (E ++ G)), resV rfl (.cons rfl .nil), Sub.autoD, 5, false, L, a, cap, E, rfl, .range (by omega) (by omega) (rngBoth hm hM (by omega) (by omega)), rfl, V, rfl⟩ | exact ⟨_, plB q free now (.slice a70 (L.length + 1) cap70) (ver + 1) :: (E70 ++ G), resV rfl (.cons rfl .nil), Sub.autoD, 0, true, L ++ [(⟨max from_ now, to_, d⟩ : PSpan)], a70, cap70, E70, rfl, .ok (by omega) (by omega) (okBoth hm hM (by omega) (by omega)), rfl, OwnVec.snocS hV70, (by rw [List.length_append]; rfl)⟩
                  · refine sr_rd (x_pick_f rfl rfl rfl) ?_
                    refine sr_nil ?_
                    refine aw_kp [0, 1, 2, 3, 8, 59] ?_
                    refine aw_false rfl ?_
                    refine aw_skip ?_
                    show AW _ _ _ _ _ _ _
                    refine aw_seq_region ?_
                    refine sr_mv ?_
                    refine sr_mv ?_
                    refine sr_rd (x_nilCheck rfl) ?_
                    refine sr_rd (x_fieldAddr fd36_2 rfl) ?_
                    refine sr_rd (x_load ag34 rfl (cells_ext mauto Ext.auto)) ?_
                    refine sr_mv ?_
                    refine sr_mv ?_
                    refine sr_mv ?_
                    refine sr_rd (x_build zr55 rfl fl55 Parts.auto Fill.auto) ?_
                    refine sr_new rfl (wtd_none rfl) rfl (x_buildSlice Try.underlying34 sz55 zr55 rfl rfl rfl rfl Parts.auto Fill.auto) ?_
                    intro r10_9 hr10_9 gr10_9
                    refine sr_d rfl (wtd_none rfl) rfl (opS_append (G := (r10_9, .cells (PSpan.cells (⟨max from_ now, to_, d⟩ : PSpan)).toArray 55 (0, 0)) :: plB q free now (.slice a L.length cap) ver :: G) (N := (PSpan.cells (⟨max from_ now, to_, d⟩ : PSpan))) (m := 1) Try.underlying34 sz55 zr55 rfl by55 rfl rfl V Sub.autoP (.inr ⟨_, _, rfl, (cells_ext mauto Ext.auto)⟩) (rfl) rfl (by omega) (by omega)) ?_
                    rintro v70 _ ⟨E70, hV70, rfl⟩
                    obtain ⟨a70, cap70, rfl⟩ := hV70.isSl
                    refine sr_rd (x_nilCheck rfl) ?_
                    refine sr_rd (x_fieldAddr fd36_2 rfl) ?_
                    refine sr_x0 rfl (wtd_none rfl) (x_store sz34 rfl rfl rfl rfl rfl Repl.auto Spl.auto) ?_
                    refine sr_nil ?_
                    refine aw_kp [0, 8] ?_
                    refine aw_seq_region ?_
                    refine sr_mv ?_
                    refine sr_mv ?_
                    refine sr_rd (x_nilCheck rfl) ?_
                    refine sr_rd (x_fieldAddr fd36_3 rfl) ?_
                    refine sr_rd (x_load ag3 rfl (cells_ext mauto Ext.auto)) ?_
                    refine sr_rd (x_add' rfl rfl (i64w (by omega) (by omega))) ?_
                    refine sr_rd (x_nilCheck rfl) ?_
                    refine sr_rd (x_fieldAddr fd36_3 rfl) ?_
                    refine sr_x0 rfl (wtd_none rfl) (x_store sz3 rfl rfl rfl rfl rfl Repl.auto Spl.auto) ?_
                    refine sr_nil ?_
                    refine aw_kp [8] ?_
                    refine aw_seq_region ?_
                    refine sr_as ?_
                    refine sr_nil ?_
                    refine aw_kp [8] ?_
                    refine aw_ret ?_
                    show ∃ v H2, ResV _ _ _ _ _ _ v ∧ Sub H2 _ ∧ _
                    first | exact ⟨_, (plB q free now (.slice a L.length cap) ver :: (E ++ G)), resV rfl (.cons rfl .nil), Sub.autoD, 1, false, L, a, cap, E, rfl, .arg (by omega), rfl, V, rfl⟩ | exact ⟨_, (plB q free now (.slice a L.length cap) ver :: (E ++ G)), resV rfl (.cons rfl .nil), Sub.autoD, 0, false, L, a, cap, E, rfl, .zero (by omega) (by omega), rfl, V, rfl⟩ | exact ⟨_, (plB q free now (.slice a L.length cap) ver :: (E ++ G)), resV rfl (.cons rfl .nil), Sub.autoD, 5, false, L, a, cap, E, rfl, .range (by omega) (by omega) (rngBoth hm hM (by omega) (by omega)), rfl, V, rfl⟩ | exact ⟨_, plB q free now (.slice a70 (L.length + 1) cap70) (ver + 1) :: (E70 ++ G), resV rfl (.cons rfl .nil), Sub.autoD, 0, true, L ++ [(⟨max from_ now, to_, d⟩ : PSpan)], a70, cap70, E70, rfl, .ok (by omega) (by omega) (okBoth hm hM (by omega) (by omega)), rfl, OwnVec.snocS hV70, (by rw [List.length_append]; rfl)⟩
end
end Go.Proofs.Ytjkojdjjooangaa
