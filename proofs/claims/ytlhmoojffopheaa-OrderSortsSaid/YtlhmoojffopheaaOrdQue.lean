/- Queues: what their functions come to, for any jobs. -/
import Derived.Test.YtlhmoojffopheaaOrd
import Derived.Test.YtlhmoojffopheaaSymEl
namespace Go.Proofs.Ytlhmoojffopheaa
open Go.Proofs.Ytlhmoojffopheaa.Sym
open Go.RowKit (Below)
set_option linter.unusedVariables false
set_option linter.unusedSimpArgs false
/-! ### queues: heaps, in plain Lean -/
@[reducible] def jz : Job := ⟨0, 0, 0, 0, 0, 0, 0, 0, 0, 0⟩
def gj (W : List Job) (k : Nat) : Job := W.getD k jz
theorem gj_get {W : List Job} {k : Nat} {x : Job} (h : W[k]? = some x) : gj W k = x := by unfold gj; rw [List.getD_eq_getElem?_getD, h]; rfl
theorem gj_some {W : List Job} {k : Nat} (h : k < W.length) : W[k]? = some (gj W k) := by
  rw [List.getElem?_eq_getElem h]; congr 1; unfold gj; rw [List.getD_eq_getElem?_getD, List.getElem?_eq_getElem h]; rfl
theorem gj_set {W : List Job} {i k : Nat} {y : Job} (h : i < W.length) : gj (W.set i y) k = if k = i then y else gj W k := by
  unfold gj
  rw [List.getD_eq_getElem?_getD, List.getD_eq_getElem?_getD, List.getElem?_set]
  by_cases e : i = k
  · subst e; rw [if_pos rfl, if_pos rfl, if_pos h]; rfl
  · rw [if_neg e, if_neg (fun h => e h.symm)]
theorem gj_swap {W : List Job} {i p k : Nat} (hi : i < W.length) (hp : p < W.length) : gj ((W.set i (gj W p)).set p (gj W i)) k = if k = p then gj W i else if k = i then gj W p else gj W k := by
  rw [gj_set (by rw [List.length_set]; exact hp), gj_set hi]
theorem set_perm {W : List Job} {x y : Job} : ∀ {W : List Job} {i : Nat}, W[i]? = some x → (x :: W.set i y).Perm (y :: W)
  | [], i, h => by simp at h
  | a :: W, 0, h => by
    have : a = x := by simpa using h
    subst this
    exact List.Perm.swap _ _ _
  | a :: W, i + 1, h => by
    have ih := set_perm (W := []) (x := x) (y := y) (i := i) (show W[i]? = some x by simpa using h)
    exact (List.Perm.swap _ _ _).trans ((ih.cons a).trans (List.Perm.swap _ _ _))
theorem swap_perm {W : List Job} {i p : Nat} (hi : i < W.length) (hp : p < W.length) (hne : p ≠ i) : ((W.set i (gj W p)).set p (gj W i)).Perm W := by
  have h1 := set_perm (W := []) (y := gj W p) (gj_some hi)
  have h2 : (W.set i (gj W p))[p]? = some (gj W p) := by rw [List.getElem?_set_ne (fun e => hne e.symm)]; exact gj_some hp
  have h3 := set_perm (W := []) (y := gj W i) h2
  exact (h3.trans h1).cons_inv
def HeapQ (W : List Job) : Prop := ∀ k, 0 < k → k < W.length → ¬ ahead (gj W k) (gj W ((k - 1) / 2))
def UpQ (W : List Job) (i : Nat) : Prop := (∀ k, 0 < k → k < W.length → k ≠ i → ¬ ahead (gj W k) (gj W ((k - 1) / 2))) ∧ ∀ k, 0 < k → k < W.length → (k - 1) / 2 = i → 0 < i → ¬ ahead (gj W k) (gj W ((i - 1) / 2))
def DownQ (W : List Job) (i : Nat) : Prop := (∀ k, 0 < k → k < W.length → (k - 1) / 2 ≠ i → ¬ ahead (gj W k) (gj W ((k - 1) / 2))) ∧ ∀ k, 0 < k → k < W.length → (k - 1) / 2 = i → 0 < i → ¬ ahead (gj W k) (gj W ((i - 1) / 2))
theorem ahead_asymm {a b : Job} (h : ahead a b) : ¬ ahead b a := by unfold ahead at *; omega
theorem nahead_trans {a b c : Job} (h : ¬ ahead a b) (k : ¬ ahead b c) : ¬ ahead a c := by unfold ahead at *; omega
theorem nahead_refl (a : Job) : ¬ ahead a a := by unfold ahead; omega
theorem UpQ.zero {W : List Job} {i : Nat} (h : UpQ W i) (e : i = 0) : HeapQ W := fun k h0 hk => h.1 k h0 hk (by omega)
theorem UpQ.stop {W : List Job} {i : Nat} (h : UpQ W i) (hi : ¬ ahead (gj W i) (gj W ((i - 1) / 2))) : HeapQ W := fun k h0 hk => by
  by_cases e : k = i
  · subst e; exact hi
  · exact h.1 k h0 hk e
theorem UpQ.step {W : List Job} {i p : Nat} (h : UpQ W i) (h0 : 0 < i) (hp : p = (i - 1) / 2) (hi : i < W.length) (ha : ahead (gj W i) (gj W p)) : UpQ ((W.set i (gj W p)).set p (gj W i)) p := by
  have hpl : p < W.length := by omega
  refine ⟨fun k k0 hk hne => ?_, fun k k0 hk hkp p0 => ?_⟩
  · rw [List.length_set, List.length_set] at hk
    rw [gj_swap hi hpl, gj_swap hi hpl, if_neg hne]
    by_cases e1 : k = i
    · subst e1
      rw [if_pos rfl, if_pos hp.symm]
      exact ahead_asymm ha
    · rw [if_neg e1]
      by_cases e2 : (k - 1) / 2 = p
      · rw [if_pos e2]
        have h1 := h.1 k k0 hk e1
        rw [e2] at h1
        exact nahead_trans h1 (ahead_asymm ha)
      · rw [if_neg e2]
        by_cases e3 : (k - 1) / 2 = i
        · rw [if_pos e3]
          have h1 := h.2 k k0 hk e3 h0
          rw [← hp] at h1
          exact h1
        · rw [if_neg e3]; exact h.1 k k0 hk e1
  · rw [List.length_set, List.length_set] at hk
    rw [gj_swap hi hpl, gj_swap hi hpl, if_neg (show (p - 1) / 2 ≠ p by omega), if_neg (show (p - 1) / 2 ≠ i by omega), if_neg (show k ≠ p by omega)]
    have hpp := h.1 p p0 hpl (by omega)
    by_cases e1 : k = i
    · rw [if_pos e1]; exact hpp
    · rw [if_neg e1]
      have h1 := h.1 k k0 hk e1
      rw [hkp] at h1
      exact nahead_trans h1 hpp
theorem DownQ.stop {W : List Job} {i : Nat} (h : DownQ W i) (hi : ∀ c, (c = 2 * i + 1 ∨ c = 2 * i + 2) → c < W.length → ¬ ahead (gj W c) (gj W i)) : HeapQ W := fun k h0 hk => by
  by_cases e : (k - 1) / 2 = i
  · rw [e]; exact hi k (by omega) hk
  · exact h.1 k h0 hk e
theorem DownQ.step {W : List Job} {i q : Nat} (h : DownQ W i) (hq : q = 2 * i + 1 ∨ q = 2 * i + 2) (hl : q < W.length) (ha : ¬ ahead (gj W i) (gj W q)) (hc : ∀ c, (c = 2 * i + 1 ∨ c = 2 * i + 2) → c < W.length → ¬ ahead (gj W c) (gj W q)) : DownQ ((W.set i (gj W q)).set q (gj W i)) q := by
  have hi : i < W.length := by omega
  refine ⟨fun k k0 hk hne => ?_, fun k k0 hk hkq q0 => ?_⟩
  · rw [List.length_set, List.length_set] at hk
    rw [gj_swap hi hl, gj_swap hi hl, if_neg hne]
    by_cases e1 : (k - 1) / 2 = i
    · rw [if_pos e1]
      by_cases e2 : k = q
      · rw [if_pos e2]; exact ha
      · rw [if_neg e2, if_neg (show k ≠ i by omega)]
        exact hc k (by omega) hk
    · rw [if_neg e1]
      have h1 := h.1 k k0 hk e1
      rw [if_neg (show k ≠ q by omega)]
      by_cases e3 : k = i
      · subst e3
        rw [if_pos rfl]
        exact h.2 q (by omega) hl (by omega) (by omega)
      · rw [if_neg e3]; exact h1
  · rw [List.length_set, List.length_set] at hk
    rw [gj_swap hi hl, gj_swap hi hl, if_neg (show k ≠ q by omega), if_neg (show k ≠ i by omega), if_neg (show (q - 1) / 2 ≠ q by omega), if_pos (show (q - 1) / 2 = i by omega)]
    have h1 := h.1 k k0 hk (by omega)
    rw [hkq] at h1
    exact h1
theorem heap_min {W : List Job} (h : HeapQ W) : ∀ n k, k ≤ n → k < W.length → ¬ ahead (gj W k) (gj W 0)
  | 0, k, hn, hk => by
    obtain rfl : k = 0 := by omega
    exact nahead_refl _
  | n + 1, k, hn, hk => by
    by_cases e : k = 0
    · subst e; exact nahead_refl _
    · exact nahead_trans (h k (by omega) hk) (heap_min h n ((k - 1) / 2) (by omega) (by omega))
theorem heap_head {W : List Job} {x : Job} (h : HeapQ W) (hx : W[0]? = some x) : ∀ z ∈ W, ¬ ahead z x := fun z hz => by
  obtain ⟨k, hk⟩ := List.mem_iff_getElem?.1 hz
  have hl := (List.getElem?_eq_some_iff.1 hk).1
  have h1 := heap_min h k k (Nat.le_refl _) hl
  rw [gj_get hk, gj_get hx] at h1
  exact h1
theorem up_snoc {W : List Job} {x : Job} (h : HeapQ W) : UpQ (W ++ [x]) W.length := by
  have hg : ∀ k, k < W.length → gj (W ++ [x]) k = gj W k := fun k hk => by
    unfold gj; rw [List.getD_eq_getElem?_getD, List.getD_eq_getElem?_getD, List.getElem?_append_left hk]
  refine ⟨fun k k0 hk hne => ?_, fun k k0 hk hkp _ => ?_⟩
  · rw [List.length_append, List.length_singleton] at hk
    rw [hg k (by omega), hg _ (by omega)]
    exact h k k0 (by omega)
  · rw [List.length_append, List.length_singleton] at hk
    omega
/-- What is left in a queue, when the last one is put at the first one's place, and cut off. -/
def popL (W : List Job) : List Job := (W.set 0 (gj W (W.length - 1))).take (W.length - 1)
theorem popL_len {W : List Job} : (popL W).length = W.length - 1 := by unfold popL; rw [List.length_take, List.length_set]; omega
theorem popL_perm {W : List Job} {x : Job} (hx : W[0]? = some x) : (x :: popL W).Perm W := by
  cases W with
  | nil => simp at hx
  | cons a T =>
    have : a = x := by simpa using hx
    subst this
    rcases List.eq_nil_or_concat T with rfl | ⟨B, y, rfl⟩
    · exact List.Perm.refl _
    · have e : popL (a :: (B ++ [y])) = y :: B := by
        unfold popL
        have e1 : gj (a :: (B ++ [y])) ((a :: (B ++ [y])).length - 1) = y := gj_get (by simp)
        rw [e1]
        simp
      rw [List.concat_eq_append, e]
      exact (List.perm_append_comm (l₁ := [y])).cons a
theorem popL_down {W : List Job} (h : HeapQ W) : DownQ (popL W) 0 := by
  refine ⟨fun k k0 hk hne => ?_, fun k k0 hk _ h0 => absurd h0 (Nat.lt_irrefl _)⟩
  rw [popL_len] at hk
  have hg : ∀ j, 0 < j → j < W.length - 1 → gj (popL W) j = gj W j := fun j j0 hj => by
    unfold popL
    have : gj ((W.set 0 (gj W (W.length - 1))).take (W.length - 1)) j = gj (W.set 0 (gj W (W.length - 1))) j := by
      generalize gj W (W.length - 1) = y
      unfold gj; rw [List.getD_eq_getElem?_getD, List.getD_eq_getElem?_getD, List.getElem?_take_of_lt hj]
    rw [this, gj_set (by omega), if_neg (by omega)]
  rw [hg k k0 hk, hg _ (by omega) (by omega)]
  exact h k k0 (by omega)
theorem popL_cells {W : List Job} {post : List Value} (h : 0 < W.length) : ∃ post', (W.set 0 (gj W (W.length - 1))).flatMap Job.cells ++ post = (popL W).flatMap Job.cells ++ post' ∧ post'.length = post.length + 10 := by
  refine ⟨((W.set 0 (gj W (W.length - 1))).drop (W.length - 1)).flatMap Job.cells ++ post, ?_, ?_⟩
  · rw [← List.append_assoc, ← List.flatMap_append]
    unfold popL
    rw [List.take_append_drop]
  · rw [List.length_append, flat_len (n := 10) (fun _ => rfl), List.length_drop, List.length_set]; omega
instance (a b : Job) : Decidable (ahead a b) := by unfold ahead; infer_instance
theorem eqC_iff {x y : Job} : eqC x.cells y.cells = true ↔ x = y := by
  cases x; cases y
  simp [eqC, sEq]
@[reducible] def qu (p : Nat) (sl : Value) : Nat × Obj := (p, .cells #[sl] 64 (0, 0))
@[reducible] def qb (b : Nat) (W : List Job) (post : List Value) : Nat × Obj := (b, .cells (W.flatMap Job.cells ++ post).toArray 28 (0, 0))
theorem idx2 {a b : Int} {m : Nat} (h : m < 2) (hb : b = a + 1) : ([.int .i64 a, .int .i64 b] : List Value)[((m : Nat) : Int).toNat * 1]? = some (.int .i64 (a + m)) := by
  subst hb
  match m, h with
  | 0, _ => simp
  | 1, _ => simp
structure DG2 where
  m : Nat
  k : Nat
def DI (W : List Job) (i : Nat) (s : DG2) : Prop := s.m ≤ 2 ∧ (s.k = i ∨ ((s.k = 2 * i + 1 ∨ s.k = 2 * i + 2) ∧ s.k < W.length)) ∧ ¬ ahead (gj W i) (gj W s.k) ∧ ∀ c, 2 * i + 1 ≤ c → c < 2 * i + 1 + s.m → c < W.length → ¬ ahead (gj W c) (gj W s.k)
theorem DI.zero {W : List Job} {i : Nat} : DI W i ⟨0, i⟩ := ⟨Nat.zero_le _, .inl rfl, nahead_refl _, fun c h1 h2 _ => by dsimp only at h2; omega⟩
theorem DI.take {W : List Job} {i m k : Nat} (h : DI W i ⟨m, k⟩) (hm : m < 2) (hl : 2 * i + 1 + m < W.length) (ha : ahead (gj W (2 * i + 1 + m)) (gj W k)) : DI W i ⟨m + 1, 2 * i + 1 + m⟩ := by
  obtain ⟨_, _, h3, h4⟩ := h
  dsimp only at h3 h4
  refine ⟨hm, .inr ⟨by dsimp only; omega, hl⟩, nahead_trans h3 (ahead_asymm ha), fun c h1 h2 hc => ?_⟩
  dsimp only at h2 ⊢
  by_cases e : c = 2 * i + 1 + m
  · subst e; exact nahead_refl _
  · exact nahead_trans (h4 c h1 (by omega) hc) (ahead_asymm ha)
theorem DI.pass {W : List Job} {i m k : Nat} (h : DI W i ⟨m, k⟩) (hm : m < 2) (ha : 2 * i + 1 + m < W.length → ¬ ahead (gj W (2 * i + 1 + m)) (gj W k)) : DI W i ⟨m + 1, k⟩ := by
  obtain ⟨_, h2, h3, h4⟩ := h
  dsimp only at h2 h3 h4
  refine ⟨hm, h2, h3, fun c h1 h5 hc => ?_⟩
  dsimp only at h5 ⊢
  by_cases e : c = 2 * i + 1 + m
  · subst e; exact ha hc
  · exact h4 c h1 (by omega) hc
theorem DI.stop {W : List Job} {i m : Nat} (h : DI W i ⟨m, i⟩) (hm : ¬ m < 2) (hd : DownQ W i) : HeapQ W := by
  obtain ⟨h1, h2, h3, h4⟩ := h
  dsimp only at h1 h4
  exact hd.stop fun c hc hl => h4 c (by omega) (by omega) hl
theorem DI.go {W : List Job} {i m k : Nat} (h : DI W i ⟨m, k⟩) (hm : ¬ m < 2) (hne : k ≠ i) (hd : DownQ W i) : DownQ ((W.set i (gj W k)).set k (gj W i)) k ∧ i < k ∧ k < W.length := by
  obtain ⟨h1, h2, h3, h4⟩ := h
  dsimp only at h1 h2 h3 h4
  have h5 : (k = 2 * i + 1 ∨ k = 2 * i + 2) ∧ k < W.length := by
    rcases h2 with h2 | h2
    · exact absurd h2 hne
    · exact h2
  exact ⟨hd.step h5.1 h5.2 h3 (fun c hc hl => h4 c (by omega) (by omega) hl), by omega, h5.2⟩
structure UG where
  i : Nat
  W : List Job
structure PG where
  k : Nat
  W : List Job
  a : Option Addr
  c : Nat
  E : SHeap
structure WG where
  k : Nat
  out : List Job
  gone : Bool
  a : Option Addr
  c : Nat
  E : SHeap
/-- What is left of jobs, without the first that is j. -/
def WoR (j : Job) (xs out : List Job) (gone : Bool) : Prop := (gone = true → (j :: out).Perm xs) ∧ (gone = false → out = xs ∧ ∀ x ∈ xs, x ≠ j)
theorem WoR.nil {j : Job} {xs : List Job} : WoR j (xs.take 0) [] false := ⟨fun h => (by cases h), fun _ => ⟨rfl, fun x hx => (by cases hx)⟩⟩
theorem WoR.len {j : Job} {xs out : List Job} {gone : Bool} (h : WoR j xs out gone) : out.length ≤ xs.length := by
  cases gone with
  | true => have := (h.1 rfl).length_eq; rw [List.length_cons] at this; omega
  | false => rw [(h.2 rfl).1]; exact Nat.le_refl _
section
variable {j x : Job} {xs out : List Job} {k : Nat}
theorem WoR.hit (h : WoR j (xs.take k) out false) (hx : xs[k]? = some x) (he : eqC x.cells j.cells = true) : WoR j (xs.take (k + 1)) out true := by
  obtain rfl := eqC_iff.1 he
  refine ⟨fun _ => ?_, fun h => (by cases h)⟩
  rw [takeS hx, (h.2 rfl).1]
  exact (List.perm_append_comm (l₁ := [x]))
theorem WoR.past (h : WoR j (xs.take k) out true) (hx : xs[k]? = some x) : WoR j (xs.take (k + 1)) (out ++ [x]) true := by
  refine ⟨fun _ => ?_, fun h => (by cases h)⟩
  rw [takeS hx]
  exact (h.1 rfl).append_right [x]
theorem WoR.miss (h : WoR j (xs.take k) out false) (hx : xs[k]? = some x) (he : ¬ eqC x.cells j.cells = true) : WoR j (xs.take (k + 1)) (out ++ [x]) false := by
  refine ⟨fun h => (by cases h), fun _ => ?_⟩
  rw [takeS hx, (h.2 rfl).1]
  refine ⟨rfl, fun y hy => ?_⟩
  rcases List.mem_append.1 hy with hy | hy
  · exact (h.2 rfl).2 y hy
  · obtain rfl := List.mem_singleton.1 hy
    exact fun e => he (eqC_iff.2 e)
end
theorem ag22 : aggOf Try.prog 22 = some false := by kernel_rfl
theorem by28 : bytesOf Try.prog 28 = some 80 := by kernel_rfl
theorem cl42 : Callable Try.prog 42 := ⟨Try.f42, Try.func42, by kernel_rfl, by kernel_rfl⟩
theorem cl64 : Callable Try.prog 64 := ⟨Try.f64, Try.func64, by kernel_rfl, by kernel_rfl⟩
theorem cl65 : Callable Try.prog 65 := ⟨Try.f65, Try.func65, by kernel_rfl, by kernel_rfl⟩
theorem fd64_0 : fldOf Try.prog 64 0 = some (0, 22, 1) := by kernel_rfl
theorem ks28 : kindsOf Try.prog 28 = some [.int, .int, .int, .int, .int, .int, .int, .int, .int, .int] := by kernel_rfl
theorem sz22 : szOf Try.prog 22 = some 1 := by kernel_rfl
theorem zr107 : zeroOf Try.prog 107 = some (.agg #[.int .i64 0, .int .i64 0]) := by kernel_rfl
section
variable {W0 : World}
theorem lessB_s (a b : Job) (H : SHeap) : AC Try.prog W0 19 [a.v, b.v] H (fun v H' => v = .bool (decide (ahead a b)) ∧ H' = H) :=
  (less_s a b H).mono fun v H' ⟨⟨c, h1, h2⟩, h3⟩ => ⟨by rw [h1]; congr 1; rw [Bool.eq_iff_iff, h2]; simp, h3⟩
theorem aheadB_s (a b : Job) (H : SHeap) : AC Try.prog W0 17 [a.v, b.v] H (fun v H' => v = .bool (decide (ahead a b)) ∧ H' = H) :=
  (ahead_s a b H).mono fun v H' ⟨⟨c, h1, h2⟩, h3⟩ => ⟨by rw [h1]; congr 1; rw [Bool.eq_iff_iff, h2]; simp, h3⟩
set_option maxRecDepth 100000 in
set_option maxHeartbeats 400000 in
theorem up_s (p b cap : Nat) (W0' : List Job) (post : List Value) (G : SHeap) (hn : W0'.length ≤ 100000) (hc : W0'.length ≤ cap) (hcb : cap ≤ 9223372036854775807) (i0 : Nat) (hi0 : i0 < W0'.length) (hu : UpQ W0' i0) : AC Try.prog W0 64 [.pointer (some ⟨p, 0, none⟩), .int .i64 i0] (qu p (.slice (some ⟨b, 0, none⟩) W0'.length cap) :: qb b W0' post :: G) (fun v H' => ∃ W, W.Perm W0' ∧ HeapQ W ∧ v = .tuple #[] ∧ H' = qu p (.slice (some ⟨b, 0, none⟩) W0'.length cap) :: qb b W post :: G) := by
  refine ac_of Try.func64 rfl rfl rfl ?_
  refine aw_block ?_
  refine aw_loop (ι := UG) (fun s => s.W.length = W0'.length ∧ s.W.Perm W0' ∧ s.i < s.W.length ∧ UpQ s.W s.i) (fun s => [(0, .pointer (some ⟨p, 0, none⟩)), (1, .int .i64 s.i)]) (fun s => qu p (.slice (some ⟨b, 0, none⟩) W0'.length cap) :: qb b s.W post :: G) (fun s => s.i) ⟨i0, W0'⟩ (⟨rfl, List.Perm.refl _, hi0, hu⟩) (by repeat (first | exact keep_nil | refine keep_cons rfl ?_)) (by repeat (first | exact Sub.refl _ | refine Sub.take (by repeat (first | exact Take.here | apply Take.there | apply Take.app)) ?_ | refine Sub.takeE (by repeat (first | exact TakeE.here | apply TakeE.there | apply TakeE.app)) ?_ | exact Sub.nil _ | apply Sub.drop | apply Sub.dropE)) ?_
  intro s hs9
  obtain ⟨i, W⟩ := s
  dsimp only at hs9 ⊢
  obtain ⟨hl, hp, hi, hu⟩ := hs9
  refine aw_seq ?_
  refine aw_seq_region ?_
  refine sr_x rfl (wtd_none rfl) rfl (Rd.x (x_move rfl)) ?_
  refine sr_cmp rfl (wtd_none rfl) rfl (Rd.x (x_gt rfl rfl)) (fun h1 => ?_) (fun h1 => ?_)
  · refine sr_nil ?_
    refine aw_keep (keep_cons (t := 0) rfl (keep_cons (t := 1) rfl (keep_cons (t := 5) rfl (keep_cons (t := 6) rfl keep_nil)))) ?_
    refine aw_true rfl ?_
    refine aw_skip ?_
    show AW _ _ _ _ _ _ _
    refine aw_block ?_
    refine aw_seq_region ?_
    refine sr_x rfl (wtd_none rfl) rfl (Rd.x (x_move rfl)) ?_
    refine sr_x rfl (wtd_none rfl) rfl (Rd.x (x_sub' rfl rfl (i64w (by omega) (by omega)))) ?_
    refine sr_x rfl (wtd_none rfl) rfl (Rd.x (x_cast (u := .int .i64 ((i - 1) / 2 : Nat)) (x_quo' rfl rfl (by omega) (i64w (by rw [Int.tdiv_eq_ediv_of_nonneg (by omega)]; omega) (by rw [Int.tdiv_eq_ediv_of_nonneg (by omega)]; omega))) (by rw [Int.tdiv_eq_ediv_of_nonneg (by omega)]; congr 1; omega))) ?_
    refine sr_x rfl (wtd_none rfl) rfl (Rd.x (x_assign rfl)) ?_
    refine sr_nil ?_
    refine aw_keep (keep_cons (t := 0) rfl (keep_cons (t := 1) rfl (keep_cons (t := 4) rfl (keep_cons (t := 5) rfl (keep_cons (t := 6) rfl (keep_cons (t := 7) rfl (keep_cons (t := 8) rfl (keep_cons (t := 9) rfl keep_nil)))))))) ?_
    refine aw_seq ?_
    refine aw_seq_dr ⟨_, 16, 53, [[], [0], [0, 1], [0, 1, 2], [], [0, 1, 2, 3, 4], [0, 1, 2, 3, 4, 5], [], [7], [7, 8], [7, 8, 9], [], [7, 8, 9, 10, 11], [7, 8, 9, 10, 11, 12], [0, 1, 2, 3, 4, 5, 6, 7, 8, 9, 10, 11, 12, 13], [0, 1, 2, 3, 4, 5, 6, 7, 8, 9, 10, 11, 12, 13, 14]], [.light, .light, .light, .mem, .light, .light, .mem, .light, .light, .light, .mem, .light, .light, .mem, .call, .light]⟩ (by kernel_rfl) rfl rfl mix ?_
    refine dr_light rfl rfl (wtd_none rfl) (x_move rfl) ?_
    refine dr_light rfl rfl (wtd_none rfl) (x_nilCheck rfl) ?_
    refine dr_light rfl rfl (wtd_none rfl) (x_fieldAddr fd64_0 rfl) ?_
    refine dr_mem0 rfl rfl (wtd_none rfl) (x_load ag22 rfl (cells_ext (by repeat (first | exact List.mem_cons_self | apply List.mem_cons_of_mem | apply List.mem_append_right)) (by repeat (first | exact Ext.all _ | exact Ext.done | apply Ext.take | apply Ext.skip)))) ?_
    refine dr_light rfl rfl (wtd_none rfl) (x_move rfl) ?_
    refine dr_light rfl rfl (wtd_none rfl) (x_indexAddrN i Try.underlying22 sz28 rfl rfl rfl (by omega) (by omega)) ?_
    refine dr_mem0 rfl rfl (wtd_none rfl) (x_loadN ag28 sz28 rfl ((cells_flat0 (n := 10) (enc := Job.cells) (fun _ => rfl) (xs := W) (post := post) (show (b, Obj.cells ((W).flatMap Job.cells ++ post).toArray 28 (0, 0)) ∈ _ from (by repeat (first | exact List.mem_cons_self | apply List.mem_cons_of_mem | apply List.mem_append_right))) (gj_some (by omega)))) rfl) ?_
    refine dr_light rfl rfl (wtd_none rfl) (x_move rfl) ?_
    refine dr_light rfl rfl (wtd_none rfl) (x_nilCheck rfl) ?_
    refine dr_light rfl rfl (wtd_none rfl) (x_fieldAddr fd64_0 rfl) ?_
    refine dr_mem0 rfl rfl (wtd_none rfl) (x_load ag22 rfl (cells_ext (by repeat (first | exact List.mem_cons_self | apply List.mem_cons_of_mem | apply List.mem_append_right)) (by repeat (first | exact Ext.all _ | exact Ext.done | apply Ext.take | apply Ext.skip)))) ?_
    refine dr_light rfl rfl (wtd_none rfl) (x_move rfl) ?_
    refine dr_light rfl rfl (wtd_none rfl) (x_indexAddrN ((i - 1) / 2) Try.underlying22 sz28 rfl rfl rfl (by omega) (by omega)) ?_
    refine dr_mem0 rfl rfl (wtd_none rfl) (x_loadN ag28 sz28 rfl ((cells_flat0 (n := 10) (enc := Job.cells) (fun _ => rfl) (xs := W) (post := post) (show (b, Obj.cells ((W).flatMap Job.cells ++ post).toArray 28 (0, 0)) ∈ _ from (by repeat (first | exact List.mem_cons_self | apply List.mem_cons_of_mem | apply List.mem_append_right))) (gj_some (by omega)))) rfl) ?_
    refine dr_callq0 rfl rfl (wtd_none rfl) (opS_F rfl rfl rfl rfl cl19 ((lessB_s (gj W i) (gj W ((i - 1) / 2)) _))) (⟨_, rfl⟩) ?_
    rintro _ rfl
    by_cases ha1 : ahead (gj W i) (gj W ((i - 1) / 2))
    · rw [decide_eq_true ha1]
      refine dr_light rfl rfl (wtd_none rfl) (x_not rfl) ?_
      refine dr_nil0 ?_
      refine aw_keep (keep_cons (t := 0) rfl (keep_cons (t := 1) rfl (keep_cons (t := 4) rfl (keep_cons (t := 5) rfl (keep_cons (t := 6) rfl (keep_cons (t := 7) rfl (keep_cons (t := 8) rfl (keep_cons (t := 9) rfl (keep_cons (t := 10) rfl (keep_cons (t := 11) rfl (keep_cons (t := 12) rfl (keep_cons (t := 13) rfl (keep_cons (t := 14) rfl (keep_cons (t := 15) rfl (keep_cons (t := 16) rfl (keep_cons (t := 17) rfl (keep_cons (t := 18) rfl (keep_cons (t := 19) rfl (keep_cons (t := 20) rfl (keep_cons (t := 21) rfl (keep_cons (t := 22) rfl (keep_cons (t := 23) rfl (keep_cons (t := 24) rfl (keep_cons (t := 25) rfl keep_nil)))))))))))))))))))))))) ?_
      refine aw_false rfl ?_
      refine aw_skip ?_
      show AW _ _ _ _ _ _ _
      refine aw_seq_dr ⟨_, 28, 53, [[], [0], [0, 1], [0, 1, 2], [], [], [5], [5, 6], [5, 6, 7], [], [], [10], [10, 11], [10, 11, 12], [], [10, 11, 12, 13, 14], [10, 11, 12, 13, 14, 15], [], [17], [17, 18], [17, 18, 19], [], [17, 18, 19, 20, 21], [17, 18, 19, 20, 21, 22], [0, 1, 2, 3, 4, 5, 6, 7, 8, 10, 11, 12, 13, 14, 15, 16, 17, 18, 19, 20, 21, 22, 23], [0, 1, 2, 3, 4, 5, 6, 7, 8, 10, 11, 12, 13, 14, 15, 16, 17, 18, 19, 20, 21, 22, 23, 24], [0, 1, 2, 3, 4, 5, 6, 7, 8, 9, 10, 11, 12, 13, 14, 15, 16, 17, 18, 19, 20, 21, 22, 23, 24, 25], [0, 1, 2, 3, 4, 5, 6, 7, 8, 9, 10, 11, 12, 13, 14, 15, 16, 17, 18, 19, 20, 21, 22, 23, 24, 25, 26]], [.light, .light, .light, .mem, .light, .light, .light, .light, .mem, .light, .light, .light, .light, .mem, .light, .light, .mem, .light, .light, .light, .mem, .light, .light, .mem, .light, .eff, .light, .eff]⟩ (by kernel_rfl) rfl rfl mix ?_
      refine dr_light rfl rfl (wtd_none rfl) (x_move rfl) ?_
      refine dr_light rfl rfl (wtd_none rfl) (x_nilCheck rfl) ?_
      refine dr_light rfl rfl (wtd_none rfl) (x_fieldAddr fd64_0 rfl) ?_
      refine dr_mem0 rfl rfl (wtd_none rfl) (x_load ag22 rfl (cells_ext (by repeat (first | exact List.mem_cons_self | apply List.mem_cons_of_mem | apply List.mem_append_right)) (by repeat (first | exact Ext.all _ | exact Ext.done | apply Ext.take | apply Ext.skip)))) ?_
      refine dr_light rfl rfl (wtd_none rfl) (x_move rfl) ?_
      refine dr_light rfl rfl (wtd_none rfl) (x_move rfl) ?_
      refine dr_light rfl rfl (wtd_none rfl) (x_nilCheck rfl) ?_
      refine dr_light rfl rfl (wtd_none rfl) (x_fieldAddr fd64_0 rfl) ?_
      refine dr_mem0 rfl rfl (wtd_none rfl) (x_load ag22 rfl (cells_ext (by repeat (first | exact List.mem_cons_self | apply List.mem_cons_of_mem | apply List.mem_append_right)) (by repeat (first | exact Ext.all _ | exact Ext.done | apply Ext.take | apply Ext.skip)))) ?_
      refine dr_light rfl rfl (wtd_none rfl) (x_move rfl) ?_
      refine dr_light rfl rfl (wtd_none rfl) (x_move rfl) ?_
      refine dr_light rfl rfl (wtd_none rfl) (x_nilCheck rfl) ?_
      refine dr_light rfl rfl (wtd_none rfl) (x_fieldAddr fd64_0 rfl) ?_
      refine dr_mem0 rfl rfl (wtd_none rfl) (x_load ag22 rfl (cells_ext (by repeat (first | exact List.mem_cons_self | apply List.mem_cons_of_mem | apply List.mem_append_right)) (by repeat (first | exact Ext.all _ | exact Ext.done | apply Ext.take | apply Ext.skip)))) ?_
      refine dr_light rfl rfl (wtd_none rfl) (x_move rfl) ?_
      refine dr_light rfl rfl (wtd_none rfl) (x_indexAddrN ((i - 1) / 2) Try.underlying22 sz28 rfl rfl rfl (by omega) (by omega)) ?_
      refine dr_mem0 rfl rfl (wtd_none rfl) (x_loadN ag28 sz28 rfl ((cells_flat0 (n := 10) (enc := Job.cells) (fun _ => rfl) (xs := W) (post := post) (show (b, Obj.cells ((W).flatMap Job.cells ++ post).toArray 28 (0, 0)) ∈ _ from (by repeat (first | exact List.mem_cons_self | apply List.mem_cons_of_mem | apply List.mem_append_right))) (gj_some (by omega)))) rfl) ?_
      refine dr_light rfl rfl (wtd_none rfl) (x_move rfl) ?_
      refine dr_light rfl rfl (wtd_none rfl) (x_nilCheck rfl) ?_
      refine dr_light rfl rfl (wtd_none rfl) (x_fieldAddr fd64_0 rfl) ?_
      refine dr_mem0 rfl rfl (wtd_none rfl) (x_load ag22 rfl (cells_ext (by repeat (first | exact List.mem_cons_self | apply List.mem_cons_of_mem | apply List.mem_append_right)) (by repeat (first | exact Ext.all _ | exact Ext.done | apply Ext.take | apply Ext.skip)))) ?_
      refine dr_light rfl rfl (wtd_none rfl) (x_move rfl) ?_
      refine dr_light rfl rfl (wtd_none rfl) (x_indexAddrN i Try.underlying22 sz28 rfl rfl rfl (by omega) (by omega)) ?_
      refine dr_mem0 rfl rfl (wtd_none rfl) (x_loadN ag28 sz28 rfl ((cells_flat0 (n := 10) (enc := Job.cells) (fun _ => rfl) (xs := W) (post := post) (show (b, Obj.cells ((W).flatMap Job.cells ++ post).toArray 28 (0, 0)) ∈ _ from (by repeat (first | exact List.mem_cons_self | apply List.mem_cons_of_mem | apply List.mem_append_right))) (gj_some (by omega)))) rfl) ?_
      refine dr_light rfl rfl (wtd_none rfl) (x_indexAddrN i Try.underlying22 sz28 rfl rfl rfl (by omega) (by omega)) ?_
      refine dr_store0 rfl rfl (wtd_none rfl) (x_store sz28 rfl rfl rfl rfl rfl (by repeat (first | exact Repl.here | apply Repl.there | apply Repl.app)) (spl_flat0 (n := 10) (enc := Job.cells) (fun _ => rfl) (xs := W) (post := post) (i := i) (x' := gj W ((i - 1) / 2)) (by first | omega | (rw [List.length_set]; omega)))) (by first | rfl | simp [keys_append, keys_cons]) ?_
      refine dr_light rfl rfl (wtd_none rfl) (x_indexAddrN ((i - 1) / 2) Try.underlying22 sz28 rfl rfl rfl (by omega) (by omega)) ?_
      refine dr_store0 rfl rfl (wtd_none rfl) (x_store sz28 rfl rfl rfl rfl rfl (by repeat (first | exact Repl.here | apply Repl.there | apply Repl.app)) (spl_flat0 (n := 10) (enc := Job.cells) (fun _ => rfl) (xs := (W.set i (gj W ((i - 1) / 2)))) (post := post) (i := ((i - 1) / 2)) (x' := gj W i) (by first | omega | (rw [List.length_set]; omega)))) (by first | rfl | simp [keys_append, keys_cons]) ?_
      refine dr_nil0 ?_
      refine aw_keep (keep_cons (t := 0) rfl (keep_cons (t := 1) rfl (keep_cons (t := 4) rfl (keep_cons (t := 5) rfl (keep_cons (t := 6) rfl (keep_cons (t := 7) rfl (keep_cons (t := 8) rfl (keep_cons (t := 9) rfl (keep_cons (t := 10) rfl (keep_cons (t := 11) rfl (keep_cons (t := 12) rfl (keep_cons (t := 13) rfl (keep_cons (t := 14) rfl (keep_cons (t := 15) rfl (keep_cons (t := 16) rfl (keep_cons (t := 17) rfl (keep_cons (t := 18) rfl (keep_cons (t := 19) rfl (keep_cons (t := 20) rfl (keep_cons (t := 21) rfl (keep_cons (t := 22) rfl (keep_cons (t := 23) rfl (keep_cons (t := 24) rfl (keep_cons (t := 25) rfl (keep_cons (t := 26) rfl (keep_cons (t := 27) rfl (keep_cons (t := 28) rfl (keep_cons (t := 29) rfl (keep_cons (t := 30) rfl (keep_cons (t := 31) rfl (keep_cons (t := 32) rfl (keep_cons (t := 33) rfl (keep_cons (t := 34) rfl (keep_cons (t := 35) rfl (keep_cons (t := 36) rfl (keep_cons (t := 37) rfl (keep_cons (t := 38) rfl (keep_cons (t := 39) rfl (keep_cons (t := 40) rfl (keep_cons (t := 41) rfl (keep_cons (t := 42) rfl (keep_cons (t := 43) rfl (keep_cons (t := 44) rfl (keep_cons (t := 45) rfl (keep_cons (t := 46) rfl (keep_cons (t := 47) rfl (keep_cons (t := 48) rfl (keep_cons (t := 49) rfl (keep_cons (t := 50) rfl (keep_cons (t := 51) rfl keep_nil)))))))))))))))))))))))))))))))))))))))))))))))))) ?_
      refine aw_region ?_
      refine sr_x rfl (wtd_none rfl) rfl (Rd.x (x_move rfl)) ?_
      refine sr_x rfl (wtd_none rfl) rfl (Rd.x (x_assign rfl)) ?_
      refine sr_nil ?_
      show ∃ s', _ ∧ _ ∧ _ ∧ _
      exact ⟨⟨(i - 1) / 2, ((W.set i (gj W ((i - 1) / 2))).set ((i - 1) / 2) (gj W i))⟩, ⟨by dsimp only; rw [List.length_set, List.length_set]; exact hl, (swap_perm (by omega) (by omega) (by omega)).trans hp, by dsimp only; rw [List.length_set, List.length_set]; omega, hu.step (by omega) rfl (by omega) ha1⟩, by dsimp only; omega, (by repeat (first | exact keep_nil | refine keep_cons rfl ?_)), (by repeat (first | exact Sub.refl _ | refine Sub.take (by repeat (first | exact Take.here | apply Take.there | apply Take.app)) ?_ | refine Sub.takeE (by repeat (first | exact TakeE.here | apply TakeE.there | apply TakeE.app)) ?_ | exact Sub.nil _ | apply Sub.drop | apply Sub.dropE))⟩
    · rw [decide_eq_false ha1]
      refine dr_light rfl rfl (wtd_none rfl) (x_not rfl) ?_
      refine dr_nil0 ?_
      refine aw_keep (keep_cons (t := 0) rfl (keep_cons (t := 1) rfl (keep_cons (t := 4) rfl (keep_cons (t := 5) rfl (keep_cons (t := 6) rfl (keep_cons (t := 7) rfl (keep_cons (t := 8) rfl (keep_cons (t := 9) rfl (keep_cons (t := 10) rfl (keep_cons (t := 11) rfl (keep_cons (t := 12) rfl (keep_cons (t := 13) rfl (keep_cons (t := 14) rfl (keep_cons (t := 15) rfl (keep_cons (t := 16) rfl (keep_cons (t := 17) rfl (keep_cons (t := 18) rfl (keep_cons (t := 19) rfl (keep_cons (t := 20) rfl (keep_cons (t := 21) rfl (keep_cons (t := 22) rfl (keep_cons (t := 23) rfl (keep_cons (t := 24) rfl (keep_cons (t := 25) rfl keep_nil)))))))))))))))))))))))) ?_
      refine aw_true rfl ?_
      refine aw_ret ?_
      show ∃ v H2, ResV _ _ _ _ _ _ v ∧ Sub H2 _ ∧ _
      first | exact ⟨_, qu p (.slice (some ⟨b, 0, none⟩) W0'.length cap) :: qb b W post :: G, resV rfl .nil, Sub.refl _, W, hp, hu.zero (by omega), rfl, rfl⟩ | exact ⟨_, qu p (.slice (some ⟨b, 0, none⟩) W0'.length cap) :: qb b W post :: G, resV rfl .nil, Sub.refl _, W, hp, hu.stop ha1, rfl, rfl⟩
  · refine sr_nil ?_
    refine aw_keep (keep_cons (t := 0) rfl (keep_cons (t := 1) rfl (keep_cons (t := 5) rfl (keep_cons (t := 6) rfl keep_nil)))) ?_
    refine aw_false rfl ?_
    refine aw_exit ?_
    show ∃ v H2, ResV _ _ _ _ _ _ v ∧ Sub H2 _ ∧ _
    first | exact ⟨_, qu p (.slice (some ⟨b, 0, none⟩) W0'.length cap) :: qb b W post :: G, resV rfl .nil, Sub.refl _, W, hp, hu.zero (by omega), rfl, rfl⟩ | exact ⟨_, qu p (.slice (some ⟨b, 0, none⟩) W0'.length cap) :: qb b W post :: G, resV rfl .nil, Sub.refl _, W, hp, hu.stop ha1, rfl, rfl⟩
set_option maxRecDepth 100000 in
set_option maxHeartbeats 2000000 in
theorem down_s (p b cap : Nat) (W0' : List Job) (post : List Value) (G : SHeap) (hn : W0'.length ≤ 100000) (hc : W0'.length ≤ cap) (hcb : cap ≤ 9223372036854775807) (hd : DownQ W0' 0) : AC Try.prog W0 65 [.pointer (some ⟨p, 0, none⟩), .int .i64 0] (qu p (.slice (some ⟨b, 0, none⟩) W0'.length cap) :: qb b W0' post :: G) (fun v H' => ∃ W, W.Perm W0' ∧ HeapQ W ∧ v = .tuple #[] ∧ H' = qu p (.slice (some ⟨b, 0, none⟩) W0'.length cap) :: qb b W post :: G) := by
  refine ac_of Try.func65 rfl rfl rfl ?_
  refine aw_block ?_
  refine aw_loop (ι := UG) (fun s => s.W.length = W0'.length ∧ s.W.Perm W0' ∧ (s.i < s.W.length ∨ s.i = 0) ∧ DownQ s.W s.i) (fun s => [(0, .pointer (some ⟨p, 0, none⟩)), (1, .int .i64 s.i)]) (fun s => qu p (.slice (some ⟨b, 0, none⟩) W0'.length cap) :: qb b s.W post :: G) (fun s => W0'.length - s.i) ⟨0, W0'⟩ (⟨rfl, List.Perm.refl _, .inr rfl, hd⟩) (by repeat (first | exact keep_nil | refine keep_cons rfl ?_)) (by repeat (first | exact Sub.refl _ | refine Sub.take (by repeat (first | exact Take.here | apply Take.there | apply Take.app)) ?_ | refine Sub.takeE (by repeat (first | exact TakeE.here | apply TakeE.there | apply TakeE.app)) ?_ | exact Sub.nil _ | apply Sub.drop | apply Sub.dropE)) ?_
  intro s hs9
  obtain ⟨i, W⟩ := s
  dsimp only at hs9 ⊢
  obtain ⟨hl, hp, hi, hd⟩ := hs9
  refine aw_block ?_
  refine aw_seq_region ?_
  refine sr_x rfl (wtd_none rfl) rfl (Rd.x (x_move rfl)) ?_
  refine sr_x rfl (wtd_none rfl) rfl (Rd.x (x_assign rfl)) ?_
  refine sr_nil ?_
  refine aw_keep (keep_cons (t := 0) rfl (keep_cons (t := 1) rfl (keep_cons (t := 4) rfl (keep_cons (t := 7) rfl keep_nil)))) ?_
  refine aw_seq ?_
  refine aw_seq_region ?_
  refine sr_x rfl (wtd_none rfl) rfl (Rd.x (x_move rfl)) ?_
  refine sr_x rfl (wtd_none rfl) rfl (Rd.x (x_mul' rfl rfl (i64w (by omega) (by omega)))) ?_
  refine sr_x rfl (wtd_none rfl) rfl (Rd.x (x_add' rfl rfl (i64w (by omega) (by omega)))) ?_
  refine sr_x rfl (wtd_none rfl) rfl (Rd.x (x_move rfl)) ?_
  refine sr_x rfl (wtd_none rfl) rfl (Rd.x (x_mul' rfl rfl (i64w (by omega) (by omega)))) ?_
  refine sr_x rfl (wtd_none rfl) rfl (Rd.x (x_add' rfl rfl (i64w (by omega) (by omega)))) ?_
  refine sr_x rfl (wtd_none rfl) rfl (Rd.x (x_buildA zr107 rfl Try.underlying107 sz3 (by repeat (first | exact Parts.nil | (apply Parts.cons; rfl))) (by repeat (first | exact Fill.done | (apply Fill.part; rfl; rfl; rfl; focus (repeat (first | exact Spl.done | exact Spl.all rfl | apply Spl.put | apply Spl.skip))))))) ?_
  refine sr_x rfl (wtd_none rfl) rfl (Rd.x (x_move rfl)) ?_
  refine sr_nil ?_
  refine aw_keep (keep_cons (t := 0) rfl (keep_cons (t := 1) rfl (keep_cons (t := 4) rfl (keep_cons (t := 7) rfl (keep_cons (t := 8) rfl (keep_cons (t := 9) rfl (keep_cons (t := 10) rfl (keep_cons (t := 11) rfl (keep_cons (t := 12) rfl (keep_cons (t := 13) rfl (keep_cons (t := 14) rfl (keep_cons (t := 15) rfl keep_nil)))))))))))) ?_
  refine aw_block ?_
  refine aw_loop (ι := DG2) (fun s => DI W i s) (fun s => [(0, .pointer (some ⟨p, 0, none⟩)), (1, .int .i64 i), (4, .int .i64 s.k), (14, .agg #[.int .i64 (2 * (i : Int) + 1), .int .i64 (2 * (i : Int) + 2)]), (15, .int .i64 s.m)]) (fun _ => qu p (.slice (some ⟨b, 0, none⟩) W0'.length cap) :: qb b W post :: G) (fun s => 2 - s.m) ⟨0, i⟩ (DI.zero) (by repeat (first | exact keep_nil | refine keep_cons rfl ?_)) (by repeat (first | exact Sub.refl _ | refine Sub.take (by repeat (first | exact Take.here | apply Take.there | apply Take.app)) ?_ | refine Sub.takeE (by repeat (first | exact TakeE.here | apply TakeE.there | apply TakeE.app)) ?_ | exact Sub.nil _ | apply Sub.drop | apply Sub.dropE)) ?_
  intro s hs8
  obtain ⟨m, k⟩ := s
  have hdi := hs8
  obtain ⟨hm2, hk2, -, -⟩ := hs8
  dsimp only at hm2 hk2 ⊢
  refine aw_seq_region ?_
  refine sr_cmp rfl (wtd_none rfl) rfl (Rd.x (x_lt rfl rfl)) (fun h1 => ?_) (fun h1 => ?_)
  · refine sr_nil ?_
    refine aw_keep (keep_cons (t := 0) rfl (keep_cons (t := 1) rfl (keep_cons (t := 4) rfl (keep_cons (t := 14) rfl (keep_cons (t := 15) rfl (keep_cons (t := 16) rfl keep_nil)))))) ?_
    refine aw_seq ?_
    refine aw_true rfl ?_
    refine aw_skip ?_
    show AW _ _ _ _ _ _ _
    refine aw_seq ?_
    refine aw_block ?_
    refine aw_seq_region ?_
    refine sr_x rfl (wtd_none rfl) rfl (Rd.x (x_index Try.underlying107 sz3 ag3 rfl rfl (by omega) (by omega) (idx2 (a := 2 * (i : Int) + 1) (b := 2 * (i : Int) + 2) (by omega) (by omega)))) ?_
    refine sr_x rfl (wtd_none rfl) rfl (Rd.x (x_assign rfl)) ?_
    refine sr_nil ?_
    refine aw_keep (keep_cons (t := 0) rfl (keep_cons (t := 1) rfl (keep_cons (t := 4) rfl (keep_cons (t := 6) rfl (keep_cons (t := 14) rfl (keep_cons (t := 15) rfl (keep_cons (t := 16) rfl (keep_cons (t := 17) rfl keep_nil)))))))) ?_
    refine aw_seq_dr ⟨_, 24, 74, [[], [], [1], [1, 2], [1, 2, 3], [1, 2, 3, 4], [0, 1, 2, 3, 4, 5], [0, 1, 2, 3, 4, 5, 6], [0, 1, 2, 3, 4, 5, 6, 7], [0, 1, 2, 3, 4, 5, 6, 7, 8], [0, 1, 2, 3, 4, 5, 6, 7, 8, 9], [0, 1, 2, 3, 4, 5, 6, 7, 8, 9, 10], [0, 1, 2, 3, 4, 5, 6, 7], [0, 1, 2, 3, 4, 5, 6, 7, 8, 9, 10, 11, 12], [0, 1, 2, 3, 4, 5, 6, 7, 8, 9, 10, 11, 12, 13], [0, 1, 2, 3, 4, 5, 6, 7], [0, 1, 2, 3, 4, 5, 6, 7, 15], [0, 1, 2, 3, 4, 5, 6, 7, 15, 16], [0, 1, 2, 3, 4, 5, 6, 7, 15, 16, 17], [0, 1, 2, 3, 4, 5, 6, 7], [0, 1, 2, 3, 4, 5, 6, 7, 15, 16, 17, 18, 19], [0, 1, 2, 3, 4, 5, 6, 7, 15, 16, 17, 18, 19, 20], [0, 1, 2, 3, 4, 5, 6, 7, 8, 9, 10, 11, 12, 13, 14, 15, 16, 17, 18, 19, 20, 21], [0, 1, 2, 3, 4, 5, 6, 7, 8, 9, 10, 11, 12, 13, 14, 15, 16, 17, 18, 19, 20, 21, 22]], [.light, .light, .light, .light, .mem, .light, .light, .light, .light, .light, .light, .mem, .light, .light, .mem, .light, .light, .light, .mem, .light, .light, .mem, .call, .light]⟩ (by kernel_rfl) rfl rfl mix ?_
    refine dr_light rfl rfl (wtd_none rfl) (x_move rfl) ?_
    refine dr_light rfl rfl (wtd_none rfl) (x_move rfl) ?_
    refine dr_light rfl rfl (wtd_none rfl) (x_nilCheck rfl) ?_
    refine dr_light rfl rfl (wtd_none rfl) (x_fieldAddr fd64_0 rfl) ?_
    refine dr_mem0 rfl rfl (wtd_none rfl) (x_load ag22 rfl (cells_ext (by repeat (first | exact List.mem_cons_self | apply List.mem_cons_of_mem | apply List.mem_append_right)) (by repeat (first | exact Ext.all _ | exact Ext.done | apply Ext.take | apply Ext.skip)))) ?_
    refine dr_light rfl rfl (wtd_none rfl) (x_lenSlice Try.underlying22 rfl) ?_
    refine dr_cmp rfl rfl (wtd_none rfl) (x_lt rfl rfl) (fun h2 => ?_) (fun h2 => ?_)
    · refine dr_light rfl rfl (wtd_none rfl) (x_move rfl) ?_
      refine dr_light rfl rfl (wtd_yes rfl rfl rfl) (x_move rfl) ?_
      refine dr_light rfl rfl (wtd_yes rfl rfl rfl) (x_nilCheck rfl) ?_
      refine dr_light rfl rfl (wtd_yes rfl rfl rfl) (x_fieldAddr fd64_0 rfl) ?_
      refine dr_mem0 rfl rfl (wtd_yes rfl rfl rfl) (x_load ag22 rfl (cells_ext (by repeat (first | exact List.mem_cons_self | apply List.mem_cons_of_mem | apply List.mem_append_right)) (by repeat (first | exact Ext.all _ | exact Ext.done | apply Ext.take | apply Ext.skip)))) ?_
      refine dr_light rfl rfl (wtd_yes rfl rfl rfl) (x_move rfl) ?_
      refine dr_light rfl rfl (wtd_yes rfl rfl rfl) (x_indexAddrN (2 * i + 1 + m) Try.underlying22 sz28 rfl rfl rfl (by omega) (by omega)) ?_
      refine dr_mem0 rfl rfl (wtd_yes rfl rfl rfl) (x_loadN ag28 sz28 rfl ((cells_flat0 (n := 10) (enc := Job.cells) (fun _ => rfl) (xs := W) (post := post) (show (b, Obj.cells ((W).flatMap Job.cells ++ post).toArray 28 (0, 0)) ∈ _ from (by repeat (first | exact List.mem_cons_self | apply List.mem_cons_of_mem | apply List.mem_append_right))) (gj_some (by omega)))) rfl) ?_
      refine dr_light rfl rfl (wtd_yes rfl rfl rfl) (x_move rfl) ?_
      refine dr_light rfl rfl (wtd_yes rfl rfl rfl) (x_nilCheck rfl) ?_
      refine dr_light rfl rfl (wtd_yes rfl rfl rfl) (x_fieldAddr fd64_0 rfl) ?_
      refine dr_mem0 rfl rfl (wtd_yes rfl rfl rfl) (x_load ag22 rfl (cells_ext (by repeat (first | exact List.mem_cons_self | apply List.mem_cons_of_mem | apply List.mem_append_right)) (by repeat (first | exact Ext.all _ | exact Ext.done | apply Ext.take | apply Ext.skip)))) ?_
      refine dr_light rfl rfl (wtd_yes rfl rfl rfl) (x_move rfl) ?_
      refine dr_light rfl rfl (wtd_yes rfl rfl rfl) (x_indexAddrN k Try.underlying22 sz28 rfl rfl rfl (by omega) (by omega)) ?_
      refine dr_mem0 rfl rfl (wtd_yes rfl rfl rfl) (x_loadN ag28 sz28 rfl ((cells_flat0 (n := 10) (enc := Job.cells) (fun _ => rfl) (xs := W) (post := post) (show (b, Obj.cells ((W).flatMap Job.cells ++ post).toArray 28 (0, 0)) ∈ _ from (by repeat (first | exact List.mem_cons_self | apply List.mem_cons_of_mem | apply List.mem_append_right))) (gj_some (by omega)))) rfl) ?_
      refine dr_callq0 rfl rfl (wtd_yes rfl rfl rfl) (opS_F rfl rfl rfl rfl cl19 ((lessB_s (gj W (2 * i + 1 + m)) (gj W k) _))) (⟨_, rfl⟩) ?_
      rintro _ rfl
      by_cases ha2 : ahead (gj W (2 * i + 1 + m)) (gj W k)
      · rw [decide_eq_true ha2]
        refine dr_light rfl rfl (wtd_none rfl) (x_pick_t rfl rfl rfl) ?_
        refine dr_nil0 ?_
        refine aw_keep (keep_cons (t := 0) rfl (keep_cons (t := 1) rfl (keep_cons (t := 4) rfl (keep_cons (t := 6) rfl (keep_cons (t := 14) rfl (keep_cons (t := 15) rfl (keep_cons (t := 16) rfl (keep_cons (t := 17) rfl (keep_cons (t := 18) rfl (keep_cons (t := 19) rfl (keep_cons (t := 20) rfl (keep_cons (t := 21) rfl (keep_cons (t := 22) rfl (keep_cons (t := 23) rfl (keep_cons (t := 24) rfl (keep_cons (t := 25) rfl (keep_cons (t := 26) rfl (keep_cons (t := 27) rfl (keep_cons (t := 28) rfl (keep_cons (t := 29) rfl (keep_cons (t := 30) rfl (keep_cons (t := 31) rfl (keep_cons (t := 32) rfl (keep_cons (t := 33) rfl (keep_cons (t := 34) rfl (keep_cons (t := 35) rfl (keep_cons (t := 36) rfl (keep_cons (t := 37) rfl (keep_cons (t := 38) rfl (keep_cons (t := 39) rfl (keep_cons (t := 40) rfl (keep_cons (t := 41) rfl keep_nil)))))))))))))))))))))))))))))))) ?_
        refine aw_true rfl ?_
        refine aw_region ?_
        refine sr_x rfl (wtd_none rfl) rfl (Rd.x (x_move rfl)) ?_
        refine sr_x rfl (wtd_none rfl) rfl (Rd.x (x_assign rfl)) ?_
        refine sr_nil ?_
        show AW _ _ _ _ _ _ _
        refine aw_region ?_
        refine sr_x rfl (wtd_none rfl) rfl (Rd.x (x_add' rfl rfl (i64w (by omega) (by omega)))) ?_
        refine sr_x rfl (wtd_none rfl) rfl (Rd.x (x_move rfl)) ?_
        refine sr_nil ?_
        show ∃ s', _ ∧ _ ∧ _ ∧ _
        first | exact ⟨⟨m + 1, 2 * i + 1 + m⟩, hdi.take (by omega) (by omega) ha2, by dsimp only; omega, (by repeat (first | exact keep_nil | refine keep_cons rfl ?_)), (by repeat (first | exact Sub.refl _ | refine Sub.take (by repeat (first | exact Take.here | apply Take.there | apply Take.app)) ?_ | refine Sub.takeE (by repeat (first | exact TakeE.here | apply TakeE.there | apply TakeE.app)) ?_ | exact Sub.nil _ | apply Sub.drop | apply Sub.dropE))⟩ | exact ⟨⟨m + 1, k⟩, hdi.pass (by omega) (fun _ => ha2), by dsimp only; omega, (by repeat (first | exact keep_nil | refine keep_cons rfl ?_)), (by repeat (first | exact Sub.refl _ | refine Sub.take (by repeat (first | exact Take.here | apply Take.there | apply Take.app)) ?_ | refine Sub.takeE (by repeat (first | exact TakeE.here | apply TakeE.there | apply TakeE.app)) ?_ | exact Sub.nil _ | apply Sub.drop | apply Sub.dropE))⟩ | exact ⟨⟨m + 1, k⟩, hdi.pass (by omega) (fun h => by omega), by dsimp only; omega, (by repeat (first | exact keep_nil | refine keep_cons rfl ?_)), (by repeat (first | exact Sub.refl _ | refine Sub.take (by repeat (first | exact Take.here | apply Take.there | apply Take.app)) ?_ | refine Sub.takeE (by repeat (first | exact TakeE.here | apply TakeE.there | apply TakeE.app)) ?_ | exact Sub.nil _ | apply Sub.drop | apply Sub.dropE))⟩
      · rw [decide_eq_false ha2]
        refine dr_light rfl rfl (wtd_none rfl) (x_pick_t rfl rfl rfl) ?_
        refine dr_nil0 ?_
        refine aw_keep (keep_cons (t := 0) rfl (keep_cons (t := 1) rfl (keep_cons (t := 4) rfl (keep_cons (t := 6) rfl (keep_cons (t := 14) rfl (keep_cons (t := 15) rfl (keep_cons (t := 16) rfl (keep_cons (t := 17) rfl (keep_cons (t := 18) rfl (keep_cons (t := 19) rfl (keep_cons (t := 20) rfl (keep_cons (t := 21) rfl (keep_cons (t := 22) rfl (keep_cons (t := 23) rfl (keep_cons (t := 24) rfl (keep_cons (t := 25) rfl (keep_cons (t := 26) rfl (keep_cons (t := 27) rfl (keep_cons (t := 28) rfl (keep_cons (t := 29) rfl (keep_cons (t := 30) rfl (keep_cons (t := 31) rfl (keep_cons (t := 32) rfl (keep_cons (t := 33) rfl (keep_cons (t := 34) rfl (keep_cons (t := 35) rfl (keep_cons (t := 36) rfl (keep_cons (t := 37) rfl (keep_cons (t := 38) rfl (keep_cons (t := 39) rfl (keep_cons (t := 40) rfl (keep_cons (t := 41) rfl keep_nil)))))))))))))))))))))))))))))))) ?_
        refine aw_false rfl ?_
        refine aw_skip ?_
        show AW _ _ _ _ _ _ _
        refine aw_region ?_
        refine sr_x rfl (wtd_none rfl) rfl (Rd.x (x_add' rfl rfl (i64w (by omega) (by omega)))) ?_
        refine sr_x rfl (wtd_none rfl) rfl (Rd.x (x_move rfl)) ?_
        refine sr_nil ?_
        show ∃ s', _ ∧ _ ∧ _ ∧ _
        first | exact ⟨⟨m + 1, 2 * i + 1 + m⟩, hdi.take (by omega) (by omega) ha2, by dsimp only; omega, (by repeat (first | exact keep_nil | refine keep_cons rfl ?_)), (by repeat (first | exact Sub.refl _ | refine Sub.take (by repeat (first | exact Take.here | apply Take.there | apply Take.app)) ?_ | refine Sub.takeE (by repeat (first | exact TakeE.here | apply TakeE.there | apply TakeE.app)) ?_ | exact Sub.nil _ | apply Sub.drop | apply Sub.dropE))⟩ | exact ⟨⟨m + 1, k⟩, hdi.pass (by omega) (fun _ => ha2), by dsimp only; omega, (by repeat (first | exact keep_nil | refine keep_cons rfl ?_)), (by repeat (first | exact Sub.refl _ | refine Sub.take (by repeat (first | exact Take.here | apply Take.there | apply Take.app)) ?_ | refine Sub.takeE (by repeat (first | exact TakeE.here | apply TakeE.there | apply TakeE.app)) ?_ | exact Sub.nil _ | apply Sub.drop | apply Sub.dropE))⟩ | exact ⟨⟨m + 1, k⟩, hdi.pass (by omega) (fun h => by omega), by dsimp only; omega, (by repeat (first | exact keep_nil | refine keep_cons rfl ?_)), (by repeat (first | exact Sub.refl _ | refine Sub.take (by repeat (first | exact Take.here | apply Take.there | apply Take.app)) ?_ | refine Sub.takeE (by repeat (first | exact TakeE.here | apply TakeE.there | apply TakeE.app)) ?_ | exact Sub.nil _ | apply Sub.drop | apply Sub.dropE))⟩
    · refine dr_light rfl rfl (wtd_none rfl) (x_move rfl) ?_
      refine dr_skip rfl (wtd_no rfl rfl rfl rfl) ?_
      refine dr_skip rfl (wtd_no rfl rfl rfl rfl) ?_
      refine dr_skip rfl (wtd_no rfl rfl rfl rfl) ?_
      refine dr_skip rfl (wtd_no rfl rfl rfl rfl) ?_
      refine dr_skip rfl (wtd_no rfl rfl rfl rfl) ?_
      refine dr_skip rfl (wtd_no rfl rfl rfl rfl) ?_
      refine dr_skip rfl (wtd_no rfl rfl rfl rfl) ?_
      refine dr_skip rfl (wtd_no rfl rfl rfl rfl) ?_
      refine dr_skip rfl (wtd_no rfl rfl rfl rfl) ?_
      refine dr_skip rfl (wtd_no rfl rfl rfl rfl) ?_
      refine dr_skip rfl (wtd_no rfl rfl rfl rfl) ?_
      refine dr_skip rfl (wtd_no rfl rfl rfl rfl) ?_
      refine dr_skip rfl (wtd_no rfl rfl rfl rfl) ?_
      refine dr_skip rfl (wtd_no rfl rfl rfl rfl) ?_
      refine dr_skip rfl (wtd_no rfl rfl rfl rfl) ?_
      refine dr_light rfl rfl (wtd_none rfl) (x_pick_f rfl rfl rfl) ?_
      refine dr_nil0 ?_
      refine aw_keep (keep_cons (t := 0) rfl (keep_cons (t := 1) rfl (keep_cons (t := 4) rfl (keep_cons (t := 6) rfl (keep_cons (t := 14) rfl (keep_cons (t := 15) rfl (keep_cons (t := 16) rfl (keep_cons (t := 17) rfl (keep_cons (t := 18) rfl (keep_cons (t := 19) rfl (keep_cons (t := 20) rfl (keep_cons (t := 21) rfl (keep_cons (t := 22) rfl (keep_cons (t := 23) rfl (keep_cons (t := 24) rfl (keep_cons (t := 25) rfl (keep_cons (t := 26) rfl (keep_cons (t := 27) rfl (keep_cons (t := 28) rfl (keep_cons (t := 29) rfl (keep_cons (t := 30) rfl (keep_cons (t := 31) rfl (keep_cons (t := 32) rfl (keep_cons (t := 33) rfl (keep_cons (t := 34) rfl (keep_cons (t := 35) rfl (keep_cons (t := 36) rfl (keep_cons (t := 37) rfl (keep_cons (t := 38) rfl (keep_cons (t := 39) rfl (keep_cons (t := 40) rfl (keep_cons (t := 41) rfl keep_nil)))))))))))))))))))))))))))))))) ?_
      refine aw_false rfl ?_
      refine aw_skip ?_
      show AW _ _ _ _ _ _ _
      refine aw_region ?_
      refine sr_x rfl (wtd_none rfl) rfl (Rd.x (x_add' rfl rfl (i64w (by omega) (by omega)))) ?_
      refine sr_x rfl (wtd_none rfl) rfl (Rd.x (x_move rfl)) ?_
      refine sr_nil ?_
      show ∃ s', _ ∧ _ ∧ _ ∧ _
      first | exact ⟨⟨m + 1, 2 * i + 1 + m⟩, hdi.take (by omega) (by omega) ha2, by dsimp only; omega, (by repeat (first | exact keep_nil | refine keep_cons rfl ?_)), (by repeat (first | exact Sub.refl _ | refine Sub.take (by repeat (first | exact Take.here | apply Take.there | apply Take.app)) ?_ | refine Sub.takeE (by repeat (first | exact TakeE.here | apply TakeE.there | apply TakeE.app)) ?_ | exact Sub.nil _ | apply Sub.drop | apply Sub.dropE))⟩ | exact ⟨⟨m + 1, k⟩, hdi.pass (by omega) (fun _ => ha2), by dsimp only; omega, (by repeat (first | exact keep_nil | refine keep_cons rfl ?_)), (by repeat (first | exact Sub.refl _ | refine Sub.take (by repeat (first | exact Take.here | apply Take.there | apply Take.app)) ?_ | refine Sub.takeE (by repeat (first | exact TakeE.here | apply TakeE.there | apply TakeE.app)) ?_ | exact Sub.nil _ | apply Sub.drop | apply Sub.dropE))⟩ | exact ⟨⟨m + 1, k⟩, hdi.pass (by omega) (fun h => by omega), by dsimp only; omega, (by repeat (first | exact keep_nil | refine keep_cons rfl ?_)), (by repeat (first | exact Sub.refl _ | refine Sub.take (by repeat (first | exact Take.here | apply Take.there | apply Take.app)) ?_ | refine Sub.takeE (by repeat (first | exact TakeE.here | apply TakeE.there | apply TakeE.app)) ?_ | exact Sub.nil _ | apply Sub.drop | apply Sub.dropE))⟩
  · refine sr_nil ?_
    refine aw_keep (keep_cons (t := 0) rfl (keep_cons (t := 1) rfl (keep_cons (t := 4) rfl (keep_cons (t := 14) rfl (keep_cons (t := 15) rfl (keep_cons (t := 16) rfl keep_nil)))))) ?_
    refine aw_seq ?_
    refine aw_false rfl ?_
    refine aw_exit ?_
    show AW _ _ _ _ _ _ _
    refine aw_seq ?_
    refine aw_seq_region ?_
    refine sr_x rfl (wtd_none rfl) rfl (Rd.x (x_move rfl)) ?_
    refine sr_x rfl (wtd_none rfl) rfl (Rd.x (x_move rfl)) ?_
    refine sr_cmp rfl (wtd_none rfl) rfl (Rd.x (x_eq rfl rfl)) (fun h3 => ?_) (fun h3 => ?_)
    · refine sr_nil ?_
      refine aw_keep (keep_cons (t := 0) rfl (keep_cons (t := 1) rfl (keep_cons (t := 4) rfl (keep_cons (t := 14) rfl (keep_cons (t := 15) rfl (keep_cons (t := 16) rfl (keep_cons (t := 44) rfl (keep_cons (t := 45) rfl (keep_cons (t := 46) rfl keep_nil))))))))) ?_
      refine aw_true rfl ?_
      refine aw_ret ?_
      show ∃ v H2, ResV _ _ _ _ _ _ v ∧ Sub H2 _ ∧ _
      (obtain rfl : k = i := by omega); exact ⟨_, qu p (.slice (some ⟨b, 0, none⟩) W0'.length cap) :: qb b W post :: G, resV rfl .nil, Sub.refl _, W, hp, hdi.stop (by omega) hd, rfl, rfl⟩
    · refine sr_nil ?_
      refine aw_keep (keep_cons (t := 0) rfl (keep_cons (t := 1) rfl (keep_cons (t := 4) rfl (keep_cons (t := 14) rfl (keep_cons (t := 15) rfl (keep_cons (t := 16) rfl (keep_cons (t := 44) rfl (keep_cons (t := 45) rfl (keep_cons (t := 46) rfl keep_nil))))))))) ?_
      refine aw_false rfl ?_
      refine aw_skip ?_
      show AW _ _ _ _ _ _ _
      refine aw_seq_dr ⟨_, 28, 74, [[], [0], [0, 1], [0, 1, 2], [], [], [5], [5, 6], [5, 6, 7], [], [], [10], [10, 11], [10, 11, 12], [], [10, 11, 12, 13, 14], [10, 11, 12, 13, 14, 15], [], [17], [17, 18], [17, 18, 19], [], [17, 18, 19, 20, 21], [17, 18, 19, 20, 21, 22], [0, 1, 2, 3, 4, 5, 6, 7, 8, 10, 11, 12, 13, 14, 15, 16, 17, 18, 19, 20, 21, 22, 23], [0, 1, 2, 3, 4, 5, 6, 7, 8, 10, 11, 12, 13, 14, 15, 16, 17, 18, 19, 20, 21, 22, 23, 24], [0, 1, 2, 3, 4, 5, 6, 7, 8, 9, 10, 11, 12, 13, 14, 15, 16, 17, 18, 19, 20, 21, 22, 23, 24, 25], [0, 1, 2, 3, 4, 5, 6, 7, 8, 9, 10, 11, 12, 13, 14, 15, 16, 17, 18, 19, 20, 21, 22, 23, 24, 25, 26]], [.light, .light, .light, .mem, .light, .light, .light, .light, .mem, .light, .light, .light, .light, .mem, .light, .light, .mem, .light, .light, .light, .mem, .light, .light, .mem, .light, .eff, .light, .eff]⟩ (by kernel_rfl) rfl rfl mix ?_
      have hgo := hdi.go (by omega) (by omega) hd
      refine dr_light rfl rfl (wtd_none rfl) (x_move rfl) ?_
      refine dr_light rfl rfl (wtd_none rfl) (x_nilCheck rfl) ?_
      refine dr_light rfl rfl (wtd_none rfl) (x_fieldAddr fd64_0 rfl) ?_
      refine dr_mem0 rfl rfl (wtd_none rfl) (x_load ag22 rfl (cells_ext (by repeat (first | exact List.mem_cons_self | apply List.mem_cons_of_mem | apply List.mem_append_right)) (by repeat (first | exact Ext.all _ | exact Ext.done | apply Ext.take | apply Ext.skip)))) ?_
      refine dr_light rfl rfl (wtd_none rfl) (x_move rfl) ?_
      refine dr_light rfl rfl (wtd_none rfl) (x_move rfl) ?_
      refine dr_light rfl rfl (wtd_none rfl) (x_nilCheck rfl) ?_
      refine dr_light rfl rfl (wtd_none rfl) (x_fieldAddr fd64_0 rfl) ?_
      refine dr_mem0 rfl rfl (wtd_none rfl) (x_load ag22 rfl (cells_ext (by repeat (first | exact List.mem_cons_self | apply List.mem_cons_of_mem | apply List.mem_append_right)) (by repeat (first | exact Ext.all _ | exact Ext.done | apply Ext.take | apply Ext.skip)))) ?_
      refine dr_light rfl rfl (wtd_none rfl) (x_move rfl) ?_
      refine dr_light rfl rfl (wtd_none rfl) (x_move rfl) ?_
      refine dr_light rfl rfl (wtd_none rfl) (x_nilCheck rfl) ?_
      refine dr_light rfl rfl (wtd_none rfl) (x_fieldAddr fd64_0 rfl) ?_
      refine dr_mem0 rfl rfl (wtd_none rfl) (x_load ag22 rfl (cells_ext (by repeat (first | exact List.mem_cons_self | apply List.mem_cons_of_mem | apply List.mem_append_right)) (by repeat (first | exact Ext.all _ | exact Ext.done | apply Ext.take | apply Ext.skip)))) ?_
      refine dr_light rfl rfl (wtd_none rfl) (x_move rfl) ?_
      refine dr_light rfl rfl (wtd_none rfl) (x_indexAddrN k Try.underlying22 sz28 rfl rfl rfl (by omega) (by omega)) ?_
      refine dr_mem0 rfl rfl (wtd_none rfl) (x_loadN ag28 sz28 rfl ((cells_flat0 (n := 10) (enc := Job.cells) (fun _ => rfl) (xs := W) (post := post) (show (b, Obj.cells ((W).flatMap Job.cells ++ post).toArray 28 (0, 0)) ∈ _ from (by repeat (first | exact List.mem_cons_self | apply List.mem_cons_of_mem | apply List.mem_append_right))) (gj_some (by omega)))) rfl) ?_
      refine dr_light rfl rfl (wtd_none rfl) (x_move rfl) ?_
      refine dr_light rfl rfl (wtd_none rfl) (x_nilCheck rfl) ?_
      refine dr_light rfl rfl (wtd_none rfl) (x_fieldAddr fd64_0 rfl) ?_
      refine dr_mem0 rfl rfl (wtd_none rfl) (x_load ag22 rfl (cells_ext (by repeat (first | exact List.mem_cons_self | apply List.mem_cons_of_mem | apply List.mem_append_right)) (by repeat (first | exact Ext.all _ | exact Ext.done | apply Ext.take | apply Ext.skip)))) ?_
      refine dr_light rfl rfl (wtd_none rfl) (x_move rfl) ?_
      refine dr_light rfl rfl (wtd_none rfl) (x_indexAddrN i Try.underlying22 sz28 rfl rfl rfl (by omega) (by omega)) ?_
      refine dr_mem0 rfl rfl (wtd_none rfl) (x_loadN ag28 sz28 rfl ((cells_flat0 (n := 10) (enc := Job.cells) (fun _ => rfl) (xs := W) (post := post) (show (b, Obj.cells ((W).flatMap Job.cells ++ post).toArray 28 (0, 0)) ∈ _ from (by repeat (first | exact List.mem_cons_self | apply List.mem_cons_of_mem | apply List.mem_append_right))) (gj_some (by omega)))) rfl) ?_
      refine dr_light rfl rfl (wtd_none rfl) (x_indexAddrN i Try.underlying22 sz28 rfl rfl rfl (by omega) (by omega)) ?_
      refine dr_store0 rfl rfl (wtd_none rfl) (x_store sz28 rfl rfl rfl rfl rfl (by repeat (first | exact Repl.here | apply Repl.there | apply Repl.app)) (spl_flat0 (n := 10) (enc := Job.cells) (fun _ => rfl) (xs := W) (post := post) (i := i) (x' := gj W k) (by first | omega | (rw [List.length_set]; omega)))) (by first | rfl | simp [keys_append, keys_cons]) ?_
      refine dr_light rfl rfl (wtd_none rfl) (x_indexAddrN k Try.underlying22 sz28 rfl rfl rfl (by omega) (by omega)) ?_
      refine dr_store0 rfl rfl (wtd_none rfl) (x_store sz28 rfl rfl rfl rfl rfl (by repeat (first | exact Repl.here | apply Repl.there | apply Repl.app)) (spl_flat0 (n := 10) (enc := Job.cells) (fun _ => rfl) (xs := (W.set i (gj W k))) (post := post) (i := k) (x' := gj W i) (by first | omega | (rw [List.length_set]; omega)))) (by first | rfl | simp [keys_append, keys_cons]) ?_
      refine dr_nil0 ?_
      refine aw_keep (keep_cons (t := 0) rfl (keep_cons (t := 1) rfl (keep_cons (t := 4) rfl (keep_cons (t := 14) rfl (keep_cons (t := 15) rfl (keep_cons (t := 16) rfl (keep_cons (t := 44) rfl (keep_cons (t := 45) rfl (keep_cons (t := 46) rfl (keep_cons (t := 47) rfl (keep_cons (t := 48) rfl (keep_cons (t := 49) rfl (keep_cons (t := 50) rfl (keep_cons (t := 51) rfl (keep_cons (t := 52) rfl (keep_cons (t := 53) rfl (keep_cons (t := 54) rfl (keep_cons (t := 55) rfl (keep_cons (t := 56) rfl (keep_cons (t := 57) rfl (keep_cons (t := 58) rfl (keep_cons (t := 59) rfl (keep_cons (t := 60) rfl (keep_cons (t := 61) rfl (keep_cons (t := 62) rfl (keep_cons (t := 63) rfl (keep_cons (t := 64) rfl (keep_cons (t := 65) rfl (keep_cons (t := 66) rfl (keep_cons (t := 67) rfl (keep_cons (t := 68) rfl (keep_cons (t := 69) rfl (keep_cons (t := 70) rfl (keep_cons (t := 71) rfl (keep_cons (t := 72) rfl keep_nil))))))))))))))))))))))))))))))))))) ?_
      refine aw_region ?_
      refine sr_x rfl (wtd_none rfl) rfl (Rd.x (x_move rfl)) ?_
      refine sr_x rfl (wtd_none rfl) rfl (Rd.x (x_assign rfl)) ?_
      refine sr_nil ?_
      show ∃ s', _ ∧ _ ∧ _ ∧ _
      exact ⟨⟨k, ((W.set i (gj W k)).set k (gj W i))⟩, ⟨by dsimp only; rw [List.length_set, List.length_set]; exact hl, (swap_perm (by omega) (by omega) (by omega)).trans hp, .inl (by dsimp only; rw [List.length_set, List.length_set]; omega), hgo.1⟩, by dsimp only; omega, (by repeat (first | exact keep_nil | refine keep_cons rfl ?_)), (by repeat (first | exact Sub.refl _ | refine Sub.take (by repeat (first | exact Take.here | apply Take.there | apply Take.app)) ?_ | refine Sub.takeE (by repeat (first | exact TakeE.here | apply TakeE.there | apply TakeE.app)) ?_ | exact Sub.nil _ | apply Sub.drop | apply Sub.dropE))⟩
set_option maxRecDepth 100000 in
set_option maxHeartbeats 400000 in
theorem qlen_s (p : Nat) (a : Option Addr) (cap : Nat) (W : List Job) (H : SHeap) (hc : Cells W0 H p 0 [.slice a W.length cap]) : AC Try.prog W0 42 [.pointer (some ⟨p, 0, none⟩)] H (fun v H' => v = .int .i64 W.length ∧ H' = H) := by
  refine ac_of Try.func42 rfl rfl rfl ?_
  refine aw_seq_region ?_
  refine sr_x rfl (wtd_none rfl) rfl (Rd.x (x_assign rfl)) ?_
  refine sr_nil ?_
  refine aw_keep (keep_cons (t := 0) rfl (keep_cons (t := 2) rfl keep_nil)) ?_
  refine aw_seq ?_
  refine aw_seq_region ?_
  refine sr_x rfl (wtd_none rfl) rfl (Rd.x (x_move rfl)) ?_
  refine sr_x rfl (wtd_none rfl) rfl (Rd.x (x_eqnil Try.underlying58 rfl rfl)) ?_
  refine sr_nil ?_
  refine aw_keep (keep_cons (t := 0) rfl (keep_cons (t := 2) rfl (keep_cons (t := 4) rfl keep_nil))) ?_
  refine aw_false rfl ?_
  refine aw_skip ?_
  show AW _ _ _ _ _ _ _
  refine aw_seq_region ?_
  refine sr_x rfl (wtd_none rfl) rfl (Rd.x (x_move rfl)) ?_
  refine sr_x rfl (wtd_none rfl) rfl (Rd.x (x_nilCheck rfl)) ?_
  refine sr_x rfl (wtd_none rfl) rfl (Rd.x (x_fieldAddr fd64_0 rfl)) ?_
  refine sr_x rfl (wtd_none rfl) rfl (Rd.x (x_load ag22 rfl (cells_get (Cells.mono hc (by repeat (first | exact Sub.refl _ | apply Sub.drop))) 0 rfl))) ?_
  refine sr_x rfl (wtd_none rfl) rfl (Rd.x (x_lenSlice Try.underlying22 rfl)) ?_
  refine sr_x rfl (wtd_none rfl) rfl (Rd.x (x_assign rfl)) ?_
  refine sr_nil ?_
  refine aw_keep (keep_cons (t := 2) rfl keep_nil) ?_
  refine aw_ret ?_
  show ∃ v H2, ResV _ _ _ _ _ _ v ∧ Sub H2 _ ∧ _
  exact ⟨_, H, resV rfl (.cons rfl .nil), (by repeat (first | exact Sub.refl _ | apply Sub.drop)), ⟨rfl, rfl⟩⟩
set_option maxRecDepth 100000 in
set_option maxHeartbeats 400000 in
theorem qlenN_s (H : SHeap) : AC Try.prog W0 42 [.pointer none] H (fun v H' => v = .int .i64 0 ∧ H' = H) := by
  refine ac_of Try.func42 rfl rfl rfl ?_
  refine aw_seq_region ?_
  refine sr_x rfl (wtd_none rfl) rfl (Rd.x (x_assign rfl)) ?_
  refine sr_nil ?_
  refine aw_keep (keep_cons (t := 0) rfl (keep_cons (t := 2) rfl keep_nil)) ?_
  refine aw_seq ?_
  refine aw_seq_region ?_
  refine sr_x rfl (wtd_none rfl) rfl (Rd.x (x_move rfl)) ?_
  refine sr_x rfl (wtd_none rfl) rfl (Rd.x (x_eqnil Try.underlying58 rfl rfl)) ?_
  refine sr_nil ?_
  refine aw_keep (keep_cons (t := 0) rfl (keep_cons (t := 2) rfl (keep_cons (t := 4) rfl keep_nil))) ?_
  refine aw_true rfl ?_
  refine aw_seq_region ?_
  refine sr_x rfl (wtd_none rfl) rfl (Rd.x (x_assign rfl)) ?_
  refine sr_nil ?_
  refine aw_keep (keep_cons (t := 0) rfl (keep_cons (t := 2) rfl keep_nil)) ?_
  refine aw_ret ?_
  show ∃ v H2, ResV _ _ _ _ _ _ v ∧ Sub H2 _ ∧ _
  exact ⟨_, H, resV rfl (.cons rfl .nil), (by repeat (first | exact Sub.refl _ | apply Sub.drop)), ⟨rfl, rfl⟩⟩
set_option maxRecDepth 100000 in
set_option maxHeartbeats 400000 in
theorem peek0_s (p : Nat) (a : Option Addr) (cap : Nat) (W : List Job) (H : SHeap) (hc : Cells W0 H p 0 [.slice a W.length cap]) (h0 : W.length = 0) : AC Try.prog W0 43 [.pointer (some ⟨p, 0, none⟩)] H (fun v H' => v = .tuple #[jz.v, .bool false] ∧ H' = H) := by
  refine ac_of Try.func43 rfl rfl rfl ?_
  refine aw_seq_region ?_
  refine sr_new rfl (wtd_none rfl) rfl (x_alloc zr28 rfl) ?_
  intro r0_0 hr0_0 gr0_0
  refine sr_x rfl (wtd_none rfl) rfl (Rd.x (x_assign rfl)) ?_
  refine sr_nil ?_
  refine aw_keep (keep_cons (t := 0) rfl (keep_cons (t := 2) rfl (keep_cons (t := 3) rfl keep_nil))) ?_
  refine aw_seq ?_
  refine aw_seq_region ?_
  refine sr_x rfl (wtd_none rfl) rfl (Rd.x (x_move rfl)) ?_
  refine sr_d rfl (wtd_none rfl) rfl (opS_call rfl rfl rfl rfl cl42 (qlen_s p a cap W _ (Cells.mono hc (by repeat (first | exact Sub.refl _ | apply Sub.drop))))) ?_
  rintro _ H ⟨rfl, rfl⟩
  refine sr_cmp rfl (wtd_none rfl) rfl (Rd.x (x_eq rfl rfl)) (fun h1 => ?_) (fun h1 => absurd (by first | omega | decide) h1)
  refine sr_nil ?_
  refine aw_keep (keep_cons (t := 0) rfl (keep_cons (t := 2) rfl (keep_cons (t := 3) rfl (keep_cons (t := 6) rfl keep_nil)))) ?_
  refine aw_true rfl ?_
  refine aw_seq_region ?_
  refine sr_x rfl (wtd_none rfl) rfl (Rd.x (x_build zr28 rfl fl28 (by repeat (first | exact Parts.nil | (apply Parts.cons; rfl))) (by repeat (first | exact Fill.done | (apply Fill.part; rfl; rfl; rfl; focus (repeat (first | exact Spl.done | exact Spl.all rfl | apply Spl.put | apply Spl.skip))))))) ?_
  refine sr_x0 rfl (wtd_none rfl) (x_store sz28 rfl rfl rfl rfl rfl (by repeat (first | exact Repl.here | apply Repl.there | apply Repl.app)) (by repeat (first | exact Spl.done | exact Spl.all rfl | apply Spl.put | apply Spl.skip))) ?_
  refine sr_x rfl (wtd_none rfl) rfl (Rd.x (x_assign rfl)) ?_
  refine sr_nil ?_
  refine aw_keep (keep_cons (t := 0) rfl (keep_cons (t := 2) rfl (keep_cons (t := 3) rfl keep_nil))) ?_
  refine aw_ret ?_
  show ∃ v H2, ResV _ _ _ _ _ _ v ∧ Sub H2 _ ∧ _
  exact ⟨_, H, resV rfl (.cons (⟨_, rfl, fun hw => rd_loadVarN ag28 sz28 hw (cells_ext (by repeat (first | exact List.mem_cons_self | apply List.mem_cons_of_mem | apply List.mem_append_right)) (by repeat (first | exact Ext.all _ | exact Ext.done | apply Ext.take | apply Ext.skip))) rfl⟩) (.cons rfl .nil)), (by repeat (first | exact Sub.refl _ | apply Sub.drop)), ⟨rfl, rfl⟩⟩
set_option maxRecDepth 100000 in
set_option maxHeartbeats 400000 in
theorem peek_s (p : Nat) (a : Option Addr) (cap : Nat) (W : List Job) (H : SHeap) (hc : Cells W0 H p 0 [.slice a W.length cap]) (hs : SlV W0 H 10 Job.cells a cap W) (x : Job) (hx : W[0]? = some x) : AC Try.prog W0 43 [.pointer (some ⟨p, 0, none⟩)] H (fun v H' => v = .tuple #[x.v, .bool true] ∧ H' = H) := by
  have hl := get_lt hx
  have hle := hs.le
  have hcb := hs.capb
  obtain ⟨be, oe, hae, hce⟩ := hs.at_ 0 _ hx
  refine ac_of Try.func43 rfl rfl rfl ?_
  refine aw_seq_region ?_
  refine sr_new rfl (wtd_none rfl) rfl (x_alloc zr28 rfl) ?_
  intro r0_0 hr0_0 gr0_0
  refine sr_x rfl (wtd_none rfl) rfl (Rd.x (x_assign rfl)) ?_
  refine sr_nil ?_
  refine aw_keep (keep_cons (t := 0) rfl (keep_cons (t := 2) rfl (keep_cons (t := 3) rfl keep_nil))) ?_
  refine aw_seq ?_
  refine aw_seq_region ?_
  refine sr_x rfl (wtd_none rfl) rfl (Rd.x (x_move rfl)) ?_
  refine sr_d rfl (wtd_none rfl) rfl (opS_call rfl rfl rfl rfl cl42 (qlen_s p a cap W _ (Cells.mono hc (by repeat (first | exact Sub.refl _ | apply Sub.drop))))) ?_
  rintro _ H ⟨rfl, rfl⟩
  refine sr_cmp rfl (wtd_none rfl) rfl (Rd.x (x_eq rfl rfl)) (fun h1 => absurd h1 (by first | omega | decide)) (fun h1 => ?_)
  refine sr_nil ?_
  refine aw_keep (keep_cons (t := 0) rfl (keep_cons (t := 2) rfl (keep_cons (t := 3) rfl (keep_cons (t := 6) rfl keep_nil)))) ?_
  refine aw_false rfl ?_
  refine aw_skip ?_
  show AW _ _ _ _ _ _ _
  refine aw_seq_region ?_
  refine sr_x rfl (wtd_none rfl) rfl (Rd.x (x_move rfl)) ?_
  refine sr_x rfl (wtd_none rfl) rfl (Rd.x (x_nilCheck rfl)) ?_
  refine sr_x rfl (wtd_none rfl) rfl (Rd.x (x_fieldAddr fd64_0 rfl)) ?_
  refine sr_x rfl (wtd_none rfl) rfl (Rd.x (x_load ag22 rfl (cells_get (Cells.mono hc (by repeat (first | exact Sub.refl _ | apply Sub.drop))) 0 rfl))) ?_
  refine sr_x rfl (wtd_none rfl) rfl (Rd.x (x_indexAddrN 0 Try.underlying22 sz28 rfl hae rfl (by omega) (by omega))) ?_
  refine sr_x rfl (wtd_none rfl) rfl (Rd.x (x_loadN ag28 sz28 rfl (Cells.mono hce (by repeat (first | exact Sub.refl _ | apply Sub.drop))) rfl)) ?_
  refine sr_x0 rfl (wtd_none rfl) (x_store sz28 rfl rfl rfl rfl rfl (by repeat (first | exact Repl.here | apply Repl.there | apply Repl.app)) (by repeat (first | exact Spl.done | exact Spl.all rfl | apply Spl.put | apply Spl.skip))) ?_
  refine sr_x rfl (wtd_none rfl) rfl (Rd.x (x_assign rfl)) ?_
  refine sr_nil ?_
  refine aw_keep (keep_cons (t := 2) rfl (keep_cons (t := 3) rfl keep_nil)) ?_
  refine aw_ret ?_
  show ∃ v H2, ResV _ _ _ _ _ _ v ∧ Sub H2 _ ∧ _
  exact ⟨_, H, resV rfl (.cons (⟨_, rfl, fun hw => rd_loadVarN ag28 sz28 hw (cells_ext (by repeat (first | exact List.mem_cons_self | apply List.mem_cons_of_mem | apply List.mem_append_right)) (by repeat (first | exact Ext.all _ | exact Ext.done | apply Ext.take | apply Ext.skip))) rfl⟩) (.cons rfl .nil)), (by repeat (first | exact Sub.refl _ | apply Sub.drop)), ⟨rfl, rfl⟩⟩
set_option maxRecDepth 100000 in
set_option maxHeartbeats 400000 in
theorem popN_s (H : SHeap) : AC Try.prog W0 41 [.pointer none] H (fun v H' => v = .tuple #[jz.v, .bool false] ∧ H' = H) := by
  refine ac_of Try.func41 rfl rfl rfl ?_
  refine aw_seq_region ?_
  refine sr_new rfl (wtd_none rfl) rfl (x_alloc zr28 rfl) ?_
  intro r0_0 hr0_0 gr0_0
  refine sr_x rfl (wtd_none rfl) rfl (Rd.x (x_assign rfl)) ?_
  refine sr_nil ?_
  refine aw_keep (keep_cons (t := 0) rfl (keep_cons (t := 2) rfl (keep_cons (t := 3) rfl keep_nil))) ?_
  refine aw_seq ?_
  refine aw_seq_region ?_
  refine sr_x rfl (wtd_none rfl) rfl (Rd.x (x_move rfl)) ?_
  refine sr_d rfl (wtd_none rfl) rfl (opS_call rfl rfl rfl rfl cl42 (qlenN_s _)) ?_
  rintro _ H ⟨rfl, rfl⟩
  refine sr_cmp rfl (wtd_none rfl) rfl (Rd.x (x_eq rfl rfl)) (fun h1 => ?_) (fun h1 => absurd (by first | omega | decide) h1)
  refine sr_nil ?_
  refine aw_keep (keep_cons (t := 0) rfl (keep_cons (t := 2) rfl (keep_cons (t := 3) rfl (keep_cons (t := 8) rfl keep_nil)))) ?_
  refine aw_true rfl ?_
  refine aw_seq_region ?_
  refine sr_x rfl (wtd_none rfl) rfl (Rd.x (x_build zr28 rfl fl28 (by repeat (first | exact Parts.nil | (apply Parts.cons; rfl))) (by repeat (first | exact Fill.done | (apply Fill.part; rfl; rfl; rfl; focus (repeat (first | exact Spl.done | exact Spl.all rfl | apply Spl.put | apply Spl.skip))))))) ?_
  refine sr_x0 rfl (wtd_none rfl) (x_store sz28 rfl rfl rfl rfl rfl (by repeat (first | exact Repl.here | apply Repl.there | apply Repl.app)) (by repeat (first | exact Spl.done | exact Spl.all rfl | apply Spl.put | apply Spl.skip))) ?_
  refine sr_x rfl (wtd_none rfl) rfl (Rd.x (x_assign rfl)) ?_
  refine sr_nil ?_
  refine aw_keep (keep_cons (t := 0) rfl (keep_cons (t := 2) rfl (keep_cons (t := 3) rfl keep_nil))) ?_
  refine aw_ret ?_
  show ∃ v H2, ResV _ _ _ _ _ _ v ∧ Sub H2 _ ∧ _
  exact ⟨_, H, resV rfl (.cons (⟨_, rfl, fun hw => rd_loadVarN ag28 sz28 hw (cells_ext (by repeat (first | exact List.mem_cons_self | apply List.mem_cons_of_mem | apply List.mem_append_right)) (by repeat (first | exact Ext.all _ | exact Ext.done | apply Ext.take | apply Ext.skip))) rfl⟩) (.cons rfl .nil)), (by repeat (first | exact Sub.refl _ | apply Sub.drop)), ⟨rfl, rfl⟩⟩
set_option maxRecDepth 100000 in
set_option maxHeartbeats 400000 in
theorem pushN_s (sl : Value) (H : SHeap) : AC Try.prog W0 40 [.pointer none, sl] H (fun v H' => v = .tuple #[] ∧ H' = H) := by
  refine ac_of Try.func40 rfl rfl rfl ?_
  refine aw_seq ?_
  refine aw_seq_region ?_
  refine sr_x rfl (wtd_none rfl) rfl (Rd.x (x_move rfl)) ?_
  refine sr_x rfl (wtd_none rfl) rfl (Rd.x (x_eqnil Try.underlying58 rfl rfl)) ?_
  refine sr_nil ?_
  refine aw_keep (keep_cons (t := 0) rfl (keep_cons (t := 1) rfl (keep_cons (t := 7) rfl keep_nil))) ?_
  refine aw_true rfl ?_
  refine aw_ret ?_
  show ∃ v H2, ResV _ _ _ _ _ _ v ∧ Sub H2 _ ∧ _
  exact ⟨_, H, resV rfl .nil, (by repeat (first | exact Sub.refl _ | apply Sub.drop)), ⟨rfl, rfl⟩⟩
set_option maxRecDepth 100000 in
set_option maxHeartbeats 400000 in
theorem pop0_s (p : Nat) (a : Option Addr) (cap : Nat) (W : List Job) (E G : SHeap) (V : OwnVec 10 28 (.slice a W.length cap) W.length (W.flatMap Job.cells) E) (hn : W.length ≤ 100000) (h0 : W.length = 0) : AC Try.prog W0 41 [.pointer (some ⟨p, 0, none⟩)] (qu p (.slice a W.length cap) :: (E ++ G)) (fun v H' => v = .tuple #[jz.v, .bool false] ∧ H' = qu p (.slice a W.length cap) :: (E ++ G)) := by
  refine ac_of Try.func41 rfl rfl rfl ?_
  refine aw_seq_region ?_
  refine sr_new rfl (wtd_none rfl) rfl (x_alloc zr28 rfl) ?_
  intro r0_0 hr0_0 gr0_0
  refine sr_x rfl (wtd_none rfl) rfl (Rd.x (x_assign rfl)) ?_
  refine sr_nil ?_
  refine aw_keep (keep_cons (t := 0) rfl (keep_cons (t := 2) rfl (keep_cons (t := 3) rfl keep_nil))) ?_
  refine aw_seq ?_
  refine aw_seq_region ?_
  refine sr_x rfl (wtd_none rfl) rfl (Rd.x (x_move rfl)) ?_
  refine sr_d rfl (wtd_none rfl) rfl (opS_call rfl rfl rfl rfl cl42 (qlen_s p a cap W _ (cells_ext (by repeat (first | exact List.mem_cons_self | apply List.mem_cons_of_mem | apply List.mem_append_right)) (by repeat (first | exact Ext.all _ | exact Ext.done | apply Ext.take | apply Ext.skip))))) ?_
  rintro _ H9 ⟨rfl, rfl⟩
  refine sr_cmp rfl (wtd_none rfl) rfl (Rd.x (x_eq rfl rfl)) (fun h1 => ?_) (fun h1 => absurd (by first | omega | decide) h1)
  refine sr_nil ?_
  refine aw_keep (keep_cons (t := 0) rfl (keep_cons (t := 2) rfl (keep_cons (t := 3) rfl (keep_cons (t := 8) rfl keep_nil)))) ?_
  refine aw_true rfl ?_
  refine aw_seq_region ?_
  refine sr_x rfl (wtd_none rfl) rfl (Rd.x (x_build zr28 rfl fl28 (by repeat (first | exact Parts.nil | (apply Parts.cons; rfl))) (by repeat (first | exact Fill.done | (apply Fill.part; rfl; rfl; rfl; focus (repeat (first | exact Spl.done | exact Spl.all rfl | apply Spl.put | apply Spl.skip))))))) ?_
  refine sr_x0 rfl (wtd_none rfl) (x_store sz28 rfl rfl rfl rfl rfl (by repeat (first | exact Repl.here | apply Repl.there | apply Repl.app)) (by repeat (first | exact Spl.done | exact Spl.all rfl | apply Spl.put | apply Spl.skip))) ?_
  refine sr_x rfl (wtd_none rfl) rfl (Rd.x (x_assign rfl)) ?_
  refine sr_nil ?_
  refine aw_keep (keep_cons (t := 0) rfl (keep_cons (t := 2) rfl (keep_cons (t := 3) rfl keep_nil))) ?_
  refine aw_ret ?_
  show ∃ v H2, ResV _ _ _ _ _ _ v ∧ Sub H2 _ ∧ _
  exact ⟨_, _, resV rfl (.cons (⟨_, rfl, fun hw => rd_loadVarN ag28 sz28 hw (cells_ext (by repeat (first | exact List.mem_cons_self | apply List.mem_cons_of_mem | apply List.mem_append_right)) (by repeat (first | exact Ext.all _ | exact Ext.done | apply Ext.take | apply Ext.skip))) rfl⟩) (.cons rfl .nil)), (by repeat (first | exact Sub.refl _ | refine Sub.take (by repeat (first | exact Take.here | apply Take.there | apply Take.app)) ?_ | refine Sub.takeE (by repeat (first | exact TakeE.here | apply TakeE.there | apply TakeE.app)) ?_ | exact Sub.nil _ | apply Sub.drop | apply Sub.dropE)), ⟨rfl, rfl⟩⟩
set_option maxRecDepth 100000 in
set_option maxHeartbeats 2000000 in
theorem popR_s (p b cap : Nat) (W : List Job) (post : List Value) (G : SHeap) (hn : W.length ≤ 100000) (hc : W.length ≤ cap) (hcb : cap ≤ 9223372036854775807) (h0 : 0 < W.length) (hh : HeapQ W) : AC Try.prog W0 41 [.pointer (some ⟨p, 0, none⟩)] (qu p (.slice (some ⟨b, 0, none⟩) W.length cap) :: qb b W post :: G) (fun v H' => ∃ W' post', (gj W 0 :: W').Perm W ∧ HeapQ W' ∧ post'.length = post.length + 10 ∧ v = .tuple #[(gj W 0).v, .bool true] ∧ H' = qu p (.slice (some ⟨b, 0, none⟩) W'.length cap) :: qb b W' post' :: G) := by
  refine ac_of Try.func41 rfl rfl rfl ?_
  refine aw_seq_region ?_
  refine sr_new rfl (wtd_none rfl) rfl (x_alloc zr28 rfl) ?_
  intro r0_0 hr0_0 gr0_0
  refine sr_x rfl (wtd_none rfl) rfl (Rd.x (x_assign rfl)) ?_
  refine sr_nil ?_
  refine aw_keep (keep_cons (t := 0) rfl (keep_cons (t := 2) rfl (keep_cons (t := 3) rfl keep_nil))) ?_
  refine aw_seq ?_
  refine aw_seq_region ?_
  refine sr_x rfl (wtd_none rfl) rfl (Rd.x (x_move rfl)) ?_
  refine sr_d rfl (wtd_none rfl) rfl (opS_call rfl rfl rfl rfl cl42 (qlen_s p (some ⟨b, 0, none⟩) cap W _ (cells_ext (by repeat (first | exact List.mem_cons_self | apply List.mem_cons_of_mem | apply List.mem_append_right)) (by repeat (first | exact Ext.all _ | exact Ext.done | apply Ext.take | apply Ext.skip))))) ?_
  rintro _ H9 ⟨rfl, rfl⟩
  refine sr_cmp rfl (wtd_none rfl) rfl (Rd.x (x_eq rfl rfl)) (fun h1 => absurd h1 (by first | omega | decide)) (fun h1 => ?_)
  refine sr_nil ?_
  refine aw_keep (keep_cons (t := 0) rfl (keep_cons (t := 2) rfl (keep_cons (t := 3) rfl (keep_cons (t := 8) rfl keep_nil)))) ?_
  refine aw_false rfl ?_
  refine aw_skip ?_
  show AW _ _ _ _ _ _ _
  refine aw_seq_region ?_
  refine sr_x rfl (wtd_none rfl) rfl (Rd.x (x_move rfl)) ?_
  refine sr_x rfl (wtd_none rfl) rfl (Rd.x (x_nilCheck rfl)) ?_
  refine sr_x rfl (wtd_none rfl) rfl (Rd.x (x_fieldAddr fd64_0 rfl)) ?_
  refine sr_x rfl (wtd_none rfl) rfl (Rd.x (x_load ag22 rfl (cells_ext (by repeat (first | exact List.mem_cons_self | apply List.mem_cons_of_mem | apply List.mem_append_right)) (by repeat (first | exact Ext.all _ | exact Ext.done | apply Ext.take | apply Ext.skip))))) ?_
  refine sr_x rfl (wtd_none rfl) rfl (Rd.x (x_indexAddrN 0 Try.underlying22 sz28 rfl rfl rfl (by omega) (by omega))) ?_
  refine sr_x rfl (wtd_none rfl) rfl (Rd.x (x_loadN ag28 sz28 rfl ((cells_flat0 (n := 10) (enc := Job.cells) (fun _ => rfl) (xs := W) (post := post) (show (b, Obj.cells ((W).flatMap Job.cells ++ post).toArray 28 (0, 0)) ∈ _ from (by repeat (first | exact List.mem_cons_self | apply List.mem_cons_of_mem | apply List.mem_append_right))) (gj_some (by omega)))) rfl)) ?_
  refine sr_new rfl (wtd_none rfl) rfl (x_alloc zr28 rfl) ?_
  intro r3_6 hr3_6 gr3_6
  refine sr_x0 rfl (wtd_none rfl) (x_store sz28 rfl rfl rfl rfl rfl (by repeat (first | exact Repl.here | apply Repl.there | apply Repl.app)) (by repeat (first | exact Spl.done | exact Spl.all rfl | apply Spl.put | apply Spl.skip))) ?_
  refine sr_nil ?_
  refine aw_keep (keep_cons (t := 0) rfl (keep_cons (t := 2) rfl (keep_cons (t := 3) rfl (keep_cons (t := 4) rfl keep_nil)))) ?_
  refine aw_seq_region ?_
  refine sr_x rfl (wtd_none rfl) rfl (Rd.x (x_move rfl)) ?_
  refine sr_x rfl (wtd_none rfl) rfl (Rd.x (x_nilCheck rfl)) ?_
  refine sr_x rfl (wtd_none rfl) rfl (Rd.x (x_fieldAddr fd64_0 rfl)) ?_
  refine sr_x rfl (wtd_none rfl) rfl (Rd.x (x_load ag22 rfl (cells_ext (by repeat (first | exact List.mem_cons_self | apply List.mem_cons_of_mem | apply List.mem_append_right)) (by repeat (first | exact Ext.all _ | exact Ext.done | apply Ext.take | apply Ext.skip))))) ?_
  refine sr_x rfl (wtd_none rfl) rfl (Rd.x (x_lenSlice Try.underlying22 rfl)) ?_
  refine sr_x rfl (wtd_none rfl) rfl (Rd.x (x_sub' rfl rfl (i64w (by omega) (by omega)))) ?_
  refine sr_x rfl (wtd_none rfl) rfl (Rd.x (x_assign rfl)) ?_
  refine sr_nil ?_
  refine aw_keep (keep_cons (t := 0) rfl (keep_cons (t := 2) rfl (keep_cons (t := 3) rfl (keep_cons (t := 4) rfl (keep_cons (t := 5) rfl keep_nil))))) ?_
  refine aw_seq_dr ⟨_, 13, 46, [[], [0], [0, 1], [0, 1, 2], [], [4], [4, 5], [4, 5, 6], [], [4, 5, 6, 7, 8], [4, 5, 6, 7, 8, 9], [0, 1, 2, 3, 4, 5, 6, 7, 8, 9, 10], [0, 1, 2, 3, 4, 5, 6, 7, 8, 9, 10, 11]], [.light, .light, .light, .mem, .light, .light, .light, .mem, .light, .light, .mem, .light, .eff]⟩ (by kernel_rfl) rfl rfl mix ?_
  refine dr_light rfl rfl (wtd_none rfl) (x_move rfl) ?_
  refine dr_light rfl rfl (wtd_none rfl) (x_nilCheck rfl) ?_
  refine dr_light rfl rfl (wtd_none rfl) (x_fieldAddr fd64_0 rfl) ?_
  refine dr_mem0 rfl rfl (wtd_none rfl) (x_load ag22 rfl (cells_ext (by repeat (first | exact List.mem_cons_self | apply List.mem_cons_of_mem | apply List.mem_append_right)) (by repeat (first | exact Ext.all _ | exact Ext.done | apply Ext.take | apply Ext.skip)))) ?_
  refine dr_light rfl rfl (wtd_none rfl) (x_move rfl) ?_
  refine dr_light rfl rfl (wtd_none rfl) (x_nilCheck rfl) ?_
  refine dr_light rfl rfl (wtd_none rfl) (x_fieldAddr fd64_0 rfl) ?_
  refine dr_mem0 rfl rfl (wtd_none rfl) (x_load ag22 rfl (cells_ext (by repeat (first | exact List.mem_cons_self | apply List.mem_cons_of_mem | apply List.mem_append_right)) (by repeat (first | exact Ext.all _ | exact Ext.done | apply Ext.take | apply Ext.skip)))) ?_
  refine dr_light rfl rfl (wtd_none rfl) (x_move rfl) ?_
  refine dr_light rfl rfl (wtd_none rfl) (x_indexAddrN (W.length - 1) Try.underlying22 sz28 rfl rfl rfl (by omega) (by omega)) ?_
  refine dr_mem0 rfl rfl (wtd_none rfl) (x_loadN ag28 sz28 rfl ((cells_flat0 (n := 10) (enc := Job.cells) (fun _ => rfl) (xs := W) (post := post) (show (b, Obj.cells ((W).flatMap Job.cells ++ post).toArray 28 (0, 0)) ∈ _ from (by repeat (first | exact List.mem_cons_self | apply List.mem_cons_of_mem | apply List.mem_append_right))) (gj_some (by omega)))) rfl) ?_
  refine dr_light rfl rfl (wtd_none rfl) (x_indexAddrN 0 Try.underlying22 sz28 rfl rfl rfl (by omega) (by omega)) ?_
  refine dr_store0 rfl rfl (wtd_none rfl) (x_store sz28 rfl rfl rfl rfl rfl (by repeat (first | exact Repl.here | apply Repl.there | apply Repl.app)) (spl_flat0 (n := 10) (enc := Job.cells) (fun _ => rfl) (xs := W) (post := post) (i := 0) (x' := gj W (W.length - 1)) (by first | omega | (rw [List.length_set]; omega)))) (by first | rfl | simp [keys_append, keys_cons]) ?_
  refine dr_nil0 ?_
  refine aw_keep (keep_cons (t := 0) rfl (keep_cons (t := 2) rfl (keep_cons (t := 3) rfl (keep_cons (t := 4) rfl (keep_cons (t := 5) rfl keep_nil))))) ?_
  refine aw_seq_region ?_
  refine sr_x rfl (wtd_none rfl) rfl (Rd.x (x_move rfl)) ?_
  refine sr_x rfl (wtd_none rfl) rfl (Rd.x (x_move rfl)) ?_
  refine sr_x rfl (wtd_none rfl) rfl (Rd.x (x_nilCheck rfl)) ?_
  refine sr_x rfl (wtd_none rfl) rfl (Rd.x (x_fieldAddr fd64_0 rfl)) ?_
  refine sr_x rfl (wtd_none rfl) rfl (Rd.x (x_load ag22 rfl (cells_ext (by repeat (first | exact List.mem_cons_self | apply List.mem_cons_of_mem | apply List.mem_append_right)) (by repeat (first | exact Ext.all _ | exact Ext.done | apply Ext.take | apply Ext.skip))))) ?_
  refine sr_x rfl (wtd_none rfl) rfl (Rd.x (x_move rfl)) ?_
  refine sr_x rfl (wtd_none rfl) rfl (Rd.x (x_sliceHiK (W.length - 1) Try.underlying22 sz28 rfl rfl (by omega) (by omega))) ?_
  refine sr_x rfl (wtd_none rfl) rfl (Rd.x (x_nilCheck rfl)) ?_
  refine sr_x rfl (wtd_none rfl) rfl (Rd.x (x_fieldAddr fd64_0 rfl)) ?_
  refine sr_x0 rfl (wtd_none rfl) (x_store sz22 rfl rfl rfl rfl rfl (by repeat (first | exact Repl.here | apply Repl.there | apply Repl.app)) (by repeat (first | exact Spl.done | exact Spl.all rfl | apply Spl.put | apply Spl.skip))) ?_
  refine sr_nil ?_
  refine aw_keep (keep_cons (t := 0) rfl (keep_cons (t := 2) rfl (keep_cons (t := 3) rfl (keep_cons (t := 4) rfl keep_nil)))) ?_
  refine aw_seq_region ?_
  obtain ⟨post2, hp1, hp2⟩ := popL_cells (W := W) (post := post) h0
  rw [hp1]
  have hpl := popL_len (W := W)
  have hpp := popL_perm (gj_some h0)
  rw [show W.length - 1 = (popL W).length from hpl.symm]
  refine sr_x rfl (wtd_none rfl) rfl (Rd.x (x_move rfl)) ?_
  refine sr_d rfl (wtd_none rfl) rfl (opS_call rfl rfl rfl rfl cl65 (AC.sub (by repeat (first | exact Sub.refl _ | refine Sub.take (by repeat (first | exact Take.here | apply Take.there | apply Take.app)) ?_ | refine Sub.takeE (by repeat (first | exact TakeE.here | apply TakeE.there | apply TakeE.app)) ?_ | exact Sub.nil _ | apply Sub.drop | apply Sub.dropE)) (down_s p b cap (popL W) post2 ((r3_6, .cells (Job.cells (gj W 0)).toArray 28 (0, 0)) :: (r0_0, .cells (Job.cells jz).toArray 28 (0, 0)) :: G) (by omega) (by omega) hcb (popL_down hh)))) ?_
  rintro _ _ ⟨W1, hw1, hw2, rfl, rfl⟩
  rw [hw1.length_eq.symm]
  refine sr_nil ?_
  refine aw_keep (keep_cons (t := 2) rfl (keep_cons (t := 3) rfl (keep_cons (t := 4) rfl keep_nil))) ?_
  refine aw_seq_region ?_
  refine sr_x rfl (wtd_none rfl) rfl (Rd.x (x_loadN ag28 sz28 rfl (cells_ext (by repeat (first | exact List.mem_cons_self | apply List.mem_cons_of_mem | apply List.mem_append_right)) (by repeat (first | exact Ext.all _ | exact Ext.done | apply Ext.take | apply Ext.skip))) rfl)) ?_
  refine sr_x0 rfl (wtd_none rfl) (x_store sz28 rfl rfl rfl rfl rfl (by repeat (first | exact Repl.here | apply Repl.there | apply Repl.app)) (by repeat (first | exact Spl.done | exact Spl.all rfl | apply Spl.put | apply Spl.skip))) ?_
  refine sr_x rfl (wtd_none rfl) rfl (Rd.x (x_assign rfl)) ?_
  refine sr_nil ?_
  refine aw_keep (keep_cons (t := 2) rfl (keep_cons (t := 3) rfl keep_nil)) ?_
  refine aw_ret ?_
  show ∃ v H2, ResV _ _ _ _ _ _ v ∧ Sub H2 _ ∧ _
  exact ⟨_, qu p (.slice (some ⟨b, 0, none⟩) W1.length cap) :: qb b W1 post2 :: G, resV rfl (.cons (⟨_, rfl, fun hw => rd_loadVarN ag28 sz28 hw (cells_ext (by repeat (first | exact List.mem_cons_self | apply List.mem_cons_of_mem | apply List.mem_append_right)) (by repeat (first | exact Ext.all _ | exact Ext.done | apply Ext.take | apply Ext.skip))) rfl⟩) (.cons rfl .nil)), (by (repeat (first | exact Sub.refl _ | refine Sub.take (by repeat (first | exact Take.here | apply Take.there | apply Take.app)) ?_ | refine Sub.takeE (by repeat (first | exact TakeE.here | apply TakeE.there | apply TakeE.app)) ?_ | exact Sub.nil _ | apply Sub.drop | apply Sub.dropE)); first | done | fail), W1, post2, (hw1.cons _).trans hpp, hw2, hp2, rfl, rfl⟩
theorem pop_s (p : Nat) (a : Option Addr) (cap : Nat) (W : List Job) (E G : SHeap) (V : OwnVec 10 28 (.slice a W.length cap) W.length (W.flatMap Job.cells) E) (hn : W.length ≤ 100000) (h0 : 0 < W.length) (hh : HeapQ W) : AC Try.prog W0 41 [.pointer (some ⟨p, 0, none⟩)] (qu p (.slice a W.length cap) :: (E ++ G)) (fun v H' => ∃ W' c' E', (gj W 0 :: W').Perm W ∧ HeapQ W' ∧ OwnVec 10 28 (.slice a W'.length cap) W'.length (W'.flatMap Job.cells) E' ∧ v = .tuple #[(gj W 0).v, .bool true] ∧ c' = 0 ∧ H' = qu p (.slice a W'.length cap) :: (E' ++ G)) := by
  obtain ⟨b, rfl, _⟩ := V.pos h0
  obtain ⟨_, _, post, rfl, hL, hp, hc, hcb⟩ := V.blk
  refine (popR_s p b cap W post G hn hc hcb h0 hh).mono fun v H' h => ?_
  obtain ⟨W', post', h1, h2, h3, h4, h5⟩ := h
  have hl : W'.length + 1 = W.length := h1.length_eq
  exact ⟨W', 0, [qb b W' post'], h1, h2, .mk (flat_len (n := 10) (fun _ => rfl) _) (by rw [h3, hp, show cap - W'.length = (cap - W.length) + 1 by omega]; omega) (by omega) hcb, h4, rfl, h5⟩
theorem upV_s (p : Nat) (a : Option Addr) (cap : Nat) (W : List Job) (E G : SHeap) (V : OwnVec 10 28 (.slice a W.length cap) W.length (W.flatMap Job.cells) E) (hn : W.length ≤ 100000) (i : Nat) (hi : i < W.length) (hu : UpQ W i) : AC Try.prog W0 64 [.pointer (some ⟨p, 0, none⟩), .int .i64 i] (qu p (.slice a W.length cap) :: (E ++ G)) (fun v H' => ∃ W' E', W'.Perm W ∧ HeapQ W' ∧ OwnVec 10 28 (.slice a W'.length cap) W'.length (W'.flatMap Job.cells) E' ∧ v = .tuple #[] ∧ H' = qu p (.slice a W'.length cap) :: (E' ++ G)) := by
  obtain ⟨b, rfl, _⟩ := V.pos (show 0 < W.length by omega)
  obtain ⟨_, _, post, rfl, hL, hp, hc, hcb⟩ := V.blk
  refine (up_s p b cap W post G hn hc hcb i hi hu).mono fun v H' h => ?_
  obtain ⟨W', h1, h2, h3, h4⟩ := h
  have hl : W'.length = W.length := h1.length_eq
  rw [← hl] at h4
  exact ⟨W', [qb b W' post], h1, h2, .mk (flat_len (n := 10) (fun _ => rfl) _) (by rw [hp, hl]) (by omega) hcb, h3, h4⟩
set_option maxRecDepth 100000 in
set_option maxHeartbeats 2000000 in
theorem push_s (p : Nat) (a : Option Addr) (cap : Nat) (W1 : List Job) (E G : SHeap) (V : OwnVec 10 28 (.slice a W1.length cap) W1.length (W1.flatMap Job.cells) E) (hn : W1.length ≤ 1000) (hh : HeapQ W1) (sa : Option Addr) (scap : Nat) (xs : List Job) (hs : SlV W0 G 10 Job.cells sa scap xs) (hxs : xs.length ≤ 1000) : AC Try.prog W0 40 [.pointer (some ⟨p, 0, none⟩), .slice sa xs.length scap] (qu p (.slice a W1.length cap) :: (E ++ G)) (fun v H' => ∃ W a' c' E', W.Perm (W1 ++ xs) ∧ HeapQ W ∧ OwnVec 10 28 (.slice a' W.length c') W.length (W.flatMap Job.cells) E' ∧ v = .tuple #[] ∧ H' = qu p (.slice a' W.length c') :: (E' ++ G)) := by
  have hle := hs.le
  have hcb := hs.capb
  refine ac_of Try.func40 rfl rfl rfl ?_
  refine aw_seq ?_
  refine aw_seq_region ?_
  refine sr_x rfl (wtd_none rfl) rfl (Rd.x (x_move rfl)) ?_
  refine sr_x rfl (wtd_none rfl) rfl (Rd.x (x_eqnil Try.underlying58 rfl rfl)) ?_
  refine sr_nil ?_
  refine aw_keep (keep_cons (t := 0) rfl (keep_cons (t := 1) rfl (keep_cons (t := 7) rfl keep_nil))) ?_
  refine aw_false rfl ?_
  refine aw_skip ?_
  show AW _ _ _ _ _ _ _
  refine aw_seq_region ?_
  refine sr_x rfl (wtd_none rfl) rfl (Rd.x (x_move rfl)) ?_
  refine sr_x rfl (wtd_none rfl) rfl (Rd.x (x_lenSlice Try.underlying22 rfl)) ?_
  refine sr_x rfl (wtd_none rfl) rfl (Rd.x (x_move rfl)) ?_
  refine sr_nil ?_
  refine aw_keep (keep_cons (t := 0) rfl (keep_cons (t := 8) rfl (keep_cons (t := 9) rfl (keep_cons (t := 10) rfl keep_nil)))) ?_
  refine aw_block ?_
  refine aw_loop (ι := PG) (fun s => s.k ≤ xs.length ∧ s.W.Perm (W1 ++ xs.take s.k) ∧ HeapQ s.W ∧ OwnVec 10 28 (.slice s.a s.W.length s.c) s.W.length (s.W.flatMap Job.cells) s.E) (fun s => [(0, .pointer (some ⟨p, 0, none⟩)), (8, .slice sa xs.length scap), (9, .int .i64 xs.length), (10, .int .i64 s.k)]) (fun s => qu p (.slice s.a s.W.length s.c) :: (s.E ++ G)) (fun s => xs.length - s.k) ⟨0, W1, a, cap, E⟩ (⟨Nat.zero_le _, by simp, hh, V⟩) (by repeat (first | exact keep_nil | refine keep_cons rfl ?_)) (by repeat (first | exact Sub.refl _ | refine Sub.take (by repeat (first | exact Take.here | apply Take.there | apply Take.app)) ?_ | refine Sub.takeE (by repeat (first | exact TakeE.here | apply TakeE.there | apply TakeE.app)) ?_ | exact Sub.nil _ | apply Sub.drop | apply Sub.dropE)) ?_
  intro s hs9
  obtain ⟨k, W, a, c, E⟩ := s
  dsimp only at hs9 ⊢
  obtain ⟨hk, hpm, hh, V⟩ := hs9
  have hWl : W.length = W1.length + k := by have := hpm.length_eq; rw [List.length_append, List.length_take] at this; omega
  refine aw_seq_region ?_
  refine sr_cmp rfl (wtd_none rfl) rfl (Rd.x (x_lt rfl rfl)) (fun h1 => ?_) (fun h1 => ?_)
  · refine sr_nil ?_
    refine aw_keep (keep_cons (t := 0) rfl (keep_cons (t := 8) rfl (keep_cons (t := 9) rfl (keep_cons (t := 10) rfl (keep_cons (t := 11) rfl keep_nil))))) ?_
    refine aw_seq ?_
    refine aw_true rfl ?_
    refine aw_skip ?_
    show AW _ _ _ _ _ _ _
    refine aw_seq ?_
    refine aw_block ?_
    refine aw_seq_region ?_
    obtain ⟨x, hx⟩ := get_ex (show k < xs.length by omega)
    obtain ⟨be, oe, hae, hce⟩ := hs.at_ k _ hx
    refine sr_x rfl (wtd_none rfl) rfl (Rd.x (x_indexAddrN k Try.underlying22 sz28 rfl hae rfl (by omega) (by omega))) ?_
    refine sr_x rfl (wtd_none rfl) rfl (Rd.x (x_loadN ag28 sz28 rfl (Cells.mono hce (by repeat (first | exact Sub.refl _ | apply Sub.drop | apply Sub.dropE))) rfl)) ?_
    refine sr_new rfl (wtd_none rfl) rfl (x_alloc zr28 rfl) ?_
    intro r3_2 hr3_2 gr3_2
    refine sr_x0 rfl (wtd_none rfl) (x_store sz28 rfl rfl rfl rfl rfl (by repeat (first | exact Repl.here | apply Repl.there | apply Repl.app)) (by repeat (first | exact Spl.done | exact Spl.all rfl | apply Spl.put | apply Spl.skip))) ?_
    refine sr_nil ?_
    refine aw_keep (keep_cons (t := 0) rfl (keep_cons (t := 5) rfl (keep_cons (t := 8) rfl (keep_cons (t := 9) rfl (keep_cons (t := 10) rfl (keep_cons (t := 11) rfl (keep_cons (t := 12) rfl (keep_cons (t := 13) rfl keep_nil)))))))) ?_
    refine aw_seq_dr ⟨_, 11, 33, [[], [], [1], [1, 2], [1, 2, 3], [], [5], [1, 2, 3, 4, 5, 6], [0, 1, 2, 3, 4, 5, 6, 7], [0, 1, 2, 3, 4, 5, 6, 7, 8], [0, 1, 2, 3, 4, 5, 6, 7, 8, 9]], [.light, .light, .light, .light, .mem, .mem, .alloc, .eff, .light, .light, .eff]⟩ (by kernel_rfl) rfl rfl mix ?_
    refine dr_light rfl rfl (wtd_none rfl) (x_move rfl) ?_
    refine dr_light rfl rfl (wtd_none rfl) (x_move rfl) ?_
    refine dr_light rfl rfl (wtd_none rfl) (x_nilCheck rfl) ?_
    refine dr_light rfl rfl (wtd_none rfl) (x_fieldAddr fd64_0 rfl) ?_
    refine dr_mem0 rfl rfl (wtd_none rfl) (x_load ag22 rfl (cells_ext (by repeat (first | exact List.mem_cons_self | apply List.mem_cons_of_mem | apply List.mem_append_right)) (by repeat (first | exact Ext.all _ | exact Ext.done | apply Ext.take | apply Ext.skip)))) ?_
    refine dr_mem0 rfl rfl (wtd_none rfl) (x_loadN ag28 sz28 rfl (cells_ext (by repeat (first | exact List.mem_cons_self | apply List.mem_cons_of_mem | apply List.mem_append_right)) (by repeat (first | exact Ext.all _ | exact Ext.done | apply Ext.take | apply Ext.skip))) rfl) ?_
    refine dr_alloc rfl rfl (wtd_none rfl) (x_buildSlice Try.underlying22 sz28 zr28 rfl rfl rfl rfl (by repeat (first | exact Parts.nil | (apply Parts.cons; rfl))) (by repeat (first | exact Fill.done | (apply Fill.part; rfl; rfl; rfl; focus (repeat (first | exact Spl.done | exact Spl.all rfl | apply Spl.put | apply Spl.skip)))))) ?_
    intro r4_6 hr4_6 gr4_6
    refine dr_eff rfl (V := [(r4_6, _)]) rfl (L' := []) (clear_all rfl) rfl (wtd_none rfl) (opSF_append (G := (r4_6, .cells (Job.cells x).toArray 28 (0, 0)) :: (r3_2, .cells (Job.cells x).toArray 28 (0, 0)) :: qu p (.slice a W.length c) :: G) (N := x.cells) (m := 1) Try.underlying22 sz28 zr28 rfl by28 rfl rfl V (by repeat (first | exact Sub.refl _ | refine Sub.take (by repeat (first | exact Take.here | apply Take.there | apply Take.app)) ?_ | refine Sub.takeE (by repeat (first | exact TakeE.here | apply TakeE.there | apply TakeE.app)) ?_ | exact Sub.nil _ | apply Sub.drop | apply Sub.dropE)) (.inr ⟨_, _, rfl, (cells_ext (by repeat (first | exact List.mem_cons_self | apply List.mem_cons_of_mem | apply List.mem_append_right)) (by repeat (first | exact Ext.all _ | exact Ext.done | apply Ext.take | apply Ext.skip)))⟩) (rfl) rfl (by omega) (by omega)) (append_fresh (G := (r4_6, .cells (Job.cells x).toArray 28 (0, 0)) :: (r3_2, .cells (Job.cells x).toArray 28 (0, 0)) :: qu p (.slice a W.length c) :: G) (N := x.cells) (m := 1) V (rfl) (by omega) (by repeat (first | exact Sub.refl _ | refine Sub.take (by repeat (first | exact Take.here | apply Take.there | apply Take.app)) ?_ | refine Sub.takeE (by repeat (first | exact TakeE.here | apply TakeE.there | apply TakeE.app)) ?_ | exact Sub.nil _ | apply Sub.drop | apply Sub.dropE))) ?_
    rintro v21 _ ⟨E21, hV21, rfl⟩
    obtain ⟨a21, cap21, rfl⟩ := hV21.isSl
    have V2 := OwnVec.snoc (x := x) hV21
    obtain ⟨W4, hW4⟩ : ∃ W4, W4 = W ++ [x] := ⟨_, rfl⟩
    have hl2 : W4.length = W.length + 1 := by rw [hW4]; simp
    have hup := up_snoc (x := x) hh
    rw [← hW4] at V2 hup
    rw [← hl2] at V2 ⊢
    refine dr_light rfl rfl (wtd_none rfl) (x_nilCheck rfl) ?_
    refine dr_light rfl rfl (wtd_none rfl) (x_fieldAddr fd64_0 rfl) ?_
    refine dr_store0 rfl rfl (wtd_none rfl) (x_store sz22 rfl rfl rfl rfl rfl (by repeat (first | exact Repl.here | apply Repl.there | apply Repl.app)) (by repeat (first | exact Spl.done | exact Spl.all rfl | apply Spl.put | apply Spl.skip))) (by first | rfl | simp [keys_append, keys_cons]) ?_
    refine dr_nil0 ?_
    refine aw_keep (keep_cons (t := 0) rfl (keep_cons (t := 5) rfl (keep_cons (t := 8) rfl (keep_cons (t := 9) rfl (keep_cons (t := 10) rfl (keep_cons (t := 11) rfl (keep_cons (t := 12) rfl (keep_cons (t := 13) rfl (keep_cons (t := 14) rfl (keep_cons (t := 15) rfl (keep_cons (t := 16) rfl (keep_cons (t := 17) rfl (keep_cons (t := 18) rfl (keep_cons (t := 19) rfl (keep_cons (t := 20) rfl (keep_cons (t := 21) rfl (keep_cons (t := 22) rfl (keep_cons (t := 23) rfl keep_nil)))))))))))))))))) ?_
    refine aw_region ?_
    refine sr_x rfl (wtd_none rfl) rfl (Rd.x (x_move rfl)) ?_
    refine sr_x rfl (wtd_none rfl) rfl (Rd.x (x_move rfl)) ?_
    refine sr_x rfl (wtd_none rfl) rfl (Rd.x (x_nilCheck rfl)) ?_
    refine sr_x rfl (wtd_none rfl) rfl (Rd.x (x_fieldAddr fd64_0 rfl)) ?_
    refine sr_x rfl (wtd_none rfl) rfl (Rd.x (x_load ag22 rfl (cells_ext (by repeat (first | exact List.mem_cons_self | apply List.mem_cons_of_mem | apply List.mem_append_right)) (by repeat (first | exact Ext.all _ | exact Ext.done | apply Ext.take | apply Ext.skip))))) ?_
    refine sr_x rfl (wtd_none rfl) rfl (Rd.x (x_lenSlice Try.underlying22 rfl)) ?_
    refine sr_x rfl (wtd_none rfl) rfl (Rd.x (x_cast (u := .int .i64 W.length) (x_sub' rfl rfl (i64w (by omega) (by omega))) (by congr 1; omega))) ?_
    refine sr_d rfl (wtd_none rfl) rfl (opS_call rfl rfl rfl rfl cl64 (AC.sub (by repeat (first | exact Sub.refl _ | refine Sub.take (by repeat (first | exact Take.here | apply Take.there | apply Take.app)) ?_ | refine Sub.takeE (by repeat (first | exact TakeE.here | apply TakeE.there | apply TakeE.app)) ?_ | exact Sub.nil _ | apply Sub.drop | apply Sub.dropE)) (upV_s p a21 cap21 W4 E21 ((r4_6, .cells (Job.cells x).toArray 28 (0, 0)) :: (r3_2, .cells (Job.cells x).toArray 28 (0, 0)) :: G) V2 (by omega) W.length (by omega) hup))) ?_
    rintro _ _ ⟨W3, E3, hw1, hw2, V3, rfl, rfl⟩
    refine sr_nil ?_
    show AW _ _ _ _ _ _ _
    refine aw_region ?_
    refine sr_x rfl (wtd_none rfl) rfl (Rd.x (x_add' rfl rfl (i64w (by omega) (by omega)))) ?_
    refine sr_x rfl (wtd_none rfl) rfl (Rd.x (x_move rfl)) ?_
    refine sr_nil ?_
    show ∃ s', _ ∧ _ ∧ _ ∧ _
    exact ⟨⟨k + 1, W3, a21, cap21, E3⟩, ⟨by dsimp only; omega, by dsimp only; rw [takeS hx, ← List.append_assoc]; exact hw1.trans (hW4 ▸ hpm.append_right _), hw2, V3⟩, by dsimp only; omega, (by repeat (first | exact keep_nil | refine keep_cons rfl ?_)), (by repeat (first | exact Sub.refl _ | refine Sub.take (by repeat (first | exact Take.here | apply Take.there | apply Take.app)) ?_ | refine Sub.takeE (by repeat (first | exact TakeE.here | apply TakeE.there | apply TakeE.app)) ?_ | exact Sub.nil _ | apply Sub.drop | apply Sub.dropE))⟩
  · refine sr_nil ?_
    refine aw_keep (keep_cons (t := 0) rfl (keep_cons (t := 8) rfl (keep_cons (t := 9) rfl (keep_cons (t := 10) rfl (keep_cons (t := 11) rfl keep_nil))))) ?_
    refine aw_seq ?_
    refine aw_false rfl ?_
    refine aw_exit ?_
    show ∃ v H2, ResV _ _ _ _ _ _ v ∧ Sub H2 _ ∧ _
    exact ⟨_, qu p (.slice a W.length c) :: (E ++ G), resV rfl .nil, (by (repeat (first | exact Sub.refl _ | refine Sub.take (by repeat (first | exact Take.here | apply Take.there | apply Take.app)) ?_ | refine Sub.takeE (by repeat (first | exact TakeE.here | apply TakeE.there | apply TakeE.app)) ?_ | exact Sub.nil _ | apply Sub.drop | apply Sub.dropE)); first | done | fail), W, a, c, E, (by have := hpm; rw [List.take_of_length_le (by omega)] at this; exact this), hh, V, rfl, rfl⟩
set_option maxRecDepth 100000 in
set_option maxHeartbeats 400000 in
theorem few60_s (a : Option Addr) (cap : Nat) (xs : List Job) (H : SHeap) (hle : xs.length ≤ cap) (hcb : cap ≤ 9223372036854775807) : AC Try.prog W0 39 [.slice a xs.length cap] H (fun v H' => v = .slice a (xs.take 60).length cap ∧ H' = H) := by
  refine ac_of Try.func39 rfl rfl rfl ?_
  refine aw_seq_region ?_
  refine sr_x rfl (wtd_none rfl) rfl (Rd.x (x_assign rfl)) ?_
  refine sr_nil ?_
  refine aw_keep (keep_cons (t := 0) rfl (keep_cons (t := 2) rfl keep_nil)) ?_
  refine aw_seq ?_
  refine aw_seq_region ?_
  refine sr_x rfl (wtd_none rfl) rfl (Rd.x (x_move rfl)) ?_
  refine sr_x rfl (wtd_none rfl) rfl (Rd.x (x_lenSlice Try.underlying22 rfl)) ?_
  refine sr_cmp rfl (wtd_none rfl) rfl (Rd.x (x_gt rfl rfl)) (fun h1 => ?_) (fun h1 => ?_)
  · refine sr_nil ?_
    refine aw_keep (keep_cons (t := 0) rfl (keep_cons (t := 2) rfl (keep_cons (t := 5) rfl keep_nil))) ?_
    refine aw_true rfl ?_
    refine aw_seq_region ?_
    refine sr_x rfl (wtd_none rfl) rfl (Rd.x (x_move rfl)) ?_
    refine sr_x rfl (wtd_none rfl) rfl (Rd.x (x_sliceHi Try.underlying22 sz28 rfl rfl (by omega) (by omega))) ?_
    refine sr_x rfl (wtd_none rfl) rfl (Rd.x (x_assign rfl)) ?_
    refine sr_nil ?_
    refine aw_keep (keep_cons (t := 0) rfl (keep_cons (t := 2) rfl keep_nil)) ?_
    refine aw_ret ?_
    show ∃ v H2, ResV _ _ _ _ _ _ v ∧ Sub H2 _ ∧ _
    exact ⟨_, H, resV rfl (.cons rfl .nil), (by repeat (first | exact Sub.refl _ | apply Sub.drop)), ⟨by simp only [pack, List.length_take]; congr 1; omega, rfl⟩⟩
  · refine sr_nil ?_
    refine aw_keep (keep_cons (t := 0) rfl (keep_cons (t := 2) rfl (keep_cons (t := 5) rfl keep_nil))) ?_
    refine aw_false rfl ?_
    refine aw_skip ?_
    show AW _ _ _ _ _ _ _
    refine aw_seq_region ?_
    refine sr_x rfl (wtd_none rfl) rfl (Rd.x (x_move rfl)) ?_
    refine sr_x rfl (wtd_none rfl) rfl (Rd.x (x_assign rfl)) ?_
    refine sr_nil ?_
    refine aw_keep (keep_cons (t := 2) rfl keep_nil) ?_
    refine aw_ret ?_
    show ∃ v H2, ResV _ _ _ _ _ _ v ∧ Sub H2 _ ∧ _
    exact ⟨_, H, resV rfl (.cons rfl .nil), (by repeat (first | exact Sub.refl _ | apply Sub.drop)), ⟨by simp only [pack, List.length_take]; congr 1; omega, rfl⟩⟩
set_option maxRecDepth 100000 in
set_option maxHeartbeats 400000 in
theorem without_s (a : Option Addr) (cap : Nat) (xs : List Job) (H : SHeap) (hs : SlV W0 H 10 Job.cells a cap xs) (hxs : xs.length ≤ 1000) (j : Job) : AC Try.prog W0 44 [.slice a xs.length cap, j.v] H (fun v H' => ∃ out gone a' c' E', WoR j xs out gone ∧ OwnVec 10 28 (.slice a' out.length c') out.length (out.flatMap Job.cells) E' ∧ v = .tuple #[.slice a' out.length c', .bool gone] ∧ H' = E' ++ H) := by
  have hle := hs.le
  have hcb := hs.capb
  refine ac_of Try.func44 rfl rfl rfl ?_
  refine aw_seq_region ?_
  refine sr_new rfl (wtd_none rfl) rfl (x_box rfl rfl) ?_
  intro r0_0 hr0_0 gr0_0
  refine sr_x rfl (wtd_none rfl) rfl (Rd.x (x_assign rfl)) ?_
  refine sr_x rfl (wtd_none rfl) rfl (Rd.x (x_assign rfl)) ?_
  refine sr_nil ?_
  refine aw_keep (keep_cons (t := 0) rfl (keep_cons (t := 3) rfl (keep_cons (t := 4) rfl (keep_cons (t := 5) rfl keep_nil)))) ?_
  refine aw_seq_region ?_
  refine sr_x rfl (wtd_none rfl) rfl (Rd.x (x_assign rfl)) ?_
  refine sr_nil ?_
  refine aw_keep (keep_cons (t := 0) rfl (keep_cons (t := 3) rfl (keep_cons (t := 4) rfl (keep_cons (t := 5) rfl (keep_cons (t := 6) rfl keep_nil))))) ?_
  refine aw_seq_region ?_
  refine sr_x rfl (wtd_none rfl) rfl (Rd.x (x_assign rfl)) ?_
  refine sr_nil ?_
  refine aw_keep (keep_cons (t := 0) rfl (keep_cons (t := 3) rfl (keep_cons (t := 4) rfl (keep_cons (t := 5) rfl (keep_cons (t := 6) rfl (keep_cons (t := 7) rfl keep_nil)))))) ?_
  refine aw_seq ?_
  refine aw_seq_region ?_
  refine sr_x rfl (wtd_none rfl) rfl (Rd.x (x_assign rfl)) ?_
  refine sr_nil ?_
  refine aw_keep (keep_cons (t := 0) rfl (keep_cons (t := 3) rfl (keep_cons (t := 4) rfl (keep_cons (t := 5) rfl (keep_cons (t := 6) rfl (keep_cons (t := 7) rfl (keep_cons (t := 8) rfl keep_nil))))))) ?_
  refine aw_block ?_
  refine aw_loop (ι := WG) (fun s => s.k ≤ xs.length ∧ WoR j (xs.take s.k) s.out s.gone ∧ OwnVec 10 28 (.slice s.a s.out.length s.c) s.out.length (s.out.flatMap Job.cells) s.E) (fun s => [(0, .slice a xs.length cap), (3, .pointer (some ⟨r0_0, 0, none⟩)), (4, .slice none 0 0), (5, .bool false), (6, .slice s.a s.out.length s.c), (7, .bool s.gone), (8, .int .i64 s.k)]) (fun s => s.E ++ ((r0_0, .cells (Job.cells j).toArray 28 (0, 0)) :: H)) (fun s => xs.length - s.k) ⟨0, [], false, none, 0, []⟩ (⟨Nat.zero_le _, WoR.nil, .nil⟩) (by repeat (first | exact keep_nil | refine keep_cons rfl ?_)) (by repeat (first | exact Sub.refl _ | refine Sub.take (by repeat (first | exact Take.here | apply Take.there | apply Take.app)) ?_ | refine Sub.takeE (by repeat (first | exact TakeE.here | apply TakeE.there | apply TakeE.app)) ?_ | exact Sub.nil _ | apply Sub.drop | apply Sub.dropE)) ?_
  intro s hs9
  obtain ⟨k, out, gone, a2, c2, E2⟩ := s
  dsimp only at hs9 ⊢
  obtain ⟨hk, hwo, V2⟩ := hs9
  have hol := hwo.len
  rw [List.length_take] at hol
  cases gone
  · refine aw_seq ?_
    refine aw_seq_region ?_
    refine sr_x rfl (wtd_none rfl) rfl (Rd.x (x_move rfl)) ?_
    refine sr_x rfl (wtd_none rfl) rfl (Rd.x (x_move rfl)) ?_
    refine sr_x rfl (wtd_none rfl) rfl (Rd.x (x_lenSlice Try.underlying22 rfl)) ?_
    refine sr_cmp rfl (wtd_none rfl) rfl (Rd.x (x_lt rfl rfl)) (fun h1 => ?_) (fun h1 => ?_)
    · refine sr_nil ?_
      refine aw_keep (keep_cons (t := 0) rfl (keep_cons (t := 3) rfl (keep_cons (t := 4) rfl (keep_cons (t := 5) rfl (keep_cons (t := 6) rfl (keep_cons (t := 7) rfl (keep_cons (t := 8) rfl (keep_cons (t := 9) rfl (keep_cons (t := 10) rfl (keep_cons (t := 11) rfl (keep_cons (t := 12) rfl keep_nil))))))))))) ?_
      refine aw_true rfl ?_
      refine aw_skip ?_
      show AW _ _ _ _ _ _ _
      refine aw_seq ?_
      refine aw_block ?_
      refine aw_seq_dr ⟨_, 10, 34, [[], [0], [0, 1], [0, 1, 2], [0, 1, 2], [0, 1, 2, 3, 4], [0, 1, 2, 3, 4, 5], [0, 1, 2], [0, 1, 2, 3, 4, 5, 6, 7], [0, 1, 2, 3, 4, 5, 6, 7, 8]], [.light, .light, .light, .light, .light, .light, .mem, .mem, .light, .light]⟩ (by kernel_rfl) rfl rfl mix ?_
      obtain ⟨x, hx⟩ := get_ex (show k < xs.length by omega)
      obtain ⟨be, oe, hae, hce⟩ := hs.at_ k _ hx
      refine dr_light rfl rfl (wtd_none rfl) (x_move rfl) ?_
      refine dr_light rfl rfl (wtd_none rfl) (x_not rfl) ?_
      refine dr_light rfl rfl (wtd_none rfl) (x_move rfl) ?_
      refine dr_light rfl rfl (wtd_yes rfl rfl rfl) (x_move rfl) ?_
      refine dr_light rfl rfl (wtd_yes rfl rfl rfl) (x_move rfl) ?_
      refine dr_light rfl rfl (wtd_yes rfl rfl rfl) (x_indexAddrN k Try.underlying22 sz28 rfl hae rfl (by omega) (by omega)) ?_
      refine dr_mem0 rfl rfl (wtd_yes rfl rfl rfl) (x_loadN ag28 sz28 rfl (Cells.mono hce (by repeat (first | exact Sub.refl _ | apply Sub.drop | apply Sub.dropE))) rfl) ?_
      refine dr_mem0 rfl rfl (wtd_yes rfl rfl rfl) (x_loadN ag28 sz28 rfl (cells_ext (by repeat (first | exact List.mem_cons_self | apply List.mem_cons_of_mem | apply List.mem_append_right)) (by repeat (first | exact Ext.all _ | exact Ext.done | apply Ext.take | apply Ext.skip))) rfl) ?_
      refine dr_cmp rfl rfl (wtd_yes rfl rfl rfl) (x_eqStruct Try.underlying28 ks28 rfl rfl rfl rfl rfl) (fun h2 => ?_) (fun h2 => ?_)
      · refine dr_light rfl rfl (wtd_none rfl) (x_pick_t rfl rfl rfl) ?_
        refine dr_nil0 ?_
        refine aw_keep (keep_cons (t := 0) rfl (keep_cons (t := 3) rfl (keep_cons (t := 4) rfl (keep_cons (t := 5) rfl (keep_cons (t := 6) rfl (keep_cons (t := 7) rfl (keep_cons (t := 8) rfl (keep_cons (t := 9) rfl (keep_cons (t := 10) rfl (keep_cons (t := 11) rfl (keep_cons (t := 12) rfl (keep_cons (t := 15) rfl (keep_cons (t := 16) rfl (keep_cons (t := 17) rfl (keep_cons (t := 18) rfl (keep_cons (t := 19) rfl (keep_cons (t := 20) rfl (keep_cons (t := 21) rfl (keep_cons (t := 22) rfl (keep_cons (t := 23) rfl (keep_cons (t := 24) rfl keep_nil))))))))))))))))))))) ?_
        refine aw_true rfl ?_
        refine aw_region ?_
        refine sr_x rfl (wtd_none rfl) rfl (Rd.x (x_assign rfl)) ?_
        refine sr_nil ?_
        show AW _ _ _ _ _ _ _
        refine aw_region ?_
        refine sr_x rfl (wtd_none rfl) rfl (Rd.x (x_move rfl)) ?_
        refine sr_x rfl (wtd_none rfl) rfl (Rd.x (x_add' rfl rfl (i64w (by omega) (by omega)))) ?_
        refine sr_x rfl (wtd_none rfl) rfl (Rd.x (x_assign rfl)) ?_
        refine sr_nil ?_
        show ∃ s', _ ∧ _ ∧ _ ∧ _
        first | exact ⟨⟨k + 1, out, true, _, _, _⟩, ⟨by dsimp only; omega, hwo.hit hx (by assumption), V2⟩, by dsimp only; omega, (by repeat (first | exact keep_nil | refine keep_cons rfl ?_)), (by repeat (first | exact Sub.refl _ | refine Sub.take (by repeat (first | exact Take.here | apply Take.there | apply Take.app)) ?_ | refine Sub.takeE (by repeat (first | exact TakeE.here | apply TakeE.there | apply TakeE.app)) ?_ | exact Sub.nil _ | apply Sub.drop | apply Sub.dropE))⟩ | exact ⟨⟨k + 1, out ++ [x], true, a31, cap31, E31⟩, ⟨by dsimp only; omega, hwo.past hx, OwnVec.snocS hV31⟩, by dsimp only; omega, (by rw [List.length_append]; exact (by repeat (first | exact keep_nil | refine keep_cons rfl ?_))), (by repeat (first | exact Sub.refl _ | refine Sub.take (by repeat (first | exact Take.here | apply Take.there | apply Take.app)) ?_ | refine Sub.takeE (by repeat (first | exact TakeE.here | apply TakeE.there | apply TakeE.app)) ?_ | exact Sub.nil _ | apply Sub.drop | apply Sub.dropE))⟩ | exact ⟨⟨k + 1, out ++ [x], false, a31, cap31, E31⟩, ⟨by dsimp only; omega, hwo.miss hx (by assumption), OwnVec.snocS hV31⟩, by dsimp only; omega, (by rw [List.length_append]; exact (by repeat (first | exact keep_nil | refine keep_cons rfl ?_))), (by repeat (first | exact Sub.refl _ | refine Sub.take (by repeat (first | exact Take.here | apply Take.there | apply Take.app)) ?_ | refine Sub.takeE (by repeat (first | exact TakeE.here | apply TakeE.there | apply TakeE.app)) ?_ | exact Sub.nil _ | apply Sub.drop | apply Sub.dropE))⟩
      · refine dr_light rfl rfl (wtd_none rfl) (x_pick_t rfl rfl rfl) ?_
        refine dr_nil0 ?_
        refine aw_keep (keep_cons (t := 0) rfl (keep_cons (t := 3) rfl (keep_cons (t := 4) rfl (keep_cons (t := 5) rfl (keep_cons (t := 6) rfl (keep_cons (t := 7) rfl (keep_cons (t := 8) rfl (keep_cons (t := 9) rfl (keep_cons (t := 10) rfl (keep_cons (t := 11) rfl (keep_cons (t := 12) rfl (keep_cons (t := 15) rfl (keep_cons (t := 16) rfl (keep_cons (t := 17) rfl (keep_cons (t := 18) rfl (keep_cons (t := 19) rfl (keep_cons (t := 20) rfl (keep_cons (t := 21) rfl (keep_cons (t := 22) rfl (keep_cons (t := 23) rfl (keep_cons (t := 24) rfl keep_nil))))))))))))))))))))) ?_
        refine aw_false rfl ?_
        refine aw_region ?_
        refine sr_x rfl (wtd_none rfl) rfl (Rd.x (x_move rfl)) ?_
        refine sr_x rfl (wtd_none rfl) rfl (Rd.x (x_move rfl)) ?_
        refine sr_x rfl (wtd_none rfl) rfl (Rd.x (x_move rfl)) ?_
        refine sr_x rfl (wtd_none rfl) rfl (Rd.x (x_indexAddrN k Try.underlying22 sz28 rfl hae rfl (by omega) (by omega))) ?_
        refine sr_x rfl (wtd_none rfl) rfl (Rd.x (x_loadN ag28 sz28 rfl (Cells.mono hce (by repeat (first | exact Sub.refl _ | apply Sub.drop | apply Sub.dropE))) rfl)) ?_
        refine sr_new rfl (wtd_none rfl) rfl (x_buildSlice Try.underlying22 sz28 zr28 rfl rfl rfl rfl (by repeat (first | exact Parts.nil | (apply Parts.cons; rfl))) (by repeat (first | exact Fill.done | (apply Fill.part; rfl; rfl; rfl; focus (repeat (first | exact Spl.done | exact Spl.all rfl | apply Spl.put | apply Spl.skip)))))) ?_
        intro r8_5 hr8_5 gr8_5
        refine sr_d rfl (wtd_none rfl) rfl (opS_append (G := (r0_0, .cells (Job.cells j).toArray 28 (0, 0)) :: H) (N := x.cells) (m := 1) Try.underlying22 sz28 zr28 rfl by28 rfl rfl V2 (by repeat (first | exact Sub.refl _ | refine Sub.take (by repeat (first | exact Take.here | apply Take.there | apply Take.app)) ?_ | refine Sub.takeE (by repeat (first | exact TakeE.here | apply TakeE.there | apply TakeE.app)) ?_ | exact Sub.nil _ | apply Sub.drop | apply Sub.dropE)) (.inr ⟨_, _, rfl, (cells_ext (by repeat (first | exact List.mem_cons_self | apply List.mem_cons_of_mem | apply List.mem_append_right)) (by repeat (first | exact Ext.all _ | exact Ext.done | apply Ext.take | apply Ext.skip)))⟩) (rfl) rfl (by omega) (by omega)) ?_
        rintro v31 _ ⟨E31, hV31, rfl⟩
        obtain ⟨a31, cap31, rfl⟩ := hV31.isSl
        refine sr_x rfl (wtd_none rfl) rfl (Rd.x (x_assign rfl)) ?_
        refine sr_nil ?_
        show AW _ _ _ _ _ _ _
        refine aw_region ?_
        refine sr_x rfl (wtd_none rfl) rfl (Rd.x (x_move rfl)) ?_
        refine sr_x rfl (wtd_none rfl) rfl (Rd.x (x_add' rfl rfl (i64w (by omega) (by omega)))) ?_
        refine sr_x rfl (wtd_none rfl) rfl (Rd.x (x_assign rfl)) ?_
        refine sr_nil ?_
        show ∃ s', _ ∧ _ ∧ _ ∧ _
        first | exact ⟨⟨k + 1, out, true, _, _, _⟩, ⟨by dsimp only; omega, hwo.hit hx (by assumption), V2⟩, by dsimp only; omega, (by repeat (first | exact keep_nil | refine keep_cons rfl ?_)), (by repeat (first | exact Sub.refl _ | refine Sub.take (by repeat (first | exact Take.here | apply Take.there | apply Take.app)) ?_ | refine Sub.takeE (by repeat (first | exact TakeE.here | apply TakeE.there | apply TakeE.app)) ?_ | exact Sub.nil _ | apply Sub.drop | apply Sub.dropE))⟩ | exact ⟨⟨k + 1, out ++ [x], true, a31, cap31, E31⟩, ⟨by dsimp only; omega, hwo.past hx, OwnVec.snocS hV31⟩, by dsimp only; omega, (by rw [List.length_append]; exact (by repeat (first | exact keep_nil | refine keep_cons rfl ?_))), (by repeat (first | exact Sub.refl _ | refine Sub.take (by repeat (first | exact Take.here | apply Take.there | apply Take.app)) ?_ | refine Sub.takeE (by repeat (first | exact TakeE.here | apply TakeE.there | apply TakeE.app)) ?_ | exact Sub.nil _ | apply Sub.drop | apply Sub.dropE))⟩ | exact ⟨⟨k + 1, out ++ [x], false, a31, cap31, E31⟩, ⟨by dsimp only; omega, hwo.miss hx (by assumption), OwnVec.snocS hV31⟩, by dsimp only; omega, (by rw [List.length_append]; exact (by repeat (first | exact keep_nil | refine keep_cons rfl ?_))), (by repeat (first | exact Sub.refl _ | refine Sub.take (by repeat (first | exact Take.here | apply Take.there | apply Take.app)) ?_ | refine Sub.takeE (by repeat (first | exact TakeE.here | apply TakeE.there | apply TakeE.app)) ?_ | exact Sub.nil _ | apply Sub.drop | apply Sub.dropE))⟩
    · refine sr_nil ?_
      refine aw_keep (keep_cons (t := 0) rfl (keep_cons (t := 3) rfl (keep_cons (t := 4) rfl (keep_cons (t := 5) rfl (keep_cons (t := 6) rfl (keep_cons (t := 7) rfl (keep_cons (t := 8) rfl (keep_cons (t := 9) rfl (keep_cons (t := 10) rfl (keep_cons (t := 11) rfl (keep_cons (t := 12) rfl keep_nil))))))))))) ?_
      refine aw_false rfl ?_
      refine aw_exit ?_
      show AW _ _ _ _ _ _ _
      refine aw_seq_region ?_
      refine sr_x rfl (wtd_none rfl) rfl (Rd.x (x_move rfl)) ?_
      refine sr_x rfl (wtd_none rfl) rfl (Rd.x (x_move rfl)) ?_
      refine sr_x rfl (wtd_none rfl) rfl (Rd.x (x_assign rfl)) ?_
      refine sr_x rfl (wtd_none rfl) rfl (Rd.x (x_assign rfl)) ?_
      refine sr_nil ?_
      refine aw_keep (keep_cons (t := 4) rfl (keep_cons (t := 5) rfl keep_nil)) ?_
      refine aw_ret ?_
      show ∃ v H2, ResV _ _ _ _ _ _ v ∧ Sub H2 _ ∧ _
      exact ⟨_, E2 ++ H, resV rfl (.cons rfl (.cons rfl .nil)), (by (repeat (first | exact Sub.refl _ | refine Sub.take (by repeat (first | exact Take.here | apply Take.there | apply Take.app)) ?_ | refine Sub.takeE (by repeat (first | exact TakeE.here | apply TakeE.there | apply TakeE.app)) ?_ | exact Sub.nil _ | apply Sub.drop | apply Sub.dropE)); first | done | fail), out, _, a2, c2, E2, (by rw [List.take_of_length_le (by omega)] at hwo; exact hwo), V2, rfl, rfl⟩
  · refine aw_seq ?_
    refine aw_seq_region ?_
    refine sr_x rfl (wtd_none rfl) rfl (Rd.x (x_move rfl)) ?_
    refine sr_x rfl (wtd_none rfl) rfl (Rd.x (x_move rfl)) ?_
    refine sr_x rfl (wtd_none rfl) rfl (Rd.x (x_lenSlice Try.underlying22 rfl)) ?_
    refine sr_cmp rfl (wtd_none rfl) rfl (Rd.x (x_lt rfl rfl)) (fun h3 => ?_) (fun h3 => ?_)
    · refine sr_nil ?_
      refine aw_keep (keep_cons (t := 0) rfl (keep_cons (t := 3) rfl (keep_cons (t := 4) rfl (keep_cons (t := 5) rfl (keep_cons (t := 6) rfl (keep_cons (t := 7) rfl (keep_cons (t := 8) rfl (keep_cons (t := 9) rfl (keep_cons (t := 10) rfl (keep_cons (t := 11) rfl (keep_cons (t := 12) rfl keep_nil))))))))))) ?_
      refine aw_true rfl ?_
      refine aw_skip ?_
      show AW _ _ _ _ _ _ _
      refine aw_seq ?_
      refine aw_block ?_
      refine aw_seq_dr ⟨_, 10, 34, [[], [0], [0, 1], [0, 1, 2], [0, 1, 2], [0, 1, 2, 3, 4], [0, 1, 2, 3, 4, 5], [0, 1, 2], [0, 1, 2, 3, 4, 5, 6, 7], [0, 1, 2, 3, 4, 5, 6, 7, 8]], [.light, .light, .light, .light, .light, .light, .mem, .mem, .light, .light]⟩ (by kernel_rfl) rfl rfl mix ?_
      obtain ⟨x, hx⟩ := get_ex (show k < xs.length by omega)
      obtain ⟨be, oe, hae, hce⟩ := hs.at_ k _ hx
      refine dr_light rfl rfl (wtd_none rfl) (x_move rfl) ?_
      refine dr_light rfl rfl (wtd_none rfl) (x_not rfl) ?_
      refine dr_light rfl rfl (wtd_none rfl) (x_move rfl) ?_
      refine dr_skip rfl (wtd_no rfl rfl rfl rfl) ?_
      refine dr_skip rfl (wtd_no rfl rfl rfl rfl) ?_
      refine dr_skip rfl (wtd_no rfl rfl rfl rfl) ?_
      refine dr_skip rfl (wtd_no rfl rfl rfl rfl) ?_
      refine dr_skip rfl (wtd_no rfl rfl rfl rfl) ?_
      refine dr_skip rfl (wtd_no rfl rfl rfl rfl) ?_
      refine dr_light rfl rfl (wtd_none rfl) (x_pick_f rfl rfl rfl) ?_
      refine dr_nil0 ?_
      refine aw_keep (keep_cons (t := 0) rfl (keep_cons (t := 3) rfl (keep_cons (t := 4) rfl (keep_cons (t := 5) rfl (keep_cons (t := 6) rfl (keep_cons (t := 7) rfl (keep_cons (t := 8) rfl (keep_cons (t := 9) rfl (keep_cons (t := 10) rfl (keep_cons (t := 11) rfl (keep_cons (t := 12) rfl (keep_cons (t := 15) rfl (keep_cons (t := 16) rfl (keep_cons (t := 17) rfl (keep_cons (t := 18) rfl (keep_cons (t := 19) rfl (keep_cons (t := 20) rfl (keep_cons (t := 21) rfl (keep_cons (t := 22) rfl (keep_cons (t := 23) rfl (keep_cons (t := 24) rfl keep_nil))))))))))))))))))))) ?_
      refine aw_false rfl ?_
      refine aw_region ?_
      refine sr_x rfl (wtd_none rfl) rfl (Rd.x (x_move rfl)) ?_
      refine sr_x rfl (wtd_none rfl) rfl (Rd.x (x_move rfl)) ?_
      refine sr_x rfl (wtd_none rfl) rfl (Rd.x (x_move rfl)) ?_
      refine sr_x rfl (wtd_none rfl) rfl (Rd.x (x_indexAddrN k Try.underlying22 sz28 rfl hae rfl (by omega) (by omega))) ?_
      refine sr_x rfl (wtd_none rfl) rfl (Rd.x (x_loadN ag28 sz28 rfl (Cells.mono hce (by repeat (first | exact Sub.refl _ | apply Sub.drop | apply Sub.dropE))) rfl)) ?_
      refine sr_new rfl (wtd_none rfl) rfl (x_buildSlice Try.underlying22 sz28 zr28 rfl rfl rfl rfl (by repeat (first | exact Parts.nil | (apply Parts.cons; rfl))) (by repeat (first | exact Fill.done | (apply Fill.part; rfl; rfl; rfl; focus (repeat (first | exact Spl.done | exact Spl.all rfl | apply Spl.put | apply Spl.skip)))))) ?_
      intro r8_5 hr8_5 gr8_5
      refine sr_d rfl (wtd_none rfl) rfl (opS_append (G := (r0_0, .cells (Job.cells j).toArray 28 (0, 0)) :: H) (N := x.cells) (m := 1) Try.underlying22 sz28 zr28 rfl by28 rfl rfl V2 (by repeat (first | exact Sub.refl _ | refine Sub.take (by repeat (first | exact Take.here | apply Take.there | apply Take.app)) ?_ | refine Sub.takeE (by repeat (first | exact TakeE.here | apply TakeE.there | apply TakeE.app)) ?_ | exact Sub.nil _ | apply Sub.drop | apply Sub.dropE)) (.inr ⟨_, _, rfl, (cells_ext (by repeat (first | exact List.mem_cons_self | apply List.mem_cons_of_mem | apply List.mem_append_right)) (by repeat (first | exact Ext.all _ | exact Ext.done | apply Ext.take | apply Ext.skip)))⟩) (rfl) rfl (by omega) (by omega)) ?_
      rintro v31 _ ⟨E31, hV31, rfl⟩
      obtain ⟨a31, cap31, rfl⟩ := hV31.isSl
      refine sr_x rfl (wtd_none rfl) rfl (Rd.x (x_assign rfl)) ?_
      refine sr_nil ?_
      show AW _ _ _ _ _ _ _
      refine aw_region ?_
      refine sr_x rfl (wtd_none rfl) rfl (Rd.x (x_move rfl)) ?_
      refine sr_x rfl (wtd_none rfl) rfl (Rd.x (x_add' rfl rfl (i64w (by omega) (by omega)))) ?_
      refine sr_x rfl (wtd_none rfl) rfl (Rd.x (x_assign rfl)) ?_
      refine sr_nil ?_
      show ∃ s', _ ∧ _ ∧ _ ∧ _
      first | exact ⟨⟨k + 1, out, true, _, _, _⟩, ⟨by dsimp only; omega, hwo.hit hx (by assumption), V2⟩, by dsimp only; omega, (by repeat (first | exact keep_nil | refine keep_cons rfl ?_)), (by repeat (first | exact Sub.refl _ | refine Sub.take (by repeat (first | exact Take.here | apply Take.there | apply Take.app)) ?_ | refine Sub.takeE (by repeat (first | exact TakeE.here | apply TakeE.there | apply TakeE.app)) ?_ | exact Sub.nil _ | apply Sub.drop | apply Sub.dropE))⟩ | exact ⟨⟨k + 1, out ++ [x], true, a31, cap31, E31⟩, ⟨by dsimp only; omega, hwo.past hx, OwnVec.snocS hV31⟩, by dsimp only; omega, (by rw [List.length_append]; exact (by repeat (first | exact keep_nil | refine keep_cons rfl ?_))), (by repeat (first | exact Sub.refl _ | refine Sub.take (by repeat (first | exact Take.here | apply Take.there | apply Take.app)) ?_ | refine Sub.takeE (by repeat (first | exact TakeE.here | apply TakeE.there | apply TakeE.app)) ?_ | exact Sub.nil _ | apply Sub.drop | apply Sub.dropE))⟩ | exact ⟨⟨k + 1, out ++ [x], false, a31, cap31, E31⟩, ⟨by dsimp only; omega, hwo.miss hx (by assumption), OwnVec.snocS hV31⟩, by dsimp only; omega, (by rw [List.length_append]; exact (by repeat (first | exact keep_nil | refine keep_cons rfl ?_))), (by repeat (first | exact Sub.refl _ | refine Sub.take (by repeat (first | exact Take.here | apply Take.there | apply Take.app)) ?_ | refine Sub.takeE (by repeat (first | exact TakeE.here | apply TakeE.there | apply TakeE.app)) ?_ | exact Sub.nil _ | apply Sub.drop | apply Sub.dropE))⟩
    · refine sr_nil ?_
      refine aw_keep (keep_cons (t := 0) rfl (keep_cons (t := 3) rfl (keep_cons (t := 4) rfl (keep_cons (t := 5) rfl (keep_cons (t := 6) rfl (keep_cons (t := 7) rfl (keep_cons (t := 8) rfl (keep_cons (t := 9) rfl (keep_cons (t := 10) rfl (keep_cons (t := 11) rfl (keep_cons (t := 12) rfl keep_nil))))))))))) ?_
      refine aw_false rfl ?_
      refine aw_exit ?_
      show AW _ _ _ _ _ _ _
      refine aw_seq_region ?_
      refine sr_x rfl (wtd_none rfl) rfl (Rd.x (x_move rfl)) ?_
      refine sr_x rfl (wtd_none rfl) rfl (Rd.x (x_move rfl)) ?_
      refine sr_x rfl (wtd_none rfl) rfl (Rd.x (x_assign rfl)) ?_
      refine sr_x rfl (wtd_none rfl) rfl (Rd.x (x_assign rfl)) ?_
      refine sr_nil ?_
      refine aw_keep (keep_cons (t := 4) rfl (keep_cons (t := 5) rfl keep_nil)) ?_
      refine aw_ret ?_
      show ∃ v H2, ResV _ _ _ _ _ _ v ∧ Sub H2 _ ∧ _
      exact ⟨_, E2 ++ H, resV rfl (.cons rfl (.cons rfl .nil)), (by (repeat (first | exact Sub.refl _ | refine Sub.take (by repeat (first | exact Take.here | apply Take.there | apply Take.app)) ?_ | refine Sub.takeE (by repeat (first | exact TakeE.here | apply TakeE.there | apply TakeE.app)) ?_ | exact Sub.nil _ | apply Sub.drop | apply Sub.dropE)); first | done | fail), out, _, a2, c2, E2, (by rw [List.take_of_length_le (by omega)] at hwo; exact hwo), V2, rfl, rfl⟩
end
end Go.Proofs.Ytlhmoojffopheaa
