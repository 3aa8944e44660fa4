/- Sorting by quicksort: plain Lean. -/
import Derived.Test.YteilocpjikmmdaaSymCpt
import Derived.Laws.MathBits
namespace Go.Proofs.Yteilocpjikmmdaa.Sym
set_option linter.unusedVariables false
set_option linter.unusedSimpArgs false
/-- The cells of a number. -/
@[reducible] def intC (j : Int) : List Value := [.int .i64 j]
def cI (x y : Int) : Int := x - y
theorem cI_swo : Swo cI := ⟨fun x => by unfold cI; omega, by unfold cI; omega, by unfold cI; omega⟩
/-- What stands in a range is put in another order. -/
def Pq (W : List Int) (a b : Nat) (W' : List Int) : Prop := W'.Perm W ∧ InR W a b W'
theorem Pq.refl (W : List Int) (a b : Nat) : Pq W a b W := ⟨List.Perm.refl _, InR.refl _ _ _⟩
theorem Pq.trans {W A B : List Int} {a b : Nat} (h : Pq W a b A) (k : Pq A a b B) : Pq W a b B := ⟨k.1.trans h.1, h.2.trans k.2⟩
theorem Pq.wide {W A : List Int} {s e a b : Nat} (h : Pq W s e A) (h1 : a ≤ s) (h2 : e ≤ b) : Pq W a b A := ⟨h.1, h.2.wide h1 h2⟩
theorem sw_perm {W : List Int} {i j : Nat} (hi : i < W.length) (hj : j < W.length) : (sw W i j).Perm W := by
  unfold sw
  rw [show gd W j = W[j] from gd_get (List.getElem?_eq_getElem hj), show gd W i = W[i] from gd_get (List.getElem?_eq_getElem hi)]
  exact List.set_set_perm hi hj
theorem Pq.sw {W : List Int} {a b i j : Nat} (hi : a ≤ i ∧ i < b) (hj : a ≤ j ∧ j < b) (hb : b ≤ W.length) : Pq W a b (sw W i j) := by
  refine ⟨sw_perm (by omega) (by omega), sw_len, fun k hk => ?_, fun p hp k h1 h2 => ?_⟩
  · rw [gd_sw (by omega) (by omega), if_neg (by omega), if_neg (by omega)]
  · rw [gd_sw (by omega) (by omega)]
    split
    · exact hp _ hi.1 hi.2
    · split
      · exact hp _ hj.1 hj.2
      · exact hp _ h1 h2
/-- Sorted between two places. -/
def SrI (W : List Int) (a b : Nat) : Prop := ∀ i j, a ≤ i → i < j → j < b → gd W i ≤ gd W j
theorem SrI.of {W : List Int} {a b : Nat} (h : SrtI cI W a b) : SrI W a b := fun i j h1 h2 h3 => by
  have := h i j h1 h2 h3
  unfold cI at this
  omega
theorem Mg.pq {W W' : List Int} {a b : Nat} (h : Mg cI W a b W') : Pq W a b W' ∧ SrI W' a b := ⟨⟨h.1.1, h.2.1⟩, .of h.2.2⟩
/-- A heap from lo on, but for one place. -/
def HpX (W : List Int) (f lo hi r : Nat) : Prop :=
  (∀ i c, lo ≤ i → i ≠ r → (c = 2 * i + 1 ∨ c = 2 * i + 2) → c < hi → gd W (f + c) ≤ gd W (f + i)) ∧
  ∀ p c, lo ≤ p → (r = 2 * p + 1 ∨ r = 2 * p + 2) → (c = 2 * r + 1 ∨ c = 2 * r + 2) → c < hi → gd W (f + c) ≤ gd W (f + p)
def Hp (W : List Int) (f lo hi : Nat) : Prop := ∀ i c, lo ≤ i → (c = 2 * i + 1 ∨ c = 2 * i + 2) → c < hi → gd W (f + c) ≤ gd W (f + i)
theorem HpX.start {W : List Int} {f lo hi : Nat} (h : Hp W f (lo + 1) hi) : HpX W f lo hi lo := ⟨fun i c h1 h2 h3 h4 => h i c (by omega) h3 h4, fun p c h1 h2 => by omega⟩
theorem HpX.done {W : List Int} {f lo hi r : Nat} (h : HpX W f lo hi r) (hr : ∀ c, (c = 2 * r + 1 ∨ c = 2 * r + 2) → c < hi → gd W (f + c) ≤ gd W (f + r)) : Hp W f lo hi := fun i c h1 h2 h3 => by
  by_cases e : i = r
  · subst e; exact hr c h2 h3
  · exact h.1 i c h1 e h2 h3
theorem HpX.step {W : List Int} {f lo hi r c : Nat} (h : HpX W f lo hi r) (hl : f + hi ≤ W.length) (hlo : lo ≤ r) (hc : c = 2 * r + 1 ∨ c = 2 * r + 2) (hch : c < hi) (hbig : ∀ d, (d = 2 * r + 1 ∨ d = 2 * r + 2) → d < hi → gd W (f + d) ≤ gd W (f + c)) (hlt : gd W (f + r) < gd W (f + c)) : HpX (sw W (f + r) (f + c)) f lo hi c := by
  have e : ∀ k, gd (sw W (f + r) (f + c)) (f + k) = gd W (if k = c then f + r else if k = r then f + c else f + k) := fun k => by
    rw [gd_sw (by omega) (by omega)]
    congr 1
    by_cases q1 : k = c
    · rw [if_pos q1, if_pos (by omega)]
    · rw [if_neg q1, if_neg (by omega)]
      by_cases q2 : k = r
      · rw [if_pos q2, if_pos (by omega)]
      · rw [if_neg q2, if_neg (by omega)]
  refine ⟨fun i d h1 h2 h3 h4 => ?_, fun p d h1 h2 h3 h4 => ?_⟩
  · rw [e, e, if_neg h2]
    by_cases q1 : i = r
    · subst q1
      rw [if_pos rfl]
      by_cases q2 : d = c
      · rw [if_pos q2]; omega
      · rw [if_neg q2, if_neg (by omega)]; exact hbig d h3 h4
    · rw [if_neg q1, if_neg (show d ≠ c by omega)]
      by_cases q2 : d = r
      · rw [if_pos q2]; exact h.2 i c h1 (by omega) hc hch
      · rw [if_neg q2]; exact h.1 i d h1 q1 h3 h4
  · obtain rfl : p = r := by omega
    rw [e, e, if_neg (show d ≠ c by omega), if_neg (show d ≠ p by omega), if_neg (show p ≠ c by omega), if_pos rfl]
    exact h.1 c d (by omega) (by omega) h3 h4
/-- The greatest stands first. -/
theorem Hp.top {W : List Int} {f hi : Nat} (h : Hp W f 0 hi) : ∀ k, k < hi → gd W (f + k) ≤ gd W f := by
  intro k
  induction k using Nat.strongRecOn with
  | _ k ih =>
    intro hk
    by_cases e : k = 0
    · subst e; exact Int.le_refl _
    · have h1 := h ((k - 1) / 2) k (Nat.zero_le _) (by omega) hk
      have h2 := ih ((k - 1) / 2) (by omega) (by omega)
      omega
/-- What heapSort's second half keeps: the first i a heap, the rest sorted and above. -/
structure Hs (W0 W : List Int) (f n i : Nat) : Prop where
  pq : Pq W0 f (f + n) W
  hp : Hp W f 0 i
  sr : SrI W (f + i) (f + n)
  ab : ∀ j k, j < i → f + i ≤ k → k < f + n → gd W (f + j) ≤ gd W k
theorem Hs.step {W0 W W' : List Int} {f n i : Nat} (h : Hs W0 W f n (i + 1)) (hi : i + 1 ≤ n) (hl : f + n ≤ W.length) (hP : Pq (sw W f (f + i)) f (f + i) W') (hp : Hp W' f 0 i) : Hs W0 W' f n i := by
  have e : ∀ k, gd (sw W f (f + i)) k = gd W (if k = f + i then f else if k = f then f + i else k) := fun k => gd_sw (by omega) (by omega) k
  have top := h.hp.top
  have hsw : Pq W f (f + n) (sw W f (f + i)) := Pq.sw (by omega) (by omega) hl
  have out : ∀ k, f + i ≤ k → gd W' k = gd (sw W f (f + i)) k := fun k hk => hP.2.2.1 k (.inr hk)
  have oi : gd W' (f + i) = gd W f := by rw [out _ (Nat.le_refl _), e, if_pos rfl]
  have oo : ∀ k, f + i < k → gd W' k = gd W k := fun k hk => by rw [out _ (by omega), e, if_neg (by omega), if_neg (by omega)]
  have bel : ∀ k, f ≤ k → k < f + i → gd W' k ≤ gd W f ∧ ∀ k2, f + (i + 1) ≤ k2 → k2 < f + n → gd W' k ≤ gd W k2 := by
    refine hP.2.2.2 (fun x => x ≤ gd W f ∧ ∀ k2, f + (i + 1) ≤ k2 → k2 < f + n → x ≤ gd W k2) fun k h1 h2 => ?_
    rw [e, if_neg (by omega)]
    split
    · exact ⟨top i (by omega), fun k2 q1 q2 => h.ab i k2 (by omega) q1 q2⟩
    · obtain ⟨j, rfl⟩ : ∃ j, k = f + j := ⟨k - f, by omega⟩
      exact ⟨top j (by omega), fun k2 q1 q2 => h.ab j k2 (by omega) q1 q2⟩
  refine ⟨h.pq.trans (hsw.trans (hP.wide (Nat.le_refl _) (by omega))), hp, fun x y h1 h2 h3 => ?_, fun j k h1 h2 h3 => ?_⟩
  · rw [oo y (by omega)]
    by_cases q : x = f + i
    · subst q; rw [oi]; exact h.ab 0 y (by omega) (by omega) h3
    · rw [oo x (by omega)]; exact h.sr x y (by omega) h2 h3
  · by_cases q : k = f + i
    · subst q; rw [oi]; exact (bel (f + j) (by omega) (by omega)).1
    · rw [oo k (by omega)]; exact (bel (f + j) (by omega) (by omega)).2 k (by omega) h3
theorem Hs.pre {W0 W : List Int} {f n i : Nat} (h : Hs W0 W f n (i + 1)) (hi : i + 1 ≤ n) (hl : f + n ≤ W.length) : Hp (sw W f (f + i)) f (0 + 1) i := fun j c h1 h2 h3 => by
  rw [gd_sw (by omega) (by omega), gd_sw (by omega) (by omega), if_neg (by omega), if_neg (by omega), if_neg (by omega), if_neg (by omega)]
  exact h.hp j c (Nat.zero_le _) h2 (by omega)
theorem Hs.start {W0 W : List Int} {f n : Nat} (h : Pq W0 f (f + n) W) (hp : Hp W f 0 n) : Hs W0 W f n n := ⟨h, hp, fun x y h1 h2 h3 => by omega, fun j k h1 h2 h3 => by omega⟩
theorem Hs.fin {W0 W : List Int} {a e : Nat} (h : Hs W0 W a (e - a) 0) (hae : a ≤ e) : Pq W0 a e W ∧ SrI W a e := ⟨h.pq.wide (Nat.le_refl _) (by omega), fun x y h1 h2 h3 => h.sr x y (by omega) h2 (by omega)⟩
theorem half_t (x : Nat) : ((x : Nat) : Int).tdiv 2 = ((x / 2 : Nat) : Int) := (Int.ofNat_tdiv x 2).symm
theorem div_t (x y : Nat) : ((x : Nat) : Int).tdiv ((y : Nat) : Int) = ((x / y : Nat) : Int) := (Int.ofNat_tdiv x y).symm
/-- All of a range hold. -/
def Al (W : List Int) (a b : Nat) (p : Int → Prop) : Prop := ∀ k, a ≤ k → k < b → p (gd W k)
theorem Al.zero {W : List Int} {a b : Nat} {p : Int → Prop} (h : b ≤ a) : Al W a b p := fun k h1 h2 => by omega
theorem Al.up {W : List Int} {a b : Nat} {p : Int → Prop} (h : Al W a b p) (hb : p (gd W b)) : Al W a (b + 1) p := fun k h1 h2 => by
  by_cases e : k = b
  · subst e; exact hb
  · exact h k h1 (by omega)
theorem Al.down {W : List Int} {a b : Nat} {p : Int → Prop} (h : Al W (a + 1) b p) (ha : p (gd W a)) : Al W a b p := fun k h1 h2 => by
  by_cases e : k = a
  · subst e; exact ha
  · exact h k (by omega) h2
theorem Al.mono {W : List Int} {a b a' b' : Nat} {p : Int → Prop} (h : Al W a b p) (h1 : a ≤ a') (h2 : b' ≤ b) : Al W a' b' p := fun k q1 q2 => h k (by omega) (by omega)
theorem Al.same {W W' : List Int} {a b : Nat} {p : Int → Prop} (h : Al W a b p) (e : ∀ k, a ≤ k → k < b → gd W' k = gd W k) : Al W' a b p := fun k q1 q2 => by rw [e k q1 q2]; exact h k q1 q2
theorem Al.swo {W : List Int} {a b i j : Nat} {p : Int → Prop} (h : Al W a b p) (hi : i < W.length) (hj : j < W.length) (h1 : i < a ∨ b ≤ i) (h2 : j < a ∨ b ≤ j) : Al (sw W i j) a b p := h.same fun k q1 q2 => by rw [gd_sw hi hj, if_neg (by omega), if_neg (by omega)]
theorem gd_swl {W : List Int} {i j : Nat} (hi : i < W.length) (hj : j < W.length) : gd (sw W i j) i = gd W j := by
  rw [gd_sw hi hj]
  by_cases e : i = j
  · rw [if_pos e, e]
  · rw [if_neg e, if_pos rfl]
theorem gd_swr {W : List Int} {i j : Nat} (hi : i < W.length) (hj : j < W.length) : gd (sw W i j) j = gd W i := by rw [gd_sw hi hj, if_pos rfl]
theorem gd_swn {W : List Int} {i j k : Nat} (hi : i < W.length) (hj : j < W.length) (h1 : k ≠ i) (h2 : k ≠ j) : gd (sw W i j) k = gd W k := by rw [gd_sw hi hj, if_neg h2, if_neg h1]
theorem part_end {cur : List Int} {a j e : Nat} {p : Int} (ha : a ≤ j) (hj : j < e) (hl : e ≤ cur.length) (hp : gd cur a = p) (h1 : Al cur (a + 1) (j + 1) (fun x => x < p)) (h2 : Al cur (j + 1) e (fun x => p ≤ x)) : Al (sw cur j a) a j (fun x => x < p) ∧ gd (sw cur j a) j = p ∧ Al (sw cur j a) (j + 1) e (fun x => p ≤ x) := by
  refine ⟨fun k q1 q2 => ?_, ?_, h2.swo (by omega) (by omega) (.inl (by omega)) (.inl (by omega))⟩
  · by_cases e1 : k = a
    · subst e1
      show gd (sw cur j k) k < p
      rw [gd_swr (by omega) (by omega)]
      exact h1 j (by omega) (by omega)
    · show gd (sw cur j a) k < p
      rw [gd_swn (by omega) (by omega) (by omega) e1]
      exact h1 k (by omega) (by omega)
  · rw [gd_swl (by omega) (by omega)]; exact hp
theorem Pq.pr {W W' : List Int} {a b : Nat} (h : Pq W a b W') (hp : 0 < a → Al W a b (fun x => gd W (a - 1) ≤ x)) : 0 < a → Al W' a b (fun x => gd W' (a - 1) ≤ x) := fun h0 => by
  have e : gd W' (a - 1) = gd W (a - 1) := h.2.2.1 _ (.inl (by omega))
  intro k q1 q2
  show gd W' (a - 1) ≤ gd W' k
  rw [e]
  exact h.2.2.2 (fun x => gd W (a - 1) ≤ x) (fun k q1 q2 => hp h0 k q1 q2) k q1 q2
theorem left_ok {cur cur3 : List Int} {a i j : Nat} (hpr : 0 < a → gd cur (a - 1) ≤ gd cur i) (haj : a ≤ j) (hj : j ≤ i) (h1 : 1 ≤ j) (hm : Mv cur (rotF j i (i + 1)) cur3) (hlt : gd cur3 j < gd cur3 (j - 1)) : a + 1 ≤ j := by
  rcases Nat.lt_or_ge a j with q | q
  · exact q
  · exfalso
    obtain rfl : a = j := by omega
    rw [hm.2, hm.2, rotF_at hj, rotF_ahead (by omega)] at hlt
    have := hpr (by omega)
    omega
theorem srt_snoc {W : List Int} {a i : Nat} (ha : a ≤ i) (hl : i < W.length) (hs : SrtI cI W a i) (h : a < i → ¬ cI (gd W i) (gd W (i - 1)) < 0) : SrtI cI W a (i + 1) := (insr_end cI_swo ha (Nat.le_refl _) hl hs (fun h q1 q2 => by omega) (Mv.refl _ (rotF_self i)) h).2.2
/-- A table of bit lengths, held closed. -/
theorem tabI {s : ByteArray} (hs : (List.range 256).all (fun i => s[i]? == some (UInt8.ofNat (bitLen i))) = true) {x : Nat} (hx : x < 256) : s[((x : Nat) : Int).toNat]? = some (UInt8.ofNat (bitLen x)) := by
  have := List.all_eq_true.1 hs x (List.mem_range.2 hx)
  rw [Int.toNat_natCast]
  exact eq_of_beq this
theorem shl1 {L : Nat} (h : L ≤ 8) : IntKind.u64.wrap (1 * 2 ^ (min ((L : Nat) : Int).toNat (IntKind.bits .u64))) = ((2 ^ L : Nat) : Int) := by
  have all : ∀ j : Fin 9, IntKind.u64.wrap (1 * 2 ^ (min ((j.val : Nat) : Int).toNat (IntKind.bits .u64))) = ((2 ^ j.val : Nat) : Int) := by decide +kernel
  exact all ⟨L, by omega⟩
theorem wrap_u64 (z : Int) : 0 ≤ IntKind.u64.wrap z ∧ IntKind.u64.wrap z ≤ 18446744073709551615 := by
  unfold IntKind.wrap
  simp [IntKind.bits, IntKind.signed]
  omega
theorem pow_len {x : Nat} (h : x ≠ 0) : 0 < 2 ^ bitLen x ∧ 2 ^ bitLen x ≤ 2 * x := by
  have h1 := (bitLen_spec x).2 h
  have h2 : bitLen x ≠ 0 := fun e => by
    have := (bitLen_spec x).1
    rw [e] at this
    omega
  obtain ⟨k, hk⟩ : ∃ k, bitLen x = k + 1 := ⟨bitLen x - 1, by omega⟩
  rw [hk] at h1 ⊢
  rw [Nat.add_sub_cancel] at h1
  rw [Nat.pow_succ]
  have h3 : 0 < 2 ^ k := Nat.pow_pos (by omega)
  exact ⟨by omega, by omega⟩
/-- What pdqsort's loop keeps: only [a, e) is still to be sorted. -/
structure PdI (W0 : List Int) (a0 e0 : Nat) (W : List Int) (a e : Nat) : Prop where
  b : a0 ≤ a ∧ a ≤ e ∧ e ≤ e0
  pq : Pq W0 a0 e0 W
  sl : SrI W a0 a
  sr : SrI W e e0
  lo : ∀ i k, a0 ≤ i → i < a → a ≤ k → k < e0 → gd W i ≤ gd W k
  hi : ∀ i k, a0 ≤ i → i < e → e ≤ k → k < e0 → gd W i ≤ gd W k
theorem PdI.start {W : List Int} {a e : Nat} (h : a ≤ e) : PdI W a e W a e := ⟨⟨Nat.le_refl _, h, Nat.le_refl _⟩, Pq.refl _ _ _, fun i j h1 h2 h3 => by omega, fun i j h1 h2 h3 => by omega, fun i k h1 h2 => by omega, fun i k h1 h2 h3 h4 => by omega⟩
theorem PdI.left {W0 W : List Int} {a0 e0 a e m : Nat} (h : PdI W0 a0 e0 W a e) (hm : a ≤ m ∧ m ≤ e) (hs : SrI W a m) (hc : ∀ i k, a ≤ i → i < m → m ≤ k → k < e → gd W i ≤ gd W k) : PdI W0 a0 e0 W m e := by
  have hb := h.b
  refine ⟨by omega, h.pq, fun i j h1 h2 h3 => ?_, h.sr, fun i k h1 h2 h3 h4 => ?_, h.hi⟩
  · by_cases q : j < a
    · exact h.sl i j h1 h2 q
    · by_cases q2 : i < a
      · exact h.lo i j h1 q2 (by omega) (by omega)
      · exact hs i j (by omega) h2 h3
  · by_cases q : i < a
    · exact h.lo i k h1 q (by omega) h4
    · by_cases q2 : k < e
      · exact hc i k (by omega) h2 h3 q2
      · exact h.hi i k h1 (by omega) (by omega) h4
theorem PdI.right {W0 W : List Int} {a0 e0 a e m : Nat} (h : PdI W0 a0 e0 W a e) (hm : a ≤ m ∧ m ≤ e) (hs : SrI W m e) (hc : ∀ i k, a ≤ i → i < m → m ≤ k → k < e → gd W i ≤ gd W k) : PdI W0 a0 e0 W a m := by
  have hb := h.b
  refine ⟨by omega, h.pq, h.sl, fun i j h1 h2 h3 => ?_, h.lo, fun i k h1 h2 h3 h4 => ?_⟩
  · by_cases q : j < e
    · exact hs i j h1 h2 q
    · by_cases q2 : i < e
      · exact h.hi i j (by omega) q2 (by omega) h3
      · exact h.sr i j (by omega) h2 h3
  · by_cases q : i < a
    · exact h.lo i k h1 q (by omega) h4
    · by_cases q2 : k < e
      · exact hc i k (by omega) h2 h3 q2
      · exact h.hi i k h1 (by omega) (by omega) h4
theorem PdI.mv {W0 W W' : List Int} {a0 e0 a e : Nat} (h : PdI W0 a0 e0 W a e) (hP : Pq W a e W') : PdI W0 a0 e0 W' a e := by
  have hb := h.b
  have out : ∀ k, k < a ∨ e ≤ k → gd W' k = gd W k := hP.2.2.1
  refine ⟨hb, h.pq.trans (hP.wide (by omega) (by omega)), fun i j h1 h2 h3 => ?_, fun i j h1 h2 h3 => ?_, fun i k h1 h2 h3 h4 => ?_, fun i k h1 h2 h3 h4 => ?_⟩
  · rw [out i (by omega), out j (by omega)]; exact h.sl i j h1 h2 h3
  · rw [out i (by omega), out j (by omega)]; exact h.sr i j h1 h2 h3
  · rw [out i (by omega)]
    by_cases q : k < e
    · exact hP.2.2.2 (fun x => gd W i ≤ x) (fun k q1 q2 => h.lo i k h1 h2 q1 (by omega)) k h3 q
    · rw [out k (by omega)]; exact h.lo i k h1 h2 h3 h4
  · rw [out k (by omega)]
    by_cases q : i < a
    · rw [out i (by omega)]; exact h.hi i k h1 h2 h3 h4
    · exact hP.2.2.2 (fun x => x ≤ gd W k) (fun i q1 q2 => h.hi i k (by omega) q2 h3 h4) i (by omega) h2
theorem PdI.fin {W0 W : List Int} {a0 e0 a e : Nat} (h : PdI W0 a0 e0 W a e) (hs : SrI W a e) : Pq W0 a0 e0 W ∧ SrI W a0 e0 := by
  have hb := h.b
  have k := h.left ⟨hb.2.1, Nat.le_refl _⟩ hs fun i k h1 h2 h3 h4 => by omega
  refine ⟨h.pq, fun i j h1 h2 h3 => ?_⟩
  by_cases q : j < e
  · exact k.sl i j h1 h2 q
  · by_cases q2 : i < e
    · exact k.lo i j h1 q2 (by omega) h3
    · exact k.sr i j (by omega) h2 h3
theorem PdI.pr {W0 W : List Int} {a0 e0 a e : Nat} (h : PdI W0 a0 e0 W a e) (hp : 0 < a0 → Al W0 a0 e0 (fun x => gd W0 (a0 - 1) ≤ x)) : 0 < a → Al W a e (fun x => gd W (a - 1) ≤ x) := fun h0 k q1 q2 => by
  have hb := h.b
  show gd W (a - 1) ≤ gd W k
  by_cases q : a0 = a
  · subst q
    exact h.pq.pr hp h0 k q1 (by omega)
  · exact h.lo (a - 1) k (by omega) (by omega) q1 (by omega)
structure Pd1 where
  k : Nat
  W : List Int
structure Pd3 where
  k : Nat
  W : List Int
  y : Int
structure Pd2 where
  i : Nat
  j : Nat
  W : List Int
/-- The loop's steps: a run of equal ones; both sides of a partition. -/
theorem PdI.peq {W0 W W' : List Int} {a0 e0 a e m : Nat} {p : Int} (h : PdI W0 a0 e0 W a e) (hpr : 0 < a → Al W a e (fun x => gd W (a - 1) ≤ x)) (h0 : 0 < a) (hP : Pq W a e W') (hm : a < m ∧ m ≤ e) (hA : Al W' a m (fun x => x ≤ p)) (hB : Al W' m e (fun x => p < x)) (hle : ¬ gd W (a - 1) < p) : PdI W0 a0 e0 W' m e := by
  have lo : Al W' a e (fun x => gd W (a - 1) ≤ x) := fun k q1 q2 => hP.2.2.2 (fun x => gd W (a - 1) ≤ x) (fun k q1 q2 => hpr h0 k q1 q2) k q1 q2
  refine (h.mv hP).left ⟨by omega, hm.2⟩ (fun i j h1 h2 h3 => ?_) fun i k h1 h2 h3 h4 => ?_
  · have q1 : gd W' i ≤ p := hA i (by omega) (by omega)
    have q2 : gd W (a - 1) ≤ gd W' j := lo j (by omega) (by omega)
    omega
  · have q1 : gd W' i ≤ p := hA i h1 h2
    have q2 : p < gd W' k := hB k h3 h4
    omega
theorem PdI.partL {W0 W W' W'' : List Int} {a0 e0 a e m : Nat} {p : Int} (h : PdI W0 a0 e0 W a e) (hP : Pq W a e W') (hm : a ≤ m ∧ m < e) (hA : Al W' a m (fun x => x < p)) (hp : gd W' m = p) (hB : Al W' (m + 1) e (fun x => p ≤ x)) (hP2 : Pq W' a m W'') (hs : SrI W'' a m) : PdI W0 a0 e0 W'' (m + 1) e := by
  have out : ∀ k, k < a ∨ m ≤ k → gd W'' k = gd W' k := hP2.2.2.1
  have up : ∀ i, a ≤ i → i < m → gd W'' i < p := hP2.2.2.2 (fun x => x < p) hA
  have em : gd W'' m = p := (out m (.inr (Nat.le_refl _))).trans hp
  have dn : ∀ k, m + 1 ≤ k → k < e → p ≤ gd W'' k := fun k q1 q2 => by rw [out k (.inr (by omega))]; exact hB k q1 q2
  refine (h.mv (hP.trans (hP2.wide (Nat.le_refl _) (by omega)))).left ⟨by omega, by omega⟩ (fun i j h1 h2 h3 => ?_) fun i k h1 h2 h3 h4 => ?_
  · by_cases q : j = m
    · subst q
      have := up i h1 h2
      omega
    · exact hs i j h1 h2 (by omega)
  · have q2 := dn k h3 h4
    by_cases q : i = m
    · subst q; omega
    · have := up i h1 (by omega)
      omega
theorem PdI.partR {W0 W W' W'' : List Int} {a0 e0 a e m : Nat} {p : Int} (h : PdI W0 a0 e0 W a e) (hP : Pq W a e W') (hm : a ≤ m ∧ m < e) (hA : Al W' a m (fun x => x < p)) (hp : gd W' m = p) (hB : Al W' (m + 1) e (fun x => p ≤ x)) (hP2 : Pq W' (m + 1) e W'') (hs : SrI W'' (m + 1) e) : PdI W0 a0 e0 W'' a m := by
  have out : ∀ k, k < m + 1 ∨ e ≤ k → gd W'' k = gd W' k := hP2.2.2.1
  have dn : ∀ i, m + 1 ≤ i → i < e → p ≤ gd W'' i := hP2.2.2.2 (fun x => p ≤ x) hB
  have em : gd W'' m = p := (out m (.inl (by omega))).trans hp
  have up : ∀ k, a ≤ k → k < m → gd W'' k < p := fun k q1 q2 => by rw [out k (.inl (by omega))]; exact hA k q1 q2
  refine (h.mv (hP.trans (hP2.wide (by omega) (Nat.le_refl _)))).right ⟨hm.1, by omega⟩ (fun i j h1 h2 h3 => ?_) fun i k h1 h2 h3 h4 => ?_
  · by_cases q : i = m
    · subst q
      have := dn j (by omega) h3
      omega
    · exact hs i j (by omega) h2 h3
  · have q2 := up i h1 h2
    by_cases q : k = m
    · subst q; omega
    · have := dn k (by omega) h4
      omega
theorem zcI_one {zv : Value} {n : Nat} (h : zv.cells.toList.all oneCell = true) (h0 : 0 < zv.cells.size) : (Builtin.zeroCells zv.cells n).toList.all oneCell = true := by
  rw [List.all_eq_true]
  intro v hv
  unfold Builtin.zeroCells at hv
  rw [Array.toList_map, List.mem_map] at hv
  obtain ⟨i, _, rfl⟩ := hv
  have hi : i % zv.cells.size < zv.cells.size := Nat.mod_lt _ h0
  rw [getElem!_pos zv.cells (i % zv.cells.size) hi]
  exact List.all_eq_true.1 h _ (by simp)
theorem clrI_room {n cap k s : Nat} {Z post : List Value} (h1 : k ≤ n) (h2 : n ≤ cap) (hp : (cap - n) * s ≤ post.length) (hZ : Z.length = (n - k) * s) : (cap - k) * s ≤ (Z ++ post).length := by
  rw [List.length_append, hZ, show cap - k = (n - k) + (cap - n) by omega, Nat.add_mul]; omega
def eqI (x y : Int) : Bool := decide (x = y)
structure CpJ where
  k : Nat
  m : Nat
  C : List Int
structure Pd4 where
  a : Nat
  e : Nat
  lim : Int
  W : List Int
  b1 : Bool
  b2 : Bool
end Go.Proofs.Yteilocpjikmmdaa.Sym
