/- Texts by their bytes; whole numbers as digits; rows of words: plain Lean. -/
import Derived.Test.YtbcajgkaepihfaaDoorSymStr
namespace Go.Proofs.YtbcajgkaepihfaaDoor.Sym
set_option linter.unusedVariables false
set_option linter.unusedSimpArgs false
/-- A text, by its bytes. -/
@[reducible] def bs (l : List UInt8) : ByteArray := ⟨l.toArray⟩
theorem bs_size (l : List UInt8) : (bs l).size = l.length := by simp [bs, ByteArray.size]
theorem bs_append (l m : List UInt8) : bs l ++ bs m = bs (l ++ m) := by
  apply ByteArray.ext
  simp [bs]
theorem bs_inj {l m : List UInt8} : bs l = bs m ↔ l = m := by
  constructor
  · intro h
    have := congrArg (fun s : ByteArray => s.data.toList) h
    simpa [bs] using this
  · intro h; rw [h]
theorem bs_all (s : ByteArray) : s = bs s.data.toList := by apply ByteArray.ext; simp [bs]
theorem bs_get (l : List UInt8) (i : Nat) : (bs l)[i]? = l[i]? := by
  rcases Nat.lt_or_ge i l.length with h | h
  · rw [List.getElem?_eq_getElem h]
    have h2 : i < (bs l).size := by rw [bs_size]; exact h
    rw [getElem?_pos (bs l) i h2]
    rfl
  · rw [List.getElem?_eq_none h]
    have h2 : ¬ i < (bs l).size := by rw [bs_size]; omega
    rw [getElem?_neg (bs l) i h2]
theorem bs_extract (l : List UInt8) (i j : Nat) : (bs l).extract i j = bs ((l.take j).drop i) := by
  apply ByteArray.ext
  simp [bs, ByteArray.data_extract]
  rw [List.drop_take]
theorem head_app {α : Type} {l m : List α} (h : l ≠ []) : (l ++ m).head? = l.head? := by
  cases l with
  | nil => exact absurd rfl h
  | cons x l => rfl
theorem snoc_ind {α : Type} {p : List α → Prop} (h0 : p []) (h1 : ∀ l c, p l → p (l ++ [c])) (l : List α) : p l := by
  rw [← List.reverse_reverse l]
  induction l.reverse with
  | nil => exact h0
  | cons x m ih => rw [List.reverse_cons]; exact h1 _ _ ih
/-! ### digits -/
def d8 (n : Nat) : UInt8 := UInt8.ofNat (48 + n)
theorem d8_nat {n : Nat} (h : n < 10) : (d8 n).toNat = 48 + n := by
  unfold d8; rw [UInt8.toNat_ofNat']; omega
def dg (n : Nat) : List UInt8 := if h : n < 10 then [d8 n] else dg (n / 10) ++ [d8 (n % 10)]
termination_by n
decreasing_by omega
theorem dg_lt {n : Nat} (h : n < 10) : dg n = [d8 n] := by rw [dg, dif_pos h]
theorem dg_ge {n : Nat} (h : ¬ n < 10) : dg n = dg (n / 10) ++ [d8 (n % 10)] := by rw [dg, dif_neg h]
def vlD (l : List UInt8) : Nat := l.foldl (fun v c => 10 * v + (c.toNat - 48)) 0
theorem vlD_snoc (l : List UInt8) (c : UInt8) : vlD (l ++ [c]) = 10 * vlD l + (c.toNat - 48) := by unfold vlD; rw [List.foldl_append]; rfl
def isD (c : UInt8) : Prop := 48 ≤ c.toNat ∧ c.toNat ≤ 57
theorem d8_isD {n : Nat} (h : n < 10) : isD (d8 n) := by unfold isD; rw [d8_nat h]; omega
theorem dg_all : ∀ (n : Nat) (c : UInt8), c ∈ dg n → isD c := by
  intro n
  induction n using Nat.strongRecOn with
  | _ n ih =>
    intro c hc
    by_cases h : n < 10
    · rw [dg_lt h] at hc; simp at hc; rw [hc]; exact d8_isD h
    · rw [dg_ge h, List.mem_append] at hc
      rcases hc with hc | hc
      · exact ih (n / 10) (by omega) c hc
      · simp at hc; rw [hc]; exact d8_isD (by omega)
theorem dg_val : ∀ n : Nat, vlD (dg n) = n := by
  intro n
  induction n using Nat.strongRecOn with
  | _ n ih =>
    by_cases h : n < 10
    · rw [dg_lt h]; show 10 * 0 + ((d8 n).toNat - 48) = n; rw [d8_nat h]; omega
    · rw [dg_ge h, vlD_snoc, ih (n / 10) (by omega), d8_nat (by omega)]; omega
theorem dg_ne (n : Nat) : dg n ≠ [] := by
  by_cases h : n < 10
  · rw [dg_lt h]; simp
  · rw [dg_ge h]; simp
/-- No 0 ahead. -/
theorem dg_head : ∀ (n : Nat) (c : UInt8), (dg n).head? = some c → c.toNat = 48 → n = 0 := by
  intro n
  induction n using Nat.strongRecOn with
  | _ n ih =>
    intro c hc h48
    by_cases h : n < 10
    · rw [dg_lt h] at hc; simp at hc; rw [← hc, d8_nat h] at h48; omega
    · rw [dg_ge h] at hc
      have hne := dg_ne (n / 10)
      rw [head_app hne] at hc
      have := ih (n / 10) (by omega) c hc h48
      omega
theorem dg_zero : dg 0 = [d8 0] := dg_lt (by decide)
theorem dg_len : ∀ (k n : Nat), n < 10 ^ (k + 1) → (dg n).length ≤ k + 1 := by
  intro k
  induction k with
  | zero => intro n h; rw [dg_lt (by simpa using h)]; simp
  | succ k ih =>
    intro n h
    by_cases h2 : n < 10
    · rw [dg_lt h2]; simp
    · rw [dg_ge h2, List.length_append]
      have := ih (n / 10) (by rw [Nat.div_lt_iff_lt_mul (by decide)]; rw [Nat.pow_succ] at h; exact h)
      simp; omega
theorem vlD_lt : ∀ (l : List UInt8), (∀ c ∈ l, isD c) → vlD l < 10 ^ l.length := by
  intro l
  refine snoc_ind (p := fun l => (∀ c ∈ l, isD c) → vlD l < 10 ^ l.length) (fun _ => by decide) (fun l c ih => ?_) l
  · intro h
    rw [vlD_snoc, List.length_append]
    have h1 := ih fun x hx => h x (List.mem_append_left _ hx)
    have h2 := h c (by simp)
    unfold isD at h2
    simp only [List.length_cons, List.length_nil, Nat.pow_succ, Nat.pow_zero, Nat.zero_add]
    omega
/-- Digits without a 0 ahead are those of their number. -/
theorem dg_of : ∀ (l : List UInt8), l ≠ [] → (∀ c ∈ l, isD c) → (∀ c, l.head? = some c → c.toNat = 48 → l.length = 1) → dg (vlD l) = l := by
  intro l
  refine snoc_ind (p := fun l => l ≠ [] → (∀ c ∈ l, isD c) → (∀ c, l.head? = some c → c.toNat = 48 → l.length = 1) → dg (vlD l) = l) (fun h => absurd rfl h) (fun l c ih => ?_) l
  · intro _ hd hh
    have hc := hd c (by simp)
    have hce : d8 (c.toNat - 48) = c := by
      unfold isD at hc
      apply UInt8.toNat_inj.1
      rw [d8_nat (by omega)]; omega
    unfold isD at hc
    rw [vlD_snoc]
    by_cases hl : l = []
    · subst hl
      show dg (10 * 0 + (c.toNat - 48)) = [c]
      rw [dg_lt (by omega), Nat.mul_zero, Nat.zero_add, hce]
    · have hd2 : ∀ x ∈ l, isD x := fun x hx => hd x (List.mem_append_left _ hx)
      have hh2 : ∀ x, l.head? = some x → x.toNat ≠ 48 := fun x hx e => by
        have := hh x (by rw [head_app hl]; exact hx) e
        rw [List.length_append, List.length_singleton] at this
        have hp := List.length_pos_iff.2 hl
        omega
      have hv : 0 < vlD l := by
        rcases Nat.eq_zero_or_pos (vlD l) with h0 | h0
        · exfalso
          have := ih hl hd2 (fun x hx e => absurd e (hh2 x hx))
          rw [h0, dg_zero] at this
          exact hh2 (d8 0) (by rw [← this]; rfl) (by rw [d8_nat (by decide)])
        · exact h0
      rw [dg_ge (by omega), show (10 * vlD l + (c.toNat - 48)) / 10 = vlD l by omega, show (10 * vlD l + (c.toNat - 48)) % 10 = c.toNat - 48 by omega, hce, ih hl hd2 (fun x hx e => absurd e (hh2 x hx))]
instance (c : UInt8) : Decidable (isD c) := inferInstanceAs (Decidable (48 ≤ c.toNat ∧ c.toNat ≤ 57))
/-- A whole number as digits. -/
def numB (n : Int) : List UInt8 := if n < 0 then 45 :: dg (-n).toNat else dg n.toNat
/-- What ReadNumber reads of the digits behind the sign. -/
def rdD (neg : Bool) (l : List UInt8) : Option Int :=
  if l = [] ∨ 19 < l.length ∨ (l.head?.map UInt8.toNat = some 48 ∧ (1 < l.length ∨ neg = true)) then none
  else if ∃ c ∈ l, ¬ isD c then none
  else if neg = true then (if vlD l ≤ 9223372036854775808 then some (-(vlD l : Int)) else none)
  else (if vlD l < 9223372036854775808 then some (vlD l : Int) else none)
def readN : List UInt8 → Option Int
  | [] => none
  | c :: l => if c = 45 then rdD true l else rdD false (c :: l)
theorem rdD_dg {m : Nat} {neg : Bool} (h : m < 10 ^ 19) (h0 : neg = true → m ≠ 0) : rdD neg (dg m) = if neg = true then (if m ≤ 9223372036854775808 then some (-(m : Int)) else none) else (if m < 9223372036854775808 then some (m : Int) else none) := by
  unfold rdD
  have hl := dg_len 18 m h
  have h1 : ¬ (dg m = [] ∨ 19 < (dg m).length ∨ ((dg m).head?.map UInt8.toNat = some 48 ∧ (1 < (dg m).length ∨ neg = true))) := by
    rintro (q | q | ⟨q, r⟩)
    · exact dg_ne m q
    · omega
    · rw [Option.map_eq_some_iff] at q
      obtain ⟨c, hc, e⟩ := q
      have := dg_head m c hc e
      subst this
      rcases r with r | r
      · rw [dg_zero] at r; simp at r
      · exact h0 r rfl
  rw [if_neg h1, if_neg (fun ⟨c, hc, hn⟩ => hn (dg_all m c hc)), dg_val]
theorem readN_neg (l : List UInt8) : readN (45 :: l) = rdD true l := rfl
theorem readN_pos {c : UInt8} {l : List UInt8} (h : c ≠ 45) : readN (c :: l) = rdD false (c :: l) := by
  show (if c = 45 then rdD true l else rdD false (c :: l)) = _
  rw [if_neg h]
theorem ten19 : (10 : Nat) ^ 19 = 10000000000000000000 := by decide
theorem read_num {n : Int} (h1 : -9223372036854775808 ≤ n) (h2 : n ≤ 9223372036854775807) : readN (numB n) = some n := by
  have e := ten19
  unfold numB
  by_cases hn : n < 0
  · rw [if_pos hn, readN_neg, rdD_dg (by omega) (fun _ => by omega), if_pos rfl, if_pos (by omega)]
    congr 1; omega
  · rw [if_neg hn]
    have hne := dg_ne n.toNat
    have hd := dg_all n.toNat
    have hr := rdD_dg (m := n.toNat) (neg := false) (by omega) (fun h => by cases h)
    cases hc : dg n.toNat with
    | nil => exact absurd hc hne
    | cons c l =>
      rw [hc] at hr hd
      have h45 : c ≠ 45 := fun e => by
        have := hd c List.mem_cons_self
        rw [e] at this; revert this; decide
      rw [readN_pos h45, hr, if_neg (by decide), if_pos (by omega)]
      congr 1; omega
theorem rdD_inv {neg : Bool} {l : List UInt8} {n : Int} (h : rdD neg l = some n) : dg (vlD l) = l ∧ n = (if neg = true then -(vlD l : Int) else (vlD l : Int)) ∧ (neg = true → 1 ≤ vlD l ∧ vlD l ≤ 9223372036854775808) ∧ (neg = false → vlD l < 9223372036854775808) := by
  unfold rdD at h
  split at h
  · cases h
  · next h1 =>
    split at h
    · cases h
    · next h2 =>
      have hd : ∀ c ∈ l, isD c := fun c hc => Classical.byContradiction fun q => h2 ⟨c, hc, q⟩
      have hne : l ≠ [] := fun e => h1 (.inl e)
      have hh : ∀ c, l.head? = some c → c.toNat = 48 → l.length = 1 := fun c hc e => by
        have hp := List.length_pos_iff.2 hne
        rcases Nat.lt_or_ge 1 l.length with q | q
        · exact absurd (.inr (.inr ⟨by rw [hc]; exact congrArg some e, .inl q⟩)) h1
        · omega
      have hg := dg_of l hne hd hh
      refine ⟨hg, ?_⟩
      cases neg with
      | true =>
        rw [if_pos rfl] at h
        split at h
        · next h3 =>
          cases h
          refine ⟨by rw [if_pos rfl], fun _ => ⟨?_, h3⟩, fun q => (by cases q)⟩
          rcases Nat.eq_zero_or_pos (vlD l) with h0 | h0
          · exfalso
            rw [h0, dg_zero] at hg
            exact h1 (.inr (.inr ⟨by rw [← hg]; show some (d8 0).toNat = some 48; rw [d8_nat (by decide)], .inr rfl⟩))
          · exact h0
        · cases h
      | false =>
        rw [if_neg (by decide)] at h
        split at h
        · next h3 => cases h; exact ⟨by rw [if_neg (by decide)], fun q => (by cases q), fun _ => h3⟩
        · cases h
theorem read_inv {l : List UInt8} {n : Int} (h : readN l = some n) : l = numB n ∧ -9223372036854775808 ≤ n ∧ n ≤ 9223372036854775807 := by
  cases l with
  | nil => cases h
  | cons c l =>
    have h : (if c = 45 then rdD true l else rdD false (c :: l)) = some n := h
    split at h
    · next hc =>
      obtain ⟨h1, h2, h3, _⟩ := rdD_inv h
      rw [if_pos rfl] at h2
      have h3 := h3 rfl
      refine ⟨?_, by omega, by omega⟩
      unfold numB
      rw [if_pos (by omega), hc, show (-n).toNat = vlD l by omega, h1]
    · obtain ⟨h1, h2, _, h4⟩ := rdD_inv h
      rw [if_neg (by decide)] at h2
      have h4 := h4 rfl
      refine ⟨?_, by omega, by omega⟩
      unfold numB
      rw [if_neg (by omega), show n.toNat = vlD (c :: l) by omega, h1]
theorem read_iff {l : List UInt8} {n : Int} (h1 : -9223372036854775808 ≤ n) (h2 : n ≤ 9223372036854775807) : readN l = some n ↔ l = numB n := ⟨fun h => (read_inv h).1, fun h => by rw [h]; exact read_num h1 h2⟩
theorem numB_ne (n : Int) : numB n ≠ [] := by
  unfold numB
  split
  · simp
  · exact dg_ne _
theorem numB_mem {n : Int} {c : UInt8} (h : c ∈ numB n) : c = 45 ∨ isD c := by
  unfold numB at h
  split at h
  · rw [List.mem_cons] at h
    exact h.imp id fun q => dg_all _ c q
  · exact .inr (dg_all _ c h)
theorem numB_len {n : Int} (h1 : -9223372036854775808 ≤ n) (h2 : n ≤ 9223372036854775807) : (numB n).length ≤ 20 := by
  have e : (10 : Nat) ^ 19 = 10000000000000000000 := by decide
  unfold numB
  split
  · have := dg_len 18 (-n).toNat (by omega)
    rw [List.length_cons]; omega
  · have := dg_len 18 n.toNat (by omega)
    omega
/-! ### words -/
def spl (c : UInt8) : List UInt8 → List (List UInt8)
  | [] => [[]]
  | x :: l => if x = c then [] :: spl c l else match spl c l with
    | [] => [[x]]
    | w :: ws => (x :: w) :: ws
def joinW (c : UInt8) : List (List UInt8) → List UInt8
  | [] => []
  | [w] => w
  | w :: v :: ws => w ++ c :: joinW c (v :: ws)
theorem spl_hd {c : UInt8} {r : List UInt8} : spl c (c :: r) = [] :: spl c r := by
  conv => lhs; unfold spl
  rw [if_pos rfl]
theorem spl_tl {c x : UInt8} {w r : List UInt8} {ws : List (List UInt8)} (h : x ≠ c) (hw : spl c r = w :: ws) : spl c (x :: r) = (x :: w) :: ws := by
  conv => lhs; unfold spl
  rw [if_neg h, hw]
theorem spl_none {c : UInt8} : ∀ {l : List UInt8}, c ∉ l → spl c l = [l]
  | [], _ => rfl
  | x :: l, h => by
    rw [List.mem_cons, not_or] at h
    exact spl_tl (fun e => h.1 e.symm) (spl_none h.2)
theorem spl_find {c : UInt8} : ∀ {w r : List UInt8}, c ∉ w → spl c (w ++ c :: r) = w :: spl c r
  | [], r, _ => spl_hd
  | x :: w, r, h => by
    rw [List.mem_cons, not_or] at h
    exact spl_tl (fun e => h.1 e.symm) (spl_find h.2)
theorem spl_ne (c : UInt8) (l : List UInt8) : spl c l ≠ [] := by
  cases l with
  | nil => simp [spl]
  | cons x l =>
    unfold spl
    split
    · simp
    · split <;> simp
theorem find_ex {c : UInt8} : ∀ {l : List UInt8}, c ∈ l → ∃ w r, l = w ++ c :: r ∧ c ∉ w
  | x :: l, h => by
    by_cases e : x = c
    · exact ⟨[], l, by rw [e]; rfl, by simp⟩
    · rw [List.mem_cons] at h
      obtain ⟨w, r, h1, h2⟩ := find_ex (h.resolve_left fun q => e q.symm)
      exact ⟨x :: w, r, by rw [h1]; rfl, by rw [List.mem_cons, not_or]; exact ⟨fun q => e q.symm, h2⟩⟩
theorem joinW_cons {c : UInt8} {w : List UInt8} {ws : List (List UInt8)} (h : ws ≠ []) : joinW c (w :: ws) = w ++ c :: joinW c ws := by
  cases ws with
  | nil => exact absurd rfl h
  | cons v ws => rfl
theorem spl_ind {c : UInt8} {p : List UInt8 → Prop} (h0 : ∀ l, c ∉ l → p l) (h1 : ∀ w r, c ∉ w → p r → p (w ++ c :: r)) : ∀ l, p l := by
  intro l
  generalize hn : l.length = n
  induction n using Nat.strongRecOn generalizing l with
  | _ n ih =>
    by_cases h : c ∈ l
    · obtain ⟨w, r, rfl, hw⟩ := find_ex h
      exact h1 w r hw (ih r.length (by rw [← hn, List.length_append, List.length_cons]; omega) r rfl)
    · exact h0 l h
theorem join_spl (c : UInt8) (l : List UInt8) : joinW c (spl c l) = l := by
  refine spl_ind (c := c) (p := fun l => joinW c (spl c l) = l) (fun l h => by rw [spl_none h]; rfl) (fun w r hw ih => ?_) l
  rw [spl_find hw, joinW_cons (spl_ne c r), ih]
theorem spl_join {c : UInt8} : ∀ {ws : List (List UInt8)}, ws ≠ [] → (∀ w ∈ ws, c ∉ w) → spl c (joinW c ws) = ws
  | [], h, _ => absurd rfl h
  | [w], _, h => spl_none (h w (by simp))
  | w :: v :: ws, _, h => by
    rw [joinW_cons (by simp), spl_find (h w (by simp)), spl_join (by simp) fun x hx => h x (List.mem_cons_of_mem _ hx)]
theorem spl_mem {c : UInt8} {l : List UInt8} : ∀ w ∈ spl c l, c ∉ w := by
  refine spl_ind (c := c) (p := fun l => ∀ w ∈ spl c l, c ∉ w) (fun l h => by rw [spl_none h]; simpa using h) (fun w r hw ih => ?_) l
  rw [spl_find hw]
  intro x hx
  rw [List.mem_cons] at hx
  rcases hx with rfl | hx
  · exact hw
  · exact ih x hx
def cntB (c : UInt8) (l : List UInt8) : Nat := (l.filter (fun x => x == c)).length
theorem spl_len {c : UInt8} {l : List UInt8} : (spl c l).length = cntB c l + 1 := by
  refine spl_ind (c := c) (p := fun l => (spl c l).length = cntB c l + 1) (fun l h => ?_) (fun w r hw ih => ?_) l
  · rw [spl_none h]
    unfold cntB
    rw [List.filter_eq_nil_iff.2 (fun x hx => by simp; intro e; exact h (e ▸ hx))]; rfl
  · rw [spl_find hw, List.length_cons, ih]
    unfold cntB
    have hz : w.filter (fun x => x == c) = [] := List.filter_eq_nil_iff.2 fun x hx => by simp; intro e; exact hw (e ▸ hx)
    rw [List.filter_append, hz, List.filter_cons_of_pos (by simp)]; simp
theorem cntB_le (c : UInt8) (l : List UInt8) : cntB c l ≤ l.length := List.length_filter_le _ _
end Go.Proofs.YtbcajgkaepihfaaDoor.Sym
