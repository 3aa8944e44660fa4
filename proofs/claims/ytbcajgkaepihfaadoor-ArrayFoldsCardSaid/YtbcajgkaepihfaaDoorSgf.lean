/- Numbers in parts. -/
import Derived.Test.YtbcajgkaepihfaaDoorSgc
import Derived.Test.YtbcajgkaepihfaaDoorSymDel
namespace Go.Proofs.YtbcajgkaepihfaaDoor
open Go.Proofs.YtbcajgkaepihfaaDoor.Sym
open Go.RowKit (Below)
set_option linter.unusedVariables false
set_option linter.unusedSimpArgs false
theorem all_oneI (xs : List Int) : (xs.flatMap intC).all oneCell = true := all_flat (fun _ => rfl) xs
/-- How many go on with a step. -/
def runN (d : Int) : Int → List Int → Nat
  | _, [] => 0
  | p, x :: xs => if x - p = d then runN d x xs + 1 else 0
/-- How many of the first numbers make a part. -/
def rowK : List Int → Nat
  | [] => 0
  | [_] => 1
  | a :: b :: xs => if runN (b - a) b xs = 0 ∧ 1 < b - a then 1 else runN (b - a) b xs + 2
theorem rowK_1 {a : Int} : rowK [a] = 1 := rfl
theorem rowK_2 {a b : Int} {xs : List Int} : rowK (a :: b :: xs) = if runN (b - a) b xs = 0 ∧ 1 < b - a then 1 else runN (b - a) b xs + 2 := rfl
theorem runN_le (d : Int) : ∀ (p : Int) (xs : List Int), runN d p xs ≤ xs.length
  | _, [] => Nat.le_refl _
  | p, x :: xs => by
    unfold runN
    split
    · have := runN_le d x xs; rw [List.length_cons]; omega
    · exact Nat.zero_le _
theorem runN_y {d p x : Int} {xs : List Int} (h : x - p = d) : runN d p (x :: xs) = runN d x xs + 1 := if_pos h
theorem runN_n {d p x : Int} {xs : List Int} (h : ¬ x - p = d) : runN d p (x :: xs) = 0 := if_neg h
theorem rowK_bd : ∀ {l : List Int}, l ≠ [] → 1 ≤ rowK l ∧ rowK l ≤ l.length
  | [], h => absurd rfl h
  | [_], _ => ⟨Nat.le_refl _, Nat.le_refl _⟩
  | a :: b :: xs, _ => by
    rw [rowK_2]
    have := runN_le (b - a) b xs
    rw [List.length_cons, List.length_cons]
    split <;> omega
theorem run_ap {d : Int} : ∀ {xs : List Int} {p : Int} {i : Nat}, i ≤ runN d p xs → (p :: xs)[i]? = some (p + (i : Int) * d)
  | _, p, 0, _ => by simp
  | [], p, i + 1, h => by simp [runN] at h
  | x :: xs, p, i + 1, h => by
    unfold runN at h
    split at h
    · next hd =>
      rw [List.getElem?_cons_succ, run_ap (d := d) (xs := xs) (p := x) (i := i) (by omega)]
      rw [Int.natCast_succ, Int.add_mul, Int.one_mul]
      congr 1; omega
    · omega
def stepK (l : List Int) : Int := if 1 < rowK l then l.getD 1 0 - l.getD 0 0 else 1
def fpart (l : List Int) : Part := ⟨l.getD 0 0, l.getD (rowK l - 1) 0, stepK l⟩
theorem row_ap : ∀ {l : List Int} {i : Nat}, i < rowK l → l[i]? = some (l.getD 0 0 + (i : Int) * stepK l)
  | [], i, h => by simp [rowK] at h
  | [a], i, h => by
    have : i = 0 := by rw [rowK_1] at h; omega
    subst this; simp
  | a :: b :: xs, 0, h => by simp
  | a :: b :: xs, i + 1, h => by
    have hk : 1 < rowK (a :: b :: xs) := by omega
    have hs : stepK (a :: b :: xs) = b - a := by unfold stepK; rw [if_pos hk]; rfl
    rw [hs]
    rw [rowK_2] at h
    split at h
    · omega
    · rw [List.getElem?_cons_succ, run_ap (d := b - a) (by omega), Int.natCast_succ, Int.add_mul, Int.one_mul]
      congr 1
      show b + _ = a + _
      omega
def foldF : Nat → List Int → List Part
  | 0, _ => []
  | n + 1, l => if l = [] then [] else fpart l :: foldF n (l.drop (rowK l))
theorem foldF_any : ∀ {n m : Nat} {l : List Int}, l.length ≤ n → l.length ≤ m → foldF n l = foldF m l
  | 0, 0, _, _, _ => rfl
  | 0, m + 1, l, h, _ => by
    have : l = [] := List.length_eq_zero_iff.1 (by omega)
    unfold foldF; rw [if_pos this]
  | n + 1, 0, l, _, h => by
    have : l = [] := List.length_eq_zero_iff.1 (by omega)
    unfold foldF; rw [if_pos this]
  | n + 1, m + 1, l, h, k => by
    unfold foldF
    by_cases e : l = []
    · rw [if_pos e, if_pos e]
    · rw [if_neg e, if_neg e]
      have := rowK_bd e
      rw [foldF_any (n := n) (m := m) (by rw [List.length_drop]; omega) (by rw [List.length_drop]; omega)]
def foldP (l : List Int) : List Part := foldF l.length l
theorem foldP_nil : foldP [] = [] := rfl
theorem foldP_cons {l : List Int} (h : l ≠ []) : foldP l = fpart l :: foldP (l.drop (rowK l)) := by
  have hb := rowK_bd h
  unfold foldP
  rw [foldF_any (l := l) (n := l.length) (m := l.length + 1) (Nat.le_refl _) (by omega)]
  conv => lhs; unfold foldF
  rw [if_neg h, foldF_any (n := l.length) (m := (l.drop (rowK l)).length) (by rw [List.length_drop]; omega) (Nat.le_refl _)]
/-- What is folded, part by part, is what it was. -/
theorem fpart_nums {l : List Int} (h : l ≠ []) (ha : l.Pairwise (· < ·)) (hb : ∀ x ∈ l, 0 ≤ x ∧ x ≤ 9999) : PRight (fpart l) ∧ manyI (fpart l) = rowK l ∧ partL (fpart l) = l.take (rowK l) := by
  obtain ⟨h1, h2⟩ := rowK_bd h
  have e0 := row_ap (l := l) (i := 0) (by omega)
  have e1 := row_ap (l := l) (i := rowK l - 1) (by omega)
  have et : l.getD (rowK l - 1) 0 = l.getD 0 0 + ((rowK l - 1 : Nat) : Int) * stepK l := by rw [List.getD_eq_getElem?_getD, e1]; rfl
  have m0 := hb _ (List.mem_of_getElem? e0)
  have m1 := hb _ (List.mem_of_getElem? e1)
  rw [← et] at m1
  have e0' : l.getD 0 0 + ((0 : Nat) : Int) * stepK l = l.getD 0 0 := by simp
  rw [e0'] at m0 e0
  have hst : 1 ≤ stepK l ∧ stepK l ≤ 9999 := by
    by_cases hk : 1 < rowK l
    · have e2 := row_ap (l := l) (i := 1) hk
      have m2 := hb _ (List.mem_of_getElem? e2)
      have hlt : l.getD 0 0 < l.getD 0 0 + ((1 : Nat) : Int) * stepK l := by
        rw [List.pairwise_iff_getElem] at ha
        have g0 := List.getElem?_eq_some_iff.1 e0
        have g1 := List.getElem?_eq_some_iff.1 e2
        obtain ⟨q0, q0'⟩ := g0
        obtain ⟨q1, q1'⟩ := g1
        have := ha 0 1 q0 q1 (by omega)
        rw [q0', q1'] at this
        exact this
      omega
    · have : stepK l = 1 := by unfold stepK; rw [if_neg hk]
      omega
  have hmul : (((rowK l - 1 : Nat) : Int)) * stepK l = l.getD (rowK l - 1) 0 - l.getD 0 0 := by omega
  have hR : PRight (fpart l) := by
    have : 0 ≤ (((rowK l - 1 : Nat) : Int)) * stepK l := Int.mul_nonneg (by omega) (by omega)
    unfold PRight fpart; dsimp only; omega
  have hm : manyI (fpart l) = rowK l := by
    rw [many_y hR]
    show (l.getD (rowK l - 1) 0 - l.getD 0 0) / stepK l + 1 = _
    rw [← hmul, Int.mul_ediv_cancel _ (by omega)]
    omega
  refine ⟨hR, hm, ?_⟩
  unfold partL
  rw [hm, Int.toNat_natCast]
  apply List.ext_getElem?
  intro i
  unfold partT
  rcases Nat.lt_or_ge i (rowK l) with hi | hi
  · rw [List.getElem?_map, List.getElem?_range hi, List.getElem?_take_of_lt hi, row_ap hi]; rfl
  · rw [List.getElem?_eq_none (by simp; exact hi), List.getElem?_eq_none (by rw [List.length_take]; omega)]
theorem numG_fold : ∀ (n : Nat) (l acc : List Int), l.length ≤ n → l.Pairwise (· < ·) → (∀ x ∈ l, 0 ≤ x ∧ x ≤ 9999) → acc.length + l.length ≤ 60 → numG acc (foldP l) = .inl (acc ++ l)
  | n, [], acc, _, _, _, _ => by rw [foldP_nil, List.append_nil]; rfl
  | 0, x :: l, acc, h, _, _, _ => by simp at h
  | n + 1, x :: l, acc, h, ha, hb, hl => by
    have hne : x :: l ≠ [] := by simp
    obtain ⟨h1, h2⟩ := rowK_bd hne
    obtain ⟨hR, hm, hp⟩ := fpart_nums hne ha hb
    rw [foldP_cons hne, numG_ok hR (by rw [hm]; omega), hp]
    rw [numG_fold n ((x :: l).drop (rowK (x :: l))) (acc ++ (x :: l).take (rowK (x :: l))) (by rw [List.length_drop]; omega) (ha.sublist (List.drop_sublist _ _)) (fun y hy => hb y (List.mem_of_mem_drop hy)) (by rw [List.length_append, List.length_drop, List.length_take]; omega)]
    rw [List.append_assoc, List.take_append_drop]
theorem num_fold {Z ys : List Int} {e : Int} (h : NumR (foldP Z) ys e) (ha : Z.Pairwise (· < ·)) (hb : ∀ x ∈ Z, 0 ≤ x ∧ x ≤ 9999) (hl : Z.length ≤ 60) : ys = Z ∧ e = 0 := by
  unfold NumR at h
  rw [numG_fold Z.length Z [] (Nat.le_refl _) ha hb (by simpa using hl), List.nil_append] at h
  obtain ⟨zs, ht, h⟩ := h
  obtain rfl : zs = Z := ht.uniq ⟨ha, fun t => Iff.rfl⟩
  rcases h with ⟨q, _⟩ | ⟨_, q, r⟩
  · omega
  · exact ⟨q, r⟩
theorem fold_len : ∀ (n : Nat) (l : List Int), l.length ≤ n → (foldP l).length ≤ l.length
  | n, [], _ => by rw [foldP_nil]; exact Nat.le_refl _
  | 0, x :: l, h => by simp at h
  | n + 1, x :: l, h => by
    have hne : x :: l ≠ [] := by simp
    obtain ⟨h1, h2⟩ := rowK_bd hne
    have := fold_len n ((x :: l).drop (rowK (x :: l))) (by rw [List.length_drop]; omega)
    rw [foldP_cons hne, List.length_cons]
    rw [List.length_drop] at this
    omega
/-- The rest of a row, cut off. -/
theorem slv_cutk {α : Type} {W0 : World} {H : SHeap} {n b off cap k c2 o2 : Nat} {enc : α → List Value} {xs : List α} (h : SlV W0 H n enc (some ⟨b, off, none⟩) cap xs) (hc : xs.length - k ≤ c2) (hcb : c2 ≤ 9223372036854775807) (ho : k < xs.length → o2 = off + k * n) : SlV W0 H n enc (some ⟨b, o2, none⟩) c2 (xs.drop k) := by
  refine ⟨by rw [List.length_drop]; exact hc, hcb, fun i x hx => ?_⟩
  rw [List.getElem?_drop] at hx
  have hlt := get_lt hx
  obtain ⟨b', off', e, hcl⟩ := h.at_ (k + i) x hx
  cases e
  refine ⟨b, o2, rfl, ?_⟩
  rw [ho (by omega), Nat.add_assoc, ← Nat.add_mul]
  exact hcl
/-- The least of what is left. -/
def okT (Z : List Int) (k : Nat) (t : Int) : Prop := ∀ u ∈ Z.take k, u < t
def InnS (l Z : List Int) (k i : Nat) (best : Int) (is : Bool) : Prop := if is then best ∈ l ∧ okT Z k best ∧ ∀ t ∈ l.take i, okT Z k t → best ≤ t else ∀ t ∈ l.take i, ¬ okT Z k t
theorem okT_nil {Z : List Int} {k : Nat} {t : Int} (h : (Z.take k).length = 0) : okT Z k t := by
  unfold okT; rw [List.length_eq_zero_iff.1 h]; simp
theorem okT_last {Z : List Int} {k m : Nat} {t z : Int} (hZ : Z.Pairwise (· < ·)) (h : (Z.take k).length = m + 1) (hz : (Z.take k)[m]? = some z) : okT Z k t ↔ z < t := by
  refine ⟨fun q => q z (List.mem_of_getElem? hz), fun q u hu => ?_⟩
  have hp : (Z.take k).Pairwise (· < ·) := hZ.sublist (List.take_sublist _ _)
  obtain ⟨j, hj, rfl⟩ := List.getElem_of_mem hu
  obtain ⟨hm, rfl⟩ := List.getElem?_eq_some_iff.1 hz
  rcases Nat.lt_or_ge j m with h2 | h2
  · have := (List.pairwise_iff_getElem.1 hp) j m hj hm h2; omega
  · obtain rfl : j = m := by omega
    exact q
theorem inn_0 {l Z : List Int} {k : Nat} {best : Int} : InnS l Z k 0 best false := by unfold InnS; simp
theorem inn_skip {l Z : List Int} {k i : Nat} {best x : Int} {is : Bool} (h : InnS l Z k i best is) (hx : l[i]? = some x) (hn : okT Z k x → is = true ∧ best ≤ x) : InnS l Z k (i + 1) best is := by
  unfold InnS at h ⊢
  cases is with
  | true =>
    rw [if_pos rfl] at h ⊢
    refine ⟨h.1, h.2.1, fun t ht ho => ?_⟩
    rw [takeS hx, List.mem_append, List.mem_singleton] at ht
    rcases ht with ht | rfl
    · exact h.2.2 t ht ho
    · exact (hn ho).2
  | false =>
    rw [if_neg (by simp)] at h ⊢
    intro t ht ho
    rw [takeS hx, List.mem_append, List.mem_singleton] at ht
    rcases ht with ht | rfl
    · exact h t ht ho
    · exact absurd (hn ho).1 (by simp)
theorem inn_take {l Z : List Int} {k i : Nat} {best x : Int} {is : Bool} (h : InnS l Z k i best is) (hx : l[i]? = some x) (ho : okT Z k x) (hn : is = true → x < best) : InnS l Z k (i + 1) x true := by
  unfold InnS at h ⊢
  rw [if_pos rfl]
  refine ⟨List.mem_of_getElem? hx, ho, fun t ht hot => ?_⟩
  rw [takeS hx, List.mem_append, List.mem_singleton] at ht
  rcases ht with ht | rfl
  · cases is with
    | true =>
      rw [if_pos rfl] at h
      have := h.2.2 t ht hot
      have := hn rfl
      omega
    | false =>
      rw [if_neg (by simp)] at h
      exact absurd hot (h t ht)
  · exact Int.le_refl _
theorem inn_end {l Z : List Int} {k : Nat} {best : Int} {is : Bool} (hT : Tms l Z) (h : InnS l Z k l.length best is) : (is = true ∧ Z.take (k + 1) = Z.take k ++ [best]) ∨ (is = false ∧ Z.take (k + 1) = Z.take k) := by
  unfold InnS at h
  rw [List.take_length] at h
  have hlt : ∀ {i j : Nat} (hi : i < Z.length) (hj : j < Z.length), i < j → Z[i] < Z[j] := fun hi hj hij => (List.pairwise_iff_getElem.1 hT.1) _ _ hi hj hij
  have hok : ∀ {j : Nat} (hj : j < Z.length), k ≤ j → okT Z k Z[j] := fun {j} hj hkj u hu => by
    obtain ⟨i, hi, rfl⟩ := List.getElem_of_mem hu
    rw [List.length_take] at hi
    rw [List.getElem_take]
    exact hlt (by omega) hj (by omega)
  cases is with
  | true =>
    rw [if_pos rfl] at h
    obtain ⟨h1, h2, h3⟩ := h
    have hbz := (hT.2 best).2 h1
    obtain ⟨j, hj, hje⟩ := List.getElem_of_mem hbz
    have hkj : k ≤ j := by
      rcases Nat.lt_or_ge j k with q | q
      · exfalso
        have := h2 Z[j] (List.mem_of_getElem? (i := j) (by rw [List.getElem?_take_of_lt q, List.getElem?_eq_getElem hj]))
        omega
      · exact q
    have hk : k < Z.length := by omega
    have h4 := h3 Z[k] ((hT.2 _).1 (List.getElem_mem hk)) (hok hk (Nat.le_refl _))
    have : best = Z[k] := by
      rcases Nat.lt_or_ge k j with q | q
      · have := hlt hk hj q; omega
      · obtain rfl : k = j := by omega
        exact hje.symm
    refine .inl ⟨rfl, ?_⟩
    rw [this]
    exact takeS (List.getElem?_eq_getElem hk)
  | false =>
    rw [if_neg (by simp)] at h
    refine .inr ⟨rfl, ?_⟩
    have hk : Z.length ≤ k := by
      rcases Nat.lt_or_ge k Z.length with q | q
      · exact absurd (hok q (Nat.le_refl _)) (h _ ((hT.2 _).1 (List.getElem_mem q)))
      · exact q
    rw [List.take_of_length_le hk, List.take_of_length_le (by omega)]
def smallB (xs : List Int) (k : Nat) : Bool := (xs.take k).all fun x => decide (0 ≤ x) && decide (x ≤ 9999)
theorem smallB_s {xs : List Int} {k : Nat} {x : Int} (h : xs[k]? = some x) : smallB xs (k + 1) = (smallB xs k && (decide (0 ≤ x) && decide (x ≤ 9999))) := by
  unfold smallB; rw [takeS h, List.all_append]; simp
theorem smallB_t {xs : List Int} (h : true = smallB xs xs.length) : ∀ x ∈ xs, 0 ≤ x ∧ x ≤ 9999 := fun x hx => by
  unfold smallB at h
  rw [List.take_length] at h
  have := List.all_eq_true.1 h.symm x hx
  rw [Bool.and_eq_true, decide_eq_true_iff, decide_eq_true_iff] at this
  exact this
structure SoG where
  k : Nat
  sl : Value
  E : SHeap
structure FoG where
  m : Nat
  a : Option Addr
  cap : Nat
  acc : List Part
  sl : Value
  E : SHeap
structure LfG where
  k : Nat
  m : Nat
  n : Nat
  a : Option Addr
  cap : Nat
theorem inn_t {l Z : List Int} {k : Nat} {best : Int} (hT : Tms l Z) (h : InnS l Z k l.length best true) : Z.take (k + 1) = Z.take k ++ [best] := by
  rcases inn_end hT h with ⟨_, h⟩ | ⟨h, _⟩
  · exact h
  · cases h
theorem inn_f {l Z : List Int} {k : Nat} {best : Int} (hT : Tms l Z) (h : InnS l Z k l.length best false) : Z.take (k + 1) = Z.take k := by
  rcases inn_end hT h with ⟨h, _⟩ | ⟨_, h⟩
  · cases h
  · exact h
theorem getD_get {l : List Int} {i : Nat} (h : i < l.length) : l[i]? = some (l.getD i 0) := by rw [List.getD_eq_getElem?_getD, List.getElem?_eq_getElem h]; rfl
def Rng (x : Int) : Prop := -1073741824 ≤ x ∧ x ≤ 1073741824
theorem rng_s {xs : List Int} {k : Nat} {x : Int} (hr : ∀ y ∈ xs.take k, Rng y) (hx : xs[k]? = some x) (h1 : ¬ x < -1073741824) (h2 : ¬ x > 1073741824) : ∀ y ∈ xs.take (k + 1), Rng y := fun y hy => by
  rw [takeS hx, List.mem_append, List.mem_singleton] at hy
  rcases hy with hy | rfl
  · exact hr y hy
  · unfold Rng; omega
theorem drop_uncons {α : Type} {l t : List α} {n : Nat} {x : α} (h : l.drop n = x :: t) : l[n]? = some x ∧ l.drop (n + 1) = t := by
  constructor
  · have := congrArg (·[0]?) h; simpa using this
  · have := congrArg (List.drop 1) h; simpa [List.drop_drop, Nat.add_comm] using this
section
variable {P : Program} {W0 : World} {F : Fm} {H : SHeap} {d : Option Tmp} {ty : TypeId} {pos : String} {af : Array Edge} {g : Option (Nat × Bool)} {t e : TypeId} {x y z u : Operand} {n : Nat}
theorem x_slice3K {len cap b off i1 l2 : Nat} {k k' k2 : IntKind} (h : P.underlying t = some (.slice e)) (hs : szOf P e = some n) (hx : val F x = some (.slice (some ⟨b, off, none⟩) len cap)) (hy : val F y = some (.int k (i1 : Nat))) (hz : val F z = some (.int k' (len : Nat))) (hu : val F u = some (.int k2 (len : Nat))) (hi : i1 ≤ len) (hc : len ≤ cap) (hl : l2 = len - i1) :
    Rd P W0 F H ⟨d, .slice t x (some y) (some z) (some u), ty, pos, af, g⟩ (.slice (some ⟨b, if len = i1 then off else off + i1 * n, none⟩) l2 (len - i1)) := by
  subst hl
  have := x_slice3 (P := P) (W0 := W0) (F := F) (H := H) (d := d) (ty := ty) (pos := pos) (af := af) (g := g) h hs hx hy hz hu (by omega) (by omega) (by omega) (by omega)
  rwa [Int.toNat_natCast, Int.toNat_natCast] at this
theorem x_sliceLoD {len cap b off j l2 : Nat} {k : IntKind} (h : P.underlying t = some (.slice e)) (hs : szOf P e = some n) (hx : val F x = some (.slice (some ⟨b, off, none⟩) len cap)) (hy : val F y = some (.int k (j : Nat))) (hi : j ≤ len) (hlc : len ≤ cap) (hl : l2 = len - j) :
    Rd P W0 F H ⟨d, .slice t x (some y) none none, ty, pos, af, g⟩ (.slice (some ⟨b, if cap = j then off else off + j * n, none⟩) l2 (cap - j)) := by
  subst hl; exact x_sliceLoC j h hs hx hy rfl hi hlc
end
theorem cl70 : Callable Tryd.prog 70 := ⟨Tryd.f70, Tryd.func70, by kernel_rfl, by kernel_rfl⟩
theorem cl71 : Callable Tryd.prog 71 := ⟨Tryd.f71, Tryd.func71, by kernel_rfl, by kernel_rfl⟩
section
variable {W0 : World}
set_option maxRecDepth 100000 in
set_option maxHeartbeats 400000 in
theorem iclone_s (a : Option Addr) (cap : Nat) (xs : List Int) (H : SHeap) (hs : SlV W0 H 1 intC a cap xs) (hjl : xs.length ≤ 1000000) : AC Tryd.prog W0 70 [.slice a xs.length cap] H (fun v H' => ∃ E2, (∃ a2 cap2, OwnVec 1 3 (.slice a2 xs.length cap2) xs.length (xs.flatMap intC) E2 ∧ v = .slice a2 xs.length cap2) ∧ H' = E2 ++ H) := by
  have hfl := flat_len (n := 1) (enc := intC) (fun _ => rfl) xs
  have hfn : a.isNone = true → xs.length = 0 := fun h => by rcases hs.flat (fun _ => rfl) (by omega) with ⟨q, _⟩ | ⟨b, off, rfl, _⟩ <;> first | exact q | cases h
  refine ac_of Tryd.func70 rfl rfl rfl ?_
  refine aw_seq_region ?_
  refine sr_as ?_
  refine sr_nil ?_
  refine aw_kp [0, 2] ?_
  refine aw_seq ?_
  refine aw_seq_region ?_
  refine sr_mv ?_
  refine sr_rd (x_eqnils Tryd.underlying69 rfl rfl) ?_
  refine sr_nil ?_
  refine aw_kp [0, 2, 4] ?_
  refine aw_cond rfl (fun hb1 => ?_) (fun hb1 => ?_)
  · refine aw_seq_region ?_
    refine sr_as ?_
    refine sr_nil ?_
    refine aw_kp [0, 2] ?_
    refine aw_ret ?_
    show ∃ v H2, ResV _ _ _ _ _ _ v ∧ Sub H2 _ ∧ _
    first | (rw [Nat.zero_add, List.nil_append] at hV7; obtain ⟨a7, cap7, rfl⟩ := hV7.isSl; exact ⟨_, E7 ++ H, resV rfl (.cons rfl .nil), (Sub.refl _), E7, ⟨a7, cap7, hV7, rfl⟩, rfl⟩) | (have hz := hfn (by assumption); have hj0 : xs = [] := List.length_eq_zero_iff.1 hz; subst hj0; exact ⟨_, [] ++ H, resV rfl (.cons rfl .nil), (Sub.refl _), [], ⟨none, 0, .nil, rfl⟩, rfl⟩)
  · refine aw_skip ?_
    show AW _ _ _ _ _ _ _
    refine aw_seq_region ?_
    refine sr_new rfl (wtd_none rfl) rfl (x_buildSlice0 Tryd.underlying69 sz3 rfl) ?_
    intro r3_0 hr3_0 gr3_0
    refine sr_mv ?_
    refine sr_d rfl (wtd_none rfl) rfl (opS_append (G := H) (N := xs.flatMap intC) (m := xs.length) Tryd.underlying69 sz3 zr3 rfl by3 rfl rfl (OwnVec.mk (r := r3_0) (n := 0) (cap := 0) (L := []) (post := []) rfl rfl (by omega) (by omega)) Sub.autoP (((hs.mono (by repeat (first | exact Sub.refl _ | apply Sub.drop))).flat (fun _ => rfl) (by omega))) (hfl) (all_oneI xs) (by omega) (by omega)) ?_
    rintro v7 _ ⟨E7, hV7, rfl⟩
    refine sr_as ?_
    refine sr_nil ?_
    refine aw_kp [2] ?_
    refine aw_ret ?_
    show ∃ v H2, ResV _ _ _ _ _ _ v ∧ Sub H2 _ ∧ _
    first | (rw [Nat.zero_add, List.nil_append] at hV7; obtain ⟨a7, cap7, rfl⟩ := hV7.isSl; exact ⟨_, E7 ++ H, resV rfl (.cons rfl .nil), (Sub.refl _), E7, ⟨a7, cap7, hV7, rfl⟩, rfl⟩) | (have hz := hfn (by assumption); have hj0 : xs = [] := List.length_eq_zero_iff.1 hz; subst hj0; exact ⟨_, [] ++ H, resV rfl (.cons rfl .nil), (Sub.refl _), [], ⟨none, 0, .nil, rfl⟩, rfl⟩)
set_option maxRecDepth 100000 in
set_option maxHeartbeats 400000 in
theorem rowP1_s (sa : Option Addr) (scap : Nat) (H : SHeap) : AC Tryd.prog W0 71 [.slice sa 1 scap] H (fun v H' => v = .int .i64 ((1 : Nat) : Int) ∧ H' = H) := by
  refine ac_of Tryd.func71 rfl rfl rfl ?_
  refine aw_seq_region ?_
  refine sr_as ?_
  refine sr_nil ?_
  refine aw_kp [0, 2] ?_
  refine aw_seq_region ?_
  refine sr_mv ?_
  refine sr_rd (x_lenSlice Tryd.underlying69 rfl) ?_
  refine sr_rd (x_cast (u := .int .i64 1) (x_min rfl rfl) (congrArg (Value.int .i64) (by omega))) ?_
  refine sr_as ?_
  refine sr_nil ?_
  refine aw_kp [0, 2, 3] ?_
  refine aw_seq ?_
  refine aw_block ?_
  refine aw_loop (ι := Unit) (fun _ => True) (fun _ => [(0, .slice sa 1 scap), (2, .int .i64 0), (3, .int .i64 1)]) (fun _ => H) (fun _ => 0) () (trivial) KeepF.auto (by repeat (first | exact Sub.refl _ | apply Sub.drop)) ?_
  intro _ _
  refine aw_seq ?_
  refine aw_seq_dr ⟨_, 24, 46, [[], [], [1], [0, 1, 2], [0, 1, 2, 3], [0, 1, 2, 3, 4], [0, 1, 2, 3, 4], [0, 1, 2, 3, 4, 5, 6], [0, 1, 2, 3, 4, 5, 6, 7], [0, 1, 2, 3, 4], [0, 1, 2, 3, 4], [0, 1, 2, 3, 4, 10], [0, 1, 2, 3, 4, 9, 10, 11], [0, 1, 2, 3, 4, 9, 10, 11, 12], [0, 1, 2, 3, 4, 5, 6, 7, 8, 9, 10, 11, 12, 13], [0, 1, 2, 3, 4], [0, 1, 2, 3, 4, 15], [0, 1, 2, 3, 4, 15, 16], [0, 1, 2, 3, 4], [0, 1, 2, 3, 4, 18], [0, 1, 2, 3, 4, 18, 19], [0, 1, 2, 3, 4, 15, 16, 17, 18, 19, 20], [0, 1, 2, 3, 4, 5, 6, 7, 8, 9, 10, 11, 12, 13, 14, 15, 16, 17, 18, 19, 20, 21], [0, 1, 2, 3, 4, 5, 6, 7, 8, 9, 10, 11, 12, 13, 14, 15, 16, 17, 18, 19, 20, 21, 22]], [.light, .light, .light, .light, .light, .light, .light, .light, .mem, .light, .light, .light, .light, .mem, .light, .light, .light, .mem, .light, .light, .mem, .light, .light, .light]⟩ (by kernel_rfl) rfl rfl mix ?_
  refine dr_l (x_move rfl) ?_
  refine dr_l (x_move rfl) ?_
  refine dr_l (x_lenSlice Tryd.underlying69 rfl) ?_
  refine dr_cmp rfl rfl (wtd_none rfl) (x_lt rfl rfl) (fun h1 => absurd h1 (by decide)) (fun h1 => ?_)
  refine dr_l (x_move rfl) ?_
  refine dr_sk ?_
  refine dr_sk ?_
  refine dr_sk ?_
  refine dr_sk ?_
  refine dr_sk ?_
  refine dr_sk ?_
  refine dr_sk ?_
  refine dr_sk ?_
  refine dr_sk ?_
  refine dr_sk ?_
  refine dr_sk ?_
  refine dr_sk ?_
  refine dr_sk ?_
  refine dr_sk ?_
  refine dr_sk ?_
  refine dr_sk ?_
  refine dr_sk ?_
  refine dr_sk ?_
  refine dr_l (x_pick_f rfl rfl rfl) ?_
  refine dr_nil0 ?_
  refine aw_kp [0, 2, 3, 7, 8, 9, 10, 11, 12, 13, 14, 15, 16, 17, 18, 19, 20, 21, 22, 23, 24, 25, 26, 27, 28, 29, 30] ?_
  refine aw_false rfl ?_
  refine aw_exit ?_
  show AW _ _ _ _ _ _ _
  refine aw_seq ?_
  refine aw_seq_dr ⟨_, 12, 46, [[], [0], [0, 1], [0, 1, 2], [0, 1, 2, 3], [0, 1, 2, 3, 4], [0, 1, 2], [0, 1, 2, 6], [0, 1, 2, 6, 7], [0, 1, 2, 3, 4, 5, 6, 7, 8], [0, 1, 2, 3, 4, 5, 6, 7, 8, 9], [0, 1, 2, 3, 4, 5, 6, 7, 8, 9, 10]], [.light, .light, .light, .light, .light, .mem, .light, .light, .mem, .light, .light, .light]⟩ (by kernel_rfl) rfl rfl mix ?_
  refine dr_l (x_move rfl) ?_
  refine dr_cmp rfl rfl (wtd_none rfl) (x_eq rfl rfl) (fun h2 => absurd h2 (by decide)) (fun h2 => ?_)
  refine dr_l (x_move rfl) ?_
  refine dr_sk ?_
  refine dr_sk ?_
  refine dr_sk ?_
  refine dr_sk ?_
  refine dr_sk ?_
  refine dr_sk ?_
  refine dr_sk ?_
  refine dr_sk ?_
  refine dr_l (x_pick_f rfl rfl rfl) ?_
  refine dr_nil0 ?_
  refine aw_kp [2, 3, 44] ?_
  refine aw_false rfl ?_
  refine aw_skip ?_
  show AW _ _ _ _ _ _ _
  refine aw_seq_region ?_
  refine sr_mv ?_
  refine sr_as ?_
  refine sr_nil ?_
  refine aw_kp [2] ?_
  refine aw_ret ?_
  show ∃ v H2, ResV _ _ _ _ _ _ v ∧ Sub H2 _ ∧ _
  exact ⟨_, H, resV rfl (.cons rfl .nil), (by repeat (first | exact Sub.refl _ | apply Sub.drop)), ⟨rfl, rfl⟩⟩
set_option maxRecDepth 100000 in
set_option maxHeartbeats 400000 in
theorem rowL1_s (sa : Option Addr) (scap : Nat) (H : SHeap) : AC Tryd.prog W0 48 [.slice sa 1 scap] H (fun v H' => v = .int .i64 ((1 : Nat) : Int) ∧ H' = H) := by
  refine ac_of Tryd.func48 rfl rfl rfl ?_
  refine aw_seq_region ?_
  refine sr_as ?_
  refine sr_nil ?_
  refine aw_kp [0, 2] ?_
  refine aw_seq ?_
  refine aw_seq_region ?_
  refine sr_mv ?_
  refine sr_rd (x_lenSlice Tryd.underlying69 rfl) ?_
  refine sr_c (x_lt rfl rfl) (fun h1 => ?_) (fun h1 => absurd (by decide) h1)
  refine sr_nil ?_
  refine aw_kp [0, 2, 6] ?_
  refine aw_true rfl ?_
  refine aw_seq_region ?_
  refine sr_mv ?_
  refine sr_rd (x_lenSlice Tryd.underlying69 rfl) ?_
  refine sr_as ?_
  refine sr_nil ?_
  refine aw_kp [0, 2] ?_
  refine aw_ret ?_
  show ∃ v H2, ResV _ _ _ _ _ _ v ∧ Sub H2 _ ∧ _
  exact ⟨_, H, resV rfl (.cons rfl .nil), (by repeat (first | exact Sub.refl _ | apply Sub.drop)), ⟨rfl, rfl⟩⟩
set_option maxRecDepth 100000 in
set_option maxHeartbeats 1000000 in
theorem rowPN_s (a b : Int) (xs : List Int) (sa : Option Addr) (scap : Nat) (H : SHeap) (hs : SlV W0 H 1 intC sa scap (a :: b :: xs)) (hb : ∀ x ∈ (a :: b :: xs), Rng x) (hl : (a :: b :: xs).length ≤ 1000) : AC Tryd.prog W0 71 [.slice sa (a :: b :: xs).length scap] H (fun v H' => v = .int .i64 (rowK (a :: b :: xs) : Nat) ∧ H' = H) := by
  have hle := hs.le
  have hcb := hs.capb
  obtain ⟨b0, o0, ha0, hc0⟩ := hs.at_ 0 a rfl
  obtain ⟨b1, o1, ha1, hc1⟩ := hs.at_ 1 b rfl
  have hba := hb a List.mem_cons_self
  have hbb := hb b (List.mem_cons_of_mem _ List.mem_cons_self)
  unfold Rng at hba hbb
  have hll : (a :: b :: xs).length = xs.length + 2 := rfl
  refine ac_of Tryd.func71 rfl rfl rfl ?_
  refine aw_seq_region ?_
  refine sr_as ?_
  refine sr_nil ?_
  refine aw_kp [0, 2] ?_
  refine aw_seq_region ?_
  refine sr_mv ?_
  refine sr_rd (x_lenSlice Tryd.underlying69 rfl) ?_
  refine sr_rd (x_cast (u := .int .i64 2) (x_min rfl rfl) (congrArg (Value.int .i64) (by omega))) ?_
  refine sr_as ?_
  refine sr_nil ?_
  refine aw_kp [0, 2, 3] ?_
  refine aw_seq ?_
  refine aw_block ?_
  refine aw_loop (ι := Nat × Int) (fun s => 2 ≤ s.1 ∧ s.1 ≤ (a :: b :: xs).length ∧ (a :: b :: xs)[s.1 - 1]? = some s.2 ∧ runN (b - a) b xs + 2 = s.1 + runN (b - a) s.2 ((a :: b :: xs).drop s.1)) (fun s => [(0, .slice sa (a :: b :: xs).length scap), (2, .int .i64 0), (3, .int .i64 (s.1 : Nat))]) (fun _ => H) (fun s => (a :: b :: xs).length - s.1) (2, b) (⟨Nat.le_refl _, by dsimp only; omega, rfl, Nat.add_comm _ _⟩) KeepF.auto (by repeat (first | exact Sub.refl _ | apply Sub.drop)) ?_
  intro s hs9
  obtain ⟨k, p⟩ := s
  dsimp only at hs9 ⊢
  obtain ⟨hk2, hk, hp, hgo⟩ := hs9
  refine aw_seq ?_
  refine aw_seq_dr ⟨_, 24, 46, [[], [], [1], [0, 1, 2], [0, 1, 2, 3], [0, 1, 2, 3, 4], [0, 1, 2, 3, 4], [0, 1, 2, 3, 4, 5, 6], [0, 1, 2, 3, 4, 5, 6, 7], [0, 1, 2, 3, 4], [0, 1, 2, 3, 4], [0, 1, 2, 3, 4, 10], [0, 1, 2, 3, 4, 9, 10, 11], [0, 1, 2, 3, 4, 9, 10, 11, 12], [0, 1, 2, 3, 4, 5, 6, 7, 8, 9, 10, 11, 12, 13], [0, 1, 2, 3, 4], [0, 1, 2, 3, 4, 15], [0, 1, 2, 3, 4, 15, 16], [0, 1, 2, 3, 4], [0, 1, 2, 3, 4, 18], [0, 1, 2, 3, 4, 18, 19], [0, 1, 2, 3, 4, 15, 16, 17, 18, 19, 20], [0, 1, 2, 3, 4, 5, 6, 7, 8, 9, 10, 11, 12, 13, 14, 15, 16, 17, 18, 19, 20, 21], [0, 1, 2, 3, 4, 5, 6, 7, 8, 9, 10, 11, 12, 13, 14, 15, 16, 17, 18, 19, 20, 21, 22]], [.light, .light, .light, .light, .light, .light, .light, .light, .mem, .light, .light, .light, .light, .mem, .light, .light, .light, .mem, .light, .light, .mem, .light, .light, .light]⟩ (by kernel_rfl) rfl rfl mix ?_
  refine dr_l (x_move rfl) ?_
  refine dr_l (x_move rfl) ?_
  refine dr_l (x_lenSlice Tryd.underlying69 rfl) ?_
  refine dr_cmp rfl rfl (wtd_none rfl) (x_lt rfl rfl) (fun h1 => ?_) (fun h1 => ?_)
  · refine dr_l (x_move rfl) ?_
    obtain ⟨x, hx⟩ := get_ex (show k < (a :: b :: xs).length by omega)
    obtain ⟨bx, ox, hax, hcx⟩ := hs.at_ k _ hx
    obtain ⟨bp, op9, hap, hcp⟩ := hs.at_ (k - 1) _ hp
    have hbx := hb x (List.mem_of_getElem? hx)
    have hbp := hb p (List.mem_of_getElem? hp)
    unfold Rng at hbx hbp
    refine dr_y (x_move rfl) ?_
    refine dr_y (x_move rfl) ?_
    refine dr_y (x_indexAddrN (k) Tryd.underlying69 sz3 rfl hax rfl (by omega) (by omega)) ?_
    refine dr_mem0 rfl rfl (wtd_yes rfl rfl rfl) (x_load ag3 rfl (Cells.mono hcx Sub.autoR)) ?_
    refine dr_y (x_move rfl) ?_
    refine dr_y (x_move rfl) ?_
    refine dr_y (x_sub' rfl rfl (i64w (by omega) (by omega))) ?_
    refine dr_y (x_indexAddrN (k - 1) Tryd.underlying69 sz3 rfl hap rfl (by omega) (by omega)) ?_
    refine dr_mem0 rfl rfl (wtd_yes rfl rfl rfl) (x_load ag3 rfl (Cells.mono hcp Sub.autoR)) ?_
    refine dr_y (x_sub' rfl rfl (i64w (by omega) (by omega))) ?_
    refine dr_y (x_move rfl) ?_
    refine dr_y (x_indexAddrN (1) Tryd.underlying69 sz3 rfl ha1 rfl (by omega) (by omega)) ?_
    refine dr_mem0 rfl rfl (wtd_yes rfl rfl rfl) (x_load ag3 rfl (Cells.mono hc1 Sub.autoR)) ?_
    refine dr_y (x_move rfl) ?_
    refine dr_y (x_indexAddrN (0) Tryd.underlying69 sz3 rfl ha0 rfl (by omega) (by omega)) ?_
    refine dr_mem0 rfl rfl (wtd_yes rfl rfl rfl) (x_load ag3 rfl (Cells.mono hc0 Sub.autoR)) ?_
    refine dr_y (x_sub' rfl rfl (i64w (by omega) (by omega))) ?_
    refine dr_cmp rfl rfl (wtd_yes rfl rfl rfl) (x_eq rfl rfl) (fun h2 => ?_) (fun h2 => ?_)
    · refine dr_l (x_pick_t rfl rfl rfl) ?_
      refine dr_nil0 ?_
      refine aw_kp [0, 2, 3, 7, 8, 9, 10, 11, 12, 13, 14, 15, 16, 17, 18, 19, 20, 21, 22, 23, 24, 25, 26, 27, 28, 29, 30] ?_
      refine aw_true rfl ?_
      refine aw_skip ?_
      show AW _ _ _ _ _ _ _
      refine aw_block ?_
      refine aw_region ?_
      refine sr_mv ?_
      refine sr_rd (x_add' rfl rfl (i64w (by omega) (by omega))) ?_
      refine sr_as ?_
      refine sr_nil ?_
      show ∃ s', _ ∧ _ ∧ _ ∧ _
      exact ⟨(k + 1, x), ⟨by dsimp only; omega, by dsimp only; omega, by dsimp only; exact hx, by dsimp only; rw [drop_at hx, runN_y (by omega)] at hgo; omega⟩, by dsimp only; omega, KeepF.auto, (by repeat (first | exact Sub.refl _ | apply Sub.drop))⟩
    · refine dr_l (x_pick_t rfl rfl rfl) ?_
      refine dr_nil0 ?_
      refine aw_kp [0, 2, 3, 7, 8, 9, 10, 11, 12, 13, 14, 15, 16, 17, 18, 19, 20, 21, 22, 23, 24, 25, 26, 27, 28, 29, 30] ?_
      refine aw_false rfl ?_
      refine aw_exit ?_
      show AW _ _ _ _ _ _ _
      refine aw_seq ?_
      refine aw_seq_dr ⟨_, 12, 46, [[], [0], [0, 1], [0, 1, 2], [0, 1, 2, 3], [0, 1, 2, 3, 4], [0, 1, 2], [0, 1, 2, 6], [0, 1, 2, 6, 7], [0, 1, 2, 3, 4, 5, 6, 7, 8], [0, 1, 2, 3, 4, 5, 6, 7, 8, 9], [0, 1, 2, 3, 4, 5, 6, 7, 8, 9, 10]], [.light, .light, .light, .light, .light, .mem, .light, .light, .mem, .light, .light, .light]⟩ (by kernel_rfl) rfl rfl mix ?_
      have hT : runN (b - a) b xs + 2 = k := by first | (rw [List.drop_eq_nil_of_le (by omega)] at hgo; exact hgo) | (rw [drop_at hx, runN_n (by omega)] at hgo; exact hgo)
      refine dr_l (x_move rfl) ?_
      refine dr_cmp rfl rfl (wtd_none rfl) (x_eq rfl rfl) (fun h3 => ?_) (fun h3 => ?_)
      · refine dr_l (x_move rfl) ?_
        refine dr_y (x_move rfl) ?_
        refine dr_y (x_indexAddrN (1) Tryd.underlying69 sz3 rfl ha1 rfl (by omega) (by omega)) ?_
        refine dr_mem0 rfl rfl (wtd_yes rfl rfl rfl) (x_load ag3 rfl (Cells.mono hc1 Sub.autoR)) ?_
        refine dr_y (x_move rfl) ?_
        refine dr_y (x_indexAddrN (0) Tryd.underlying69 sz3 rfl ha0 rfl (by omega) (by omega)) ?_
        refine dr_mem0 rfl rfl (wtd_yes rfl rfl rfl) (x_load ag3 rfl (Cells.mono hc0 Sub.autoR)) ?_
        refine dr_y (x_sub' rfl rfl (i64w (by omega) (by omega))) ?_
        refine dr_cmp rfl rfl (wtd_yes rfl rfl rfl) (x_gt rfl rfl) (fun h4 => ?_) (fun h4 => ?_)
        · refine dr_l (x_pick_t rfl rfl rfl) ?_
          refine dr_nil0 ?_
          refine aw_kp [2, 3, 44] ?_
          refine aw_true rfl ?_
          refine aw_seq_region ?_
          refine sr_as ?_
          refine sr_nil ?_
          refine aw_kp [2, 3] ?_
          refine aw_ret ?_
          show ∃ v H2, ResV _ _ _ _ _ _ v ∧ Sub H2 _ ∧ _
          exact ⟨_, H, resV rfl (.cons rfl .nil), (by repeat (first | exact Sub.refl _ | apply Sub.drop)), ⟨congrArg (Value.int .i64) (by rw [rowK_2]; first | (rw [if_pos (by omega)]; rfl) | (rw [if_neg (by omega), hT])), rfl⟩⟩
        · refine dr_l (x_pick_t rfl rfl rfl) ?_
          refine dr_nil0 ?_
          refine aw_kp [2, 3, 44] ?_
          refine aw_false rfl ?_
          refine aw_skip ?_
          show AW _ _ _ _ _ _ _
          refine aw_seq_region ?_
          refine sr_mv ?_
          refine sr_as ?_
          refine sr_nil ?_
          refine aw_kp [2] ?_
          refine aw_ret ?_
          show ∃ v H2, ResV _ _ _ _ _ _ v ∧ Sub H2 _ ∧ _
          exact ⟨_, H, resV rfl (.cons rfl .nil), (by repeat (first | exact Sub.refl _ | apply Sub.drop)), ⟨congrArg (Value.int .i64) (by rw [rowK_2]; first | (rw [if_pos (by omega)]; rfl) | (rw [if_neg (by omega), hT])), rfl⟩⟩
      · refine dr_l (x_move rfl) ?_
        refine dr_sk ?_
        refine dr_sk ?_
        refine dr_sk ?_
        refine dr_sk ?_
        refine dr_sk ?_
        refine dr_sk ?_
        refine dr_sk ?_
        refine dr_sk ?_
        refine dr_l (x_pick_f rfl rfl rfl) ?_
        refine dr_nil0 ?_
        refine aw_kp [2, 3, 44] ?_
        refine aw_false rfl ?_
        refine aw_skip ?_
        show AW _ _ _ _ _ _ _
        refine aw_seq_region ?_
        refine sr_mv ?_
        refine sr_as ?_
        refine sr_nil ?_
        refine aw_kp [2] ?_
        refine aw_ret ?_
        show ∃ v H2, ResV _ _ _ _ _ _ v ∧ Sub H2 _ ∧ _
        exact ⟨_, H, resV rfl (.cons rfl .nil), (by repeat (first | exact Sub.refl _ | apply Sub.drop)), ⟨congrArg (Value.int .i64) (by rw [rowK_2]; first | (rw [if_pos (by omega)]; rfl) | (rw [if_neg (by omega), hT])), rfl⟩⟩
  · refine dr_l (x_move rfl) ?_
    refine dr_sk ?_
    refine dr_sk ?_
    refine dr_sk ?_
    refine dr_sk ?_
    refine dr_sk ?_
    refine dr_sk ?_
    refine dr_sk ?_
    refine dr_sk ?_
    refine dr_sk ?_
    refine dr_sk ?_
    refine dr_sk ?_
    refine dr_sk ?_
    refine dr_sk ?_
    refine dr_sk ?_
    refine dr_sk ?_
    refine dr_sk ?_
    refine dr_sk ?_
    refine dr_sk ?_
    refine dr_l (x_pick_f rfl rfl rfl) ?_
    refine dr_nil0 ?_
    refine aw_kp [0, 2, 3, 7, 8, 9, 10, 11, 12, 13, 14, 15, 16, 17, 18, 19, 20, 21, 22, 23, 24, 25, 26, 27, 28, 29, 30] ?_
    refine aw_false rfl ?_
    refine aw_exit ?_
    show AW _ _ _ _ _ _ _
    refine aw_seq ?_
    refine aw_seq_dr ⟨_, 12, 46, [[], [0], [0, 1], [0, 1, 2], [0, 1, 2, 3], [0, 1, 2, 3, 4], [0, 1, 2], [0, 1, 2, 6], [0, 1, 2, 6, 7], [0, 1, 2, 3, 4, 5, 6, 7, 8], [0, 1, 2, 3, 4, 5, 6, 7, 8, 9], [0, 1, 2, 3, 4, 5, 6, 7, 8, 9, 10]], [.light, .light, .light, .light, .light, .mem, .light, .light, .mem, .light, .light, .light]⟩ (by kernel_rfl) rfl rfl mix ?_
    have hT : runN (b - a) b xs + 2 = k := by first | (rw [List.drop_eq_nil_of_le (by omega)] at hgo; exact hgo) | (rw [drop_at hx, runN_n (by omega)] at hgo; exact hgo)
    refine dr_l (x_move rfl) ?_
    refine dr_cmp rfl rfl (wtd_none rfl) (x_eq rfl rfl) (fun h5 => ?_) (fun h5 => ?_)
    · refine dr_l (x_move rfl) ?_
      refine dr_y (x_move rfl) ?_
      refine dr_y (x_indexAddrN (1) Tryd.underlying69 sz3 rfl ha1 rfl (by omega) (by omega)) ?_
      refine dr_mem0 rfl rfl (wtd_yes rfl rfl rfl) (x_load ag3 rfl (Cells.mono hc1 Sub.autoR)) ?_
      refine dr_y (x_move rfl) ?_
      refine dr_y (x_indexAddrN (0) Tryd.underlying69 sz3 rfl ha0 rfl (by omega) (by omega)) ?_
      refine dr_mem0 rfl rfl (wtd_yes rfl rfl rfl) (x_load ag3 rfl (Cells.mono hc0 Sub.autoR)) ?_
      refine dr_y (x_sub' rfl rfl (i64w (by omega) (by omega))) ?_
      refine dr_cmp rfl rfl (wtd_yes rfl rfl rfl) (x_gt rfl rfl) (fun h6 => ?_) (fun h6 => ?_)
      · refine dr_l (x_pick_t rfl rfl rfl) ?_
        refine dr_nil0 ?_
        refine aw_kp [2, 3, 44] ?_
        refine aw_true rfl ?_
        refine aw_seq_region ?_
        refine sr_as ?_
        refine sr_nil ?_
        refine aw_kp [2, 3] ?_
        refine aw_ret ?_
        show ∃ v H2, ResV _ _ _ _ _ _ v ∧ Sub H2 _ ∧ _
        exact ⟨_, H, resV rfl (.cons rfl .nil), (by repeat (first | exact Sub.refl _ | apply Sub.drop)), ⟨congrArg (Value.int .i64) (by rw [rowK_2]; first | (rw [if_pos (by omega)]; rfl) | (rw [if_neg (by omega), hT])), rfl⟩⟩
      · refine dr_l (x_pick_t rfl rfl rfl) ?_
        refine dr_nil0 ?_
        refine aw_kp [2, 3, 44] ?_
        refine aw_false rfl ?_
        refine aw_skip ?_
        show AW _ _ _ _ _ _ _
        refine aw_seq_region ?_
        refine sr_mv ?_
        refine sr_as ?_
        refine sr_nil ?_
        refine aw_kp [2] ?_
        refine aw_ret ?_
        show ∃ v H2, ResV _ _ _ _ _ _ v ∧ Sub H2 _ ∧ _
        exact ⟨_, H, resV rfl (.cons rfl .nil), (by repeat (first | exact Sub.refl _ | apply Sub.drop)), ⟨congrArg (Value.int .i64) (by rw [rowK_2]; first | (rw [if_pos (by omega)]; rfl) | (rw [if_neg (by omega), hT])), rfl⟩⟩
    · refine dr_l (x_move rfl) ?_
      refine dr_sk ?_
      refine dr_sk ?_
      refine dr_sk ?_
      refine dr_sk ?_
      refine dr_sk ?_
      refine dr_sk ?_
      refine dr_sk ?_
      refine dr_sk ?_
      refine dr_l (x_pick_f rfl rfl rfl) ?_
      refine dr_nil0 ?_
      refine aw_kp [2, 3, 44] ?_
      refine aw_false rfl ?_
      refine aw_skip ?_
      show AW _ _ _ _ _ _ _
      refine aw_seq_region ?_
      refine sr_mv ?_
      refine sr_as ?_
      refine sr_nil ?_
      refine aw_kp [2] ?_
      refine aw_ret ?_
      show ∃ v H2, ResV _ _ _ _ _ _ v ∧ Sub H2 _ ∧ _
      exact ⟨_, H, resV rfl (.cons rfl .nil), (by repeat (first | exact Sub.refl _ | apply Sub.drop)), ⟨congrArg (Value.int .i64) (by rw [rowK_2]; first | (rw [if_pos (by omega)]; rfl) | (rw [if_neg (by omega), hT])), rfl⟩⟩
set_option maxRecDepth 100000 in
set_option maxHeartbeats 1000000 in
theorem rowLN_s (a b : Int) (xs : List Int) (sa : Option Addr) (scap : Nat) (H : SHeap) (hs : SlV W0 H 1 intC sa scap (a :: b :: xs)) (hb : ∀ x ∈ (a :: b :: xs), Rng x) (hl : (a :: b :: xs).length ≤ 1000) : AC Tryd.prog W0 48 [.slice sa (a :: b :: xs).length scap] H (fun v H' => v = .int .i64 (rowK (a :: b :: xs) : Nat) ∧ H' = H) := by
  have hle := hs.le
  have hcb := hs.capb
  obtain ⟨b0, o0, ha0, hc0⟩ := hs.at_ 0 a rfl
  obtain ⟨b1, o1, ha1, hc1⟩ := hs.at_ 1 b rfl
  have hba := hb a List.mem_cons_self
  have hbb := hb b (List.mem_cons_of_mem _ List.mem_cons_self)
  unfold Rng at hba hbb
  have hll : (a :: b :: xs).length = xs.length + 2 := rfl
  refine ac_of Tryd.func48 rfl rfl rfl ?_
  refine aw_seq_region ?_
  refine sr_as ?_
  refine sr_nil ?_
  refine aw_kp [0, 2] ?_
  refine aw_seq ?_
  refine aw_seq_region ?_
  refine sr_mv ?_
  refine sr_rd (x_lenSlice Tryd.underlying69 rfl) ?_
  refine sr_c (x_lt rfl rfl) (fun h1 => absurd h1 (by first | omega | decide)) (fun h1 => ?_)
  refine sr_nil ?_
  refine aw_kp [0, 2, 6] ?_
  refine aw_false rfl ?_
  refine aw_skip ?_
  show AW _ _ _ _ _ _ _
  refine aw_seq_region ?_
  refine sr_as ?_
  refine sr_nil ?_
  refine aw_kp [0, 2, 3] ?_
  refine aw_seq ?_
  refine aw_block ?_
  refine aw_loop (ι := Nat × Int) (fun s => 2 ≤ s.1 ∧ s.1 ≤ (a :: b :: xs).length ∧ (a :: b :: xs)[s.1 - 1]? = some s.2 ∧ runN (b - a) b xs + 2 = s.1 + runN (b - a) s.2 ((a :: b :: xs).drop s.1)) (fun s => [(0, .slice sa (a :: b :: xs).length scap), (2, .int .i64 0), (3, .int .i64 (s.1 : Nat))]) (fun _ => H) (fun s => (a :: b :: xs).length - s.1) (2, b) (⟨Nat.le_refl _, by dsimp only; omega, rfl, Nat.add_comm _ _⟩) KeepF.auto (by repeat (first | exact Sub.refl _ | apply Sub.drop)) ?_
  intro s hs9
  obtain ⟨k, p⟩ := s
  dsimp only at hs9 ⊢
  obtain ⟨hk2, hk, hp, hgo⟩ := hs9
  refine aw_seq ?_
  refine aw_seq_dr ⟨_, 24, 48, [[], [], [1], [0, 1, 2], [0, 1, 2, 3], [0, 1, 2, 3, 4], [0, 1, 2, 3, 4], [0, 1, 2, 3, 4, 5, 6], [0, 1, 2, 3, 4, 5, 6, 7], [0, 1, 2, 3, 4], [0, 1, 2, 3, 4], [0, 1, 2, 3, 4, 10], [0, 1, 2, 3, 4, 9, 10, 11], [0, 1, 2, 3, 4, 9, 10, 11, 12], [0, 1, 2, 3, 4, 5, 6, 7, 8, 9, 10, 11, 12, 13], [0, 1, 2, 3, 4], [0, 1, 2, 3, 4, 15], [0, 1, 2, 3, 4, 15, 16], [0, 1, 2, 3, 4], [0, 1, 2, 3, 4, 18], [0, 1, 2, 3, 4, 18, 19], [0, 1, 2, 3, 4, 15, 16, 17, 18, 19, 20], [0, 1, 2, 3, 4, 5, 6, 7, 8, 9, 10, 11, 12, 13, 14, 15, 16, 17, 18, 19, 20, 21], [0, 1, 2, 3, 4, 5, 6, 7, 8, 9, 10, 11, 12, 13, 14, 15, 16, 17, 18, 19, 20, 21, 22]], [.light, .light, .light, .light, .light, .light, .light, .light, .mem, .light, .light, .light, .light, .mem, .light, .light, .light, .mem, .light, .light, .mem, .light, .light, .light]⟩ (by kernel_rfl) rfl rfl mix ?_
  refine dr_l (x_move rfl) ?_
  refine dr_l (x_move rfl) ?_
  refine dr_l (x_lenSlice Tryd.underlying69 rfl) ?_
  refine dr_cmp rfl rfl (wtd_none rfl) (x_lt rfl rfl) (fun h2 => ?_) (fun h2 => ?_)
  · refine dr_l (x_move rfl) ?_
    obtain ⟨x, hx⟩ := get_ex (show k < (a :: b :: xs).length by omega)
    obtain ⟨bx, ox, hax, hcx⟩ := hs.at_ k _ hx
    obtain ⟨bp, op9, hap, hcp⟩ := hs.at_ (k - 1) _ hp
    have hbx := hb x (List.mem_of_getElem? hx)
    have hbp := hb p (List.mem_of_getElem? hp)
    unfold Rng at hbx hbp
    refine dr_y (x_move rfl) ?_
    refine dr_y (x_move rfl) ?_
    refine dr_y (x_indexAddrN (k) Tryd.underlying69 sz3 rfl hax rfl (by omega) (by omega)) ?_
    refine dr_mem0 rfl rfl (wtd_yes rfl rfl rfl) (x_load ag3 rfl (Cells.mono hcx Sub.autoR)) ?_
    refine dr_y (x_move rfl) ?_
    refine dr_y (x_move rfl) ?_
    refine dr_y (x_sub' rfl rfl (i64w (by omega) (by omega))) ?_
    refine dr_y (x_indexAddrN (k - 1) Tryd.underlying69 sz3 rfl hap rfl (by omega) (by omega)) ?_
    refine dr_mem0 rfl rfl (wtd_yes rfl rfl rfl) (x_load ag3 rfl (Cells.mono hcp Sub.autoR)) ?_
    refine dr_y (x_sub' rfl rfl (i64w (by omega) (by omega))) ?_
    refine dr_y (x_move rfl) ?_
    refine dr_y (x_indexAddrN (1) Tryd.underlying69 sz3 rfl ha1 rfl (by omega) (by omega)) ?_
    refine dr_mem0 rfl rfl (wtd_yes rfl rfl rfl) (x_load ag3 rfl (Cells.mono hc1 Sub.autoR)) ?_
    refine dr_y (x_move rfl) ?_
    refine dr_y (x_indexAddrN (0) Tryd.underlying69 sz3 rfl ha0 rfl (by omega) (by omega)) ?_
    refine dr_mem0 rfl rfl (wtd_yes rfl rfl rfl) (x_load ag3 rfl (Cells.mono hc0 Sub.autoR)) ?_
    refine dr_y (x_sub' rfl rfl (i64w (by omega) (by omega))) ?_
    refine dr_cmp rfl rfl (wtd_yes rfl rfl rfl) (x_eq rfl rfl) (fun h3 => ?_) (fun h3 => ?_)
    · refine dr_l (x_pick_t rfl rfl rfl) ?_
      refine dr_nil0 ?_
      refine aw_kp [0, 2, 3, 9, 10, 11, 12, 13, 14, 15, 16, 17, 18, 19, 20, 21, 22, 23, 24, 25, 26, 27, 28, 29, 30, 31, 32] ?_
      refine aw_true rfl ?_
      refine aw_skip ?_
      show AW _ _ _ _ _ _ _
      refine aw_block ?_
      refine aw_region ?_
      refine sr_mv ?_
      refine sr_rd (x_add' rfl rfl (i64w (by omega) (by omega))) ?_
      refine sr_as ?_
      refine sr_nil ?_
      show ∃ s', _ ∧ _ ∧ _ ∧ _
      exact ⟨(k + 1, x), ⟨by dsimp only; omega, by dsimp only; omega, by dsimp only; exact hx, by dsimp only; rw [drop_at hx, runN_y (by omega)] at hgo; omega⟩, by dsimp only; omega, KeepF.auto, (by repeat (first | exact Sub.refl _ | apply Sub.drop))⟩
    · refine dr_l (x_pick_t rfl rfl rfl) ?_
      refine dr_nil0 ?_
      refine aw_kp [0, 2, 3, 9, 10, 11, 12, 13, 14, 15, 16, 17, 18, 19, 20, 21, 22, 23, 24, 25, 26, 27, 28, 29, 30, 31, 32] ?_
      refine aw_false rfl ?_
      refine aw_exit ?_
      show AW _ _ _ _ _ _ _
      refine aw_seq ?_
      refine aw_seq_dr ⟨_, 12, 48, [[], [0], [0, 1], [0, 1, 2], [0, 1, 2, 3], [0, 1, 2, 3, 4], [0, 1, 2], [0, 1, 2, 6], [0, 1, 2, 6, 7], [0, 1, 2, 3, 4, 5, 6, 7, 8], [0, 1, 2, 3, 4, 5, 6, 7, 8, 9], [0, 1, 2, 3, 4, 5, 6, 7, 8, 9, 10]], [.light, .light, .light, .light, .light, .mem, .light, .light, .mem, .light, .light, .light]⟩ (by kernel_rfl) rfl rfl mix ?_
      have hT : runN (b - a) b xs + 2 = k := by first | (rw [List.drop_eq_nil_of_le (by omega)] at hgo; exact hgo) | (rw [drop_at hx, runN_n (by omega)] at hgo; exact hgo)
      refine dr_l (x_move rfl) ?_
      refine dr_cmp rfl rfl (wtd_none rfl) (x_eq rfl rfl) (fun h4 => ?_) (fun h4 => ?_)
      · refine dr_l (x_move rfl) ?_
        refine dr_y (x_move rfl) ?_
        refine dr_y (x_indexAddrN (1) Tryd.underlying69 sz3 rfl ha1 rfl (by omega) (by omega)) ?_
        refine dr_mem0 rfl rfl (wtd_yes rfl rfl rfl) (x_load ag3 rfl (Cells.mono hc1 Sub.autoR)) ?_
        refine dr_y (x_move rfl) ?_
        refine dr_y (x_indexAddrN (0) Tryd.underlying69 sz3 rfl ha0 rfl (by omega) (by omega)) ?_
        refine dr_mem0 rfl rfl (wtd_yes rfl rfl rfl) (x_load ag3 rfl (Cells.mono hc0 Sub.autoR)) ?_
        refine dr_y (x_sub' rfl rfl (i64w (by omega) (by omega))) ?_
        refine dr_cmp rfl rfl (wtd_yes rfl rfl rfl) (x_gt rfl rfl) (fun h5 => ?_) (fun h5 => ?_)
        · refine dr_l (x_pick_t rfl rfl rfl) ?_
          refine dr_nil0 ?_
          refine aw_kp [2, 3, 46] ?_
          refine aw_true rfl ?_
          refine aw_seq_region ?_
          refine sr_as ?_
          refine sr_nil ?_
          refine aw_kp [2, 3] ?_
          refine aw_ret ?_
          show ∃ v H2, ResV _ _ _ _ _ _ v ∧ Sub H2 _ ∧ _
          exact ⟨_, H, resV rfl (.cons rfl .nil), (by repeat (first | exact Sub.refl _ | apply Sub.drop)), ⟨congrArg (Value.int .i64) (by rw [rowK_2]; first | (rw [if_pos (by omega)]; rfl) | (rw [if_neg (by omega), hT])), rfl⟩⟩
        · refine dr_l (x_pick_t rfl rfl rfl) ?_
          refine dr_nil0 ?_
          refine aw_kp [2, 3, 46] ?_
          refine aw_false rfl ?_
          refine aw_skip ?_
          show AW _ _ _ _ _ _ _
          refine aw_seq_region ?_
          refine sr_mv ?_
          refine sr_as ?_
          refine sr_nil ?_
          refine aw_kp [2] ?_
          refine aw_ret ?_
          show ∃ v H2, ResV _ _ _ _ _ _ v ∧ Sub H2 _ ∧ _
          exact ⟨_, H, resV rfl (.cons rfl .nil), (by repeat (first | exact Sub.refl _ | apply Sub.drop)), ⟨congrArg (Value.int .i64) (by rw [rowK_2]; first | (rw [if_pos (by omega)]; rfl) | (rw [if_neg (by omega), hT])), rfl⟩⟩
      · refine dr_l (x_move rfl) ?_
        refine dr_sk ?_
        refine dr_sk ?_
        refine dr_sk ?_
        refine dr_sk ?_
        refine dr_sk ?_
        refine dr_sk ?_
        refine dr_sk ?_
        refine dr_sk ?_
        refine dr_l (x_pick_f rfl rfl rfl) ?_
        refine dr_nil0 ?_
        refine aw_kp [2, 3, 46] ?_
        refine aw_false rfl ?_
        refine aw_skip ?_
        show AW _ _ _ _ _ _ _
        refine aw_seq_region ?_
        refine sr_mv ?_
        refine sr_as ?_
        refine sr_nil ?_
        refine aw_kp [2] ?_
        refine aw_ret ?_
        show ∃ v H2, ResV _ _ _ _ _ _ v ∧ Sub H2 _ ∧ _
        exact ⟨_, H, resV rfl (.cons rfl .nil), (by repeat (first | exact Sub.refl _ | apply Sub.drop)), ⟨congrArg (Value.int .i64) (by rw [rowK_2]; first | (rw [if_pos (by omega)]; rfl) | (rw [if_neg (by omega), hT])), rfl⟩⟩
  · refine dr_l (x_move rfl) ?_
    refine dr_sk ?_
    refine dr_sk ?_
    refine dr_sk ?_
    refine dr_sk ?_
    refine dr_sk ?_
    refine dr_sk ?_
    refine dr_sk ?_
    refine dr_sk ?_
    refine dr_sk ?_
    refine dr_sk ?_
    refine dr_sk ?_
    refine dr_sk ?_
    refine dr_sk ?_
    refine dr_sk ?_
    refine dr_sk ?_
    refine dr_sk ?_
    refine dr_sk ?_
    refine dr_sk ?_
    refine dr_l (x_pick_f rfl rfl rfl) ?_
    refine dr_nil0 ?_
    refine aw_kp [0, 2, 3, 9, 10, 11, 12, 13, 14, 15, 16, 17, 18, 19, 20, 21, 22, 23, 24, 25, 26, 27, 28, 29, 30, 31, 32] ?_
    refine aw_false rfl ?_
    refine aw_exit ?_
    show AW _ _ _ _ _ _ _
    refine aw_seq ?_
    refine aw_seq_dr ⟨_, 12, 48, [[], [0], [0, 1], [0, 1, 2], [0, 1, 2, 3], [0, 1, 2, 3, 4], [0, 1, 2], [0, 1, 2, 6], [0, 1, 2, 6, 7], [0, 1, 2, 3, 4, 5, 6, 7, 8], [0, 1, 2, 3, 4, 5, 6, 7, 8, 9], [0, 1, 2, 3, 4, 5, 6, 7, 8, 9, 10]], [.light, .light, .light, .light, .light, .mem, .light, .light, .mem, .light, .light, .light]⟩ (by kernel_rfl) rfl rfl mix ?_
    have hT : runN (b - a) b xs + 2 = k := by first | (rw [List.drop_eq_nil_of_le (by omega)] at hgo; exact hgo) | (rw [drop_at hx, runN_n (by omega)] at hgo; exact hgo)
    refine dr_l (x_move rfl) ?_
    refine dr_cmp rfl rfl (wtd_none rfl) (x_eq rfl rfl) (fun h6 => ?_) (fun h6 => ?_)
    · refine dr_l (x_move rfl) ?_
      refine dr_y (x_move rfl) ?_
      refine dr_y (x_indexAddrN (1) Tryd.underlying69 sz3 rfl ha1 rfl (by omega) (by omega)) ?_
      refine dr_mem0 rfl rfl (wtd_yes rfl rfl rfl) (x_load ag3 rfl (Cells.mono hc1 Sub.autoR)) ?_
      refine dr_y (x_move rfl) ?_
      refine dr_y (x_indexAddrN (0) Tryd.underlying69 sz3 rfl ha0 rfl (by omega) (by omega)) ?_
      refine dr_mem0 rfl rfl (wtd_yes rfl rfl rfl) (x_load ag3 rfl (Cells.mono hc0 Sub.autoR)) ?_
      refine dr_y (x_sub' rfl rfl (i64w (by omega) (by omega))) ?_
      refine dr_cmp rfl rfl (wtd_yes rfl rfl rfl) (x_gt rfl rfl) (fun h7 => ?_) (fun h7 => ?_)
      · refine dr_l (x_pick_t rfl rfl rfl) ?_
        refine dr_nil0 ?_
        refine aw_kp [2, 3, 46] ?_
        refine aw_true rfl ?_
        refine aw_seq_region ?_
        refine sr_as ?_
        refine sr_nil ?_
        refine aw_kp [2, 3] ?_
        refine aw_ret ?_
        show ∃ v H2, ResV _ _ _ _ _ _ v ∧ Sub H2 _ ∧ _
        exact ⟨_, H, resV rfl (.cons rfl .nil), (by repeat (first | exact Sub.refl _ | apply Sub.drop)), ⟨congrArg (Value.int .i64) (by rw [rowK_2]; first | (rw [if_pos (by omega)]; rfl) | (rw [if_neg (by omega), hT])), rfl⟩⟩
      · refine dr_l (x_pick_t rfl rfl rfl) ?_
        refine dr_nil0 ?_
        refine aw_kp [2, 3, 46] ?_
        refine aw_false rfl ?_
        refine aw_skip ?_
        show AW _ _ _ _ _ _ _
        refine aw_seq_region ?_
        refine sr_mv ?_
        refine sr_as ?_
        refine sr_nil ?_
        refine aw_kp [2] ?_
        refine aw_ret ?_
        show ∃ v H2, ResV _ _ _ _ _ _ v ∧ Sub H2 _ ∧ _
        exact ⟨_, H, resV rfl (.cons rfl .nil), (by repeat (first | exact Sub.refl _ | apply Sub.drop)), ⟨congrArg (Value.int .i64) (by rw [rowK_2]; first | (rw [if_pos (by omega)]; rfl) | (rw [if_neg (by omega), hT])), rfl⟩⟩
    · refine dr_l (x_move rfl) ?_
      refine dr_sk ?_
      refine dr_sk ?_
      refine dr_sk ?_
      refine dr_sk ?_
      refine dr_sk ?_
      refine dr_sk ?_
      refine dr_sk ?_
      refine dr_sk ?_
      refine dr_l (x_pick_f rfl rfl rfl) ?_
      refine dr_nil0 ?_
      refine aw_kp [2, 3, 46] ?_
      refine aw_false rfl ?_
      refine aw_skip ?_
      show AW _ _ _ _ _ _ _
      refine aw_seq_region ?_
      refine sr_mv ?_
      refine sr_as ?_
      refine sr_nil ?_
      refine aw_kp [2] ?_
      refine aw_ret ?_
      show ∃ v H2, ResV _ _ _ _ _ _ v ∧ Sub H2 _ ∧ _
      exact ⟨_, H, resV rfl (.cons rfl .nil), (by repeat (first | exact Sub.refl _ | apply Sub.drop)), ⟨congrArg (Value.int .i64) (by rw [rowK_2]; first | (rw [if_pos (by omega)]; rfl) | (rw [if_neg (by omega), hT])), rfl⟩⟩
theorem rowP_s (ys : List Int) (sa : Option Addr) (scap : Nat) (H : SHeap) (hs : SlV W0 H 1 intC sa scap ys) (hne : ys ≠ []) (hb : ∀ x ∈ ys, Rng x) (hl : ys.length ≤ 1000) : AC Tryd.prog W0 71 [.slice sa ys.length scap] H (fun v H' => v = .int .i64 (rowK ys : Nat) ∧ H' = H) := by
  match ys, hs, hne, hb, hl with
  | [_], _, _, _, _ => exact rowP1_s sa scap H
  | a :: b :: xs, hs, _, hb, hl => exact rowPN_s a b xs sa scap H hs hb hl
theorem rowL_s (ys : List Int) (sa : Option Addr) (scap : Nat) (H : SHeap) (hs : SlV W0 H 1 intC sa scap ys) (hne : ys ≠ []) (hb : ∀ x ∈ ys, Rng x) (hl : ys.length ≤ 1000) : AC Tryd.prog W0 48 [.slice sa ys.length scap] H (fun v H' => v = .int .i64 (rowK ys : Nat) ∧ H' = H) := by
  match ys, hs, hne, hb, hl with
  | [_], _, _, _, _ => exact rowL1_s sa scap H
  | a :: b :: xs, hs, _, hb, hl => exact rowLN_s a b xs sa scap H hs hb hl
set_option maxRecDepth 100000 in
set_option maxHeartbeats 2000000 in
theorem fold_s (sa : Option Addr) (scap : Nat) (l : List Int) (H : SHeap) (hs : SlV W0 H 1 intC sa scap l) (hb : ∀ x ∈ l, Rng x) (hl : l.length ≤ 60) : AC Tryd.prog W0 46 [.slice sa l.length scap] H (fun v H' => ∃ Z, Tms l Z ∧ ∃ a cap E, v = .slice a (foldP Z).length cap ∧ OwnVec 3 67 (.slice a (foldP Z).length cap) (foldP Z).length ((foldP Z).flatMap Part.cells) E ∧ H' = E ++ H) := by
  refine ac_of Tryd.func46 rfl rfl rfl ?_
  refine aw_seq_region ?_
  refine sr_as ?_
  refine sr_nil ?_
  refine aw_kp [0, 2] ?_
  refine aw_seq_region ?_
  refine sr_mv ?_
  refine sr_d rfl (wtd_none rfl) rfl (opS_call rfl rfl rfl rfl cl70 (iclone_s sa scap l _ (hs.mono Sub.autoR) (by omega))) ?_
  rintro _ _ ⟨E2, ⟨a2, cap2, V2, rfl⟩, rfl⟩
  refine sr_as ?_
  refine sr_nil ?_
  refine aw_kp [0, 2] ?_
  refine aw_seq_region ?_
  refine sr_mv ?_
  refine sr_d rfl (wtd_none rfl) rfl (opS_call rfl rfl rfl rfl cl67 (mV_s a2 cap2 l.length l E2 H V2 rfl (by omega))) ?_
  rintro _ _ ⟨W9, E9, ⟨hp9, hs9⟩, rfl, V9, rfl⟩
  refine sr_nil ?_
  refine aw_kp [0, 2] ?_
  refine aw_seq_region ?_
  refine sr_mv ?_
  refine sr_d rfl (wtd_none rfl) rfl (opS_call rfl rfl rfl rfl cl68 (mCpt_s a2 l.length cap2 W9 E9 H V9.off hp9.length_eq (by omega))) ?_
  rintro _ _ ⟨k2, E3, rfl, rfl, V3, rfl⟩
  have hT := srt_tms0 hp9 (sri_pw hs9 hp9.length_eq)
  have hTl := hT.len
  generalize cpt eqI W9 = Z at V3 hT hTl ⊢
  have hZb : ∀ x ∈ Z, Rng x := fun x hx => hb x ((hT.2 x).1 hx)
  have hV3 := V3.slv' (W0 := W0) (xs := Z) (fun _ => rfl) rfl (Sub.refl _)
  refine sr_as ?_
  refine sr_nil ?_
  refine aw_kp [0, 2] ?_
  refine aw_seq_region ?_
  refine sr_as ?_
  refine sr_nil ?_
  refine aw_kp [0, 2, 3] ?_
  refine aw_seq ?_
  refine aw_block ?_
  refine aw_loop (ι := FoG) (fun s => s.m ≤ Z.length ∧ SlV W0 E3 1 intC s.a s.cap (Z.drop s.m) ∧ foldP Z = s.acc ++ foldP (Z.drop s.m) ∧ OwnVec 3 67 s.sl s.acc.length ((s.acc).flatMap Part.cells) s.E) (fun s => [(0, .slice s.a (Z.drop s.m).length s.cap), (2, .slice none 0 0), (3, s.sl)]) (fun s => s.E ++ (E3 ++ H)) (fun s => Z.length - s.m) ⟨0, a2, cap2, [], .slice none 0 0, []⟩ (⟨Nat.zero_le _, hV3, rfl, .nil⟩) KeepF.auto Sub.autoP ?_
  intro s hs9
  obtain ⟨m, a, cap, acc, sl, E⟩ := s
  dsimp only at hs9 ⊢
  obtain ⟨hm, hR, hgo, V⟩ := hs9
  obtain ⟨a1, c1, rfl⟩ := V.isSl
  have hal := congrArg List.length hgo
  rw [List.length_append] at hal
  have hfl := fold_len Z.length Z (Nat.le_refl _)
  refine aw_seq ?_
  refine aw_seq_region ?_
  refine sr_mv ?_
  refine sr_rd (x_lenSlice Tryd.underlying69 rfl) ?_
  refine sr_c (x_gt rfl rfl) (fun h1 => ?_) (fun h1 => ?_)
  · refine sr_nil ?_
    refine aw_kp [0, 2, 3, 12, 13, 14] ?_
    refine aw_true rfl ?_
    refine aw_skip ?_
    show AW _ _ _ _ _ _ _
    refine aw_block ?_
    refine aw_seq_region ?_
    obtain ⟨Y, hY⟩ : ∃ Y, Y = Z.drop m := ⟨_, rfl⟩
    have hYl : Y.length = Z.length - m := by rw [hY, List.length_drop]
    rw [← hY] at hR hgo ⊢
    have hne : Y ≠ [] := fun q => by have := congrArg List.length (hY.symm.trans q); rw [List.length_nil] at this; omega
    have hYb : ∀ x ∈ Y, Rng x := fun x hx => hZb x (List.mem_of_mem_drop (hY ▸ hx))
    obtain ⟨hk1, hk2⟩ := rowK_bd hne
    have hYd : Z.drop (m + rowK Y) = Y.drop (rowK Y) := by rw [hY, List.drop_drop]
    have hYdl : (Z.drop (m + rowK Y)).length = Y.length - rowK Y := by rw [hYd, List.length_drop]
    have hy0 := getD_get (l := Y) (show 0 < Y.length by omega)
    have hyz := getD_get (l := Y) (show rowK Y - 1 < Y.length by omega)
    have g0 := hYb _ (List.mem_of_getElem? hy0)
    unfold Rng at g0
    obtain ⟨b0, o0, rfl, hc0⟩ := hR.at_ 0 _ hy0
    obtain ⟨bz, oz, haz, hcz⟩ := hR.at_ _ _ hyz
    have hRle := hR.le
    have hRcb := hR.capb
    refine sr_mv ?_
    refine sr_d rfl (wtd_none rfl) rfl (opS_call rfl rfl rfl rfl cl71 (rowP_s Y (some ⟨b0, o0, none⟩) cap _ (hR.mono Sub.autoE) hne hYb (by omega))) ?_
    rintro _ _ ⟨rfl, rfl⟩
    refine sr_as ?_
    refine sr_nil ?_
    refine aw_kp [0, 2, 3, 4, 12, 13, 14, 15, 16] ?_
    refine aw_seq_dr ⟨_, 11, 48, [[], [0], [0, 1], [], [], [4], [3, 4, 5], [3, 4, 5, 6], [0, 1, 2, 3, 4, 5, 6, 7], [], [0, 1, 2, 3, 4, 5, 6, 7, 8, 9]], [.light, .light, .mem, .light, .light, .light, .light, .mem, .light, .alloc, .eff]⟩ (by kernel_rfl) rfl rfl mix ?_
    refine dr_l (x_move rfl) ?_
    refine dr_l (x_indexAddrN (0) Tryd.underlying69 sz3 rfl rfl rfl (by omega) (by omega)) ?_
    refine dr_mem0 rfl rfl (wtd_none rfl) (x_load ag3 rfl (Cells.mono hc0 Sub.autoE)) ?_
    refine dr_l (x_move rfl) ?_
    refine dr_l (x_move rfl) ?_
    refine dr_l (x_sub' rfl rfl (i64w (by omega) (by omega))) ?_
    refine dr_l (x_indexAddrN (rowK Y - 1) Tryd.underlying69 sz3 rfl haz rfl (by omega) (by omega)) ?_
    refine dr_mem0 rfl rfl (wtd_none rfl) (x_load ag3 rfl (Cells.mono hcz Sub.autoE)) ?_
    refine dr_l (x_build zr67 rfl fl67 Parts.auto Fill.auto) ?_
    refine dr_alloc rfl rfl (wtd_none rfl) (x_alloc zr67 rfl) ?_
    intro r7_9 hr7_9 gr7_9
    refine dr_store rfl (V := [(r7_9, _)]) rfl (clear_all rfl) rfl (wtd_none rfl) (x_store sz67 rfl rfl rfl rfl rfl Repl.auto Spl.auto) (by first | rfl | simp [keys_append, keys_cons]) ?_
    refine dr_nil0 ?_
    refine aw_kp [0, 2, 3, 4, 5, 12, 13, 14, 15, 16, 17, 18, 19, 20, 21, 22, 23, 24, 25] ?_
    refine aw_seq ?_
    refine aw_seq_region ?_
    refine sr_mv ?_
    refine sr_c (x_gt rfl rfl) (fun h2 => ?_) (fun h2 => ?_)
    · refine sr_nil ?_
      refine aw_kp [0, 2, 3, 4, 5, 12, 13, 14, 15, 16, 17, 18, 19, 20, 21, 22, 23, 24, 25, 26, 27] ?_
      refine aw_true rfl ?_
      refine aw_dr ⟨_, 9, 48, [[], [0], [0, 1], [], [3], [3, 4], [0, 1, 2, 3, 4, 5], [0, 1, 2, 3, 4, 5, 6], [0, 1, 2, 3, 4, 5, 6, 7]], [.light, .light, .mem, .light, .light, .mem, .light, .light, .eff]⟩ (by kernel_rfl) rfl rfl mix ?_
      have hy1 := getD_get (l := Y) (show 1 < Y.length by omega)
      have g1 := hYb _ (List.mem_of_getElem? hy1)
      unfold Rng at g1
      obtain ⟨b1, o1, ha1, hc1⟩ := hR.at_ 1 _ hy1
      refine dr_l (x_move rfl) ?_
      refine dr_l (x_indexAddrN (1) Tryd.underlying69 sz3 rfl ha1 rfl (by omega) (by omega)) ?_
      refine dr_mem0 rfl rfl (wtd_none rfl) (x_load ag3 rfl (Cells.mono hc1 Sub.autoE)) ?_
      refine dr_l (x_move rfl) ?_
      refine dr_l (x_indexAddrN (0) Tryd.underlying69 sz3 rfl rfl rfl (by omega) (by omega)) ?_
      refine dr_mem0 rfl rfl (wtd_none rfl) (x_load ag3 rfl (Cells.mono hc0 Sub.autoE)) ?_
      refine dr_l (x_sub' rfl rfl (i64w (by omega) (by omega))) ?_
      refine dr_l (x_fieldAddr fd67_2 rfl) ?_
      refine dr_store0 rfl rfl (wtd_none rfl) (x_store sz3 rfl rfl rfl rfl rfl Repl.auto Spl.auto) (by first | rfl | simp [keys_append, keys_cons]) ?_
      refine dr_nil0 ?_
      show AW _ _ _ _ _ _ _
      refine aw_dr ⟨_, 13, 48, [[], [], [1], [0, 1, 2], [], [], [], [6], [], [8], [4, 5, 6, 7, 8, 9], [0, 1, 2, 3], [0, 1, 2, 3, 4, 5, 6, 7, 8, 9, 10, 11]], [.light, .mem, .alloc, .eff, .light, .light, .light, .light, .light, .light, .light, .light, .light]⟩ (by kernel_rfl) rfl rfl mix ?_
      refine dr_l (x_move rfl) ?_
      refine dr_mem0 rfl rfl (wtd_none rfl) (x_loadN ag67 sz67 rfl (cells_ext mauto Ext.auto) rfl) ?_
      refine dr_alloc rfl rfl (wtd_none rfl) (x_buildSlice Tryd.underlying62 sz67 zr67 rfl rfl rfl rfl Parts.auto Fill.auto) ?_
      intro r10_2 hr10_2 gr10_2
      refine dr_eff rfl (V := [(r10_2, _)]) rfl (L' := []) (clear_all rfl) rfl (wtd_none rfl) (opSF_append (G := (r7_9, .cells ([.int .i64 (Y.getD 0 0), .int .i64 (Y.getD (rowK Y - 1) 0), .int .i64 (Y.getD 1 0 - Y.getD 0 0)] : List Value).toArray 67 (0, 0)) :: (E3 ++ H)) (N := [.int .i64 (Y.getD 0 0), .int .i64 (Y.getD (rowK Y - 1) 0), .int .i64 (Y.getD 1 0 - Y.getD 0 0)]) (m := 1) Tryd.underlying62 sz67 zr67 rfl by67 rfl rfl V Sub.autoP (.inr ⟨_, _, rfl, (cells_ext mauto Ext.auto)⟩) (rfl) rfl (by omega) (by omega)) (append_fresh (G := (r7_9, .cells ([.int .i64 (Y.getD 0 0), .int .i64 (Y.getD (rowK Y - 1) 0), .int .i64 (Y.getD 1 0 - Y.getD 0 0)] : List Value).toArray 67 (0, 0)) :: (E3 ++ H)) (N := [.int .i64 (Y.getD 0 0), .int .i64 (Y.getD (rowK Y - 1) 0), .int .i64 (Y.getD 1 0 - Y.getD 0 0)]) (m := 1) V (rfl) (by omega) Sub.autoP) ?_
      rintro v39 _ ⟨E39, hV39, rfl⟩
      rw [show ([.int .i64 (Y.getD 0 0), .int .i64 (Y.getD (rowK Y - 1) 0), .int .i64 (Y.getD 1 0 - Y.getD 0 0)] : List Value) = (fpart Y).cells from by unfold fpart stepK; rw [if_pos (by omega)]] at hV39
      obtain ⟨a39, cap39, rfl⟩ := hV39.isSl
      refine dr_l (x_move rfl) ?_
      refine dr_l (x_move rfl) ?_
      refine dr_l (x_move rfl) ?_
      refine dr_l (x_lenSlice Tryd.underlying69 rfl) ?_
      refine dr_l (x_move rfl) ?_
      refine dr_l (x_lenSlice Tryd.underlying69 rfl) ?_
      refine dr_l (x_slice3K Tryd.underlying69 sz3 rfl rfl rfl rfl hk2 hRle hYdl) ?_
      refine dr_l (x_assign rfl) ?_
      refine dr_l (x_assign rfl) ?_
      refine dr_nil0 ?_
      show ∃ s', _ ∧ _ ∧ _ ∧ _
      exact ⟨⟨m + rowK Y, some ⟨b0, if Y.length = rowK Y then o0 else o0 + rowK Y * 1, none⟩, Y.length - rowK Y, acc ++ [fpart Y], .slice a39 (acc.length + 1) cap39, E39⟩, ⟨by dsimp only; omega, (by dsimp only; rw [hYd]; exact slv_cutk hR (Nat.le_refl _) (by omega) (fun h => if_neg (by omega))), (by dsimp only; rw [hgo, foldP_cons hne, hYd]; simp), (by dsimp only; have h9 := hV39.snocS; rw [List.length_append] at h9 ⊢; exact h9)⟩, by dsimp only; omega, KeepF.auto, Sub.autoP⟩
    · refine sr_nil ?_
      refine aw_kp [0, 2, 3, 4, 5, 12, 13, 14, 15, 16, 17, 18, 19, 20, 21, 22, 23, 24, 25, 26, 27] ?_
      refine aw_false rfl ?_
      refine aw_skip ?_
      show AW _ _ _ _ _ _ _
      refine aw_dr ⟨_, 13, 48, [[], [], [1], [0, 1, 2], [], [], [], [6], [], [8], [4, 5, 6, 7, 8, 9], [0, 1, 2, 3], [0, 1, 2, 3, 4, 5, 6, 7, 8, 9, 10, 11]], [.light, .mem, .alloc, .eff, .light, .light, .light, .light, .light, .light, .light, .light, .light]⟩ (by kernel_rfl) rfl rfl mix ?_
      refine dr_l (x_move rfl) ?_
      refine dr_mem0 rfl rfl (wtd_none rfl) (x_loadN ag67 sz67 rfl (cells_ext mauto Ext.auto) rfl) ?_
      refine dr_alloc rfl rfl (wtd_none rfl) (x_buildSlice Tryd.underlying62 sz67 zr67 rfl rfl rfl rfl Parts.auto Fill.auto) ?_
      intro r10_2 hr10_2 gr10_2
      refine dr_eff rfl (V := [(r10_2, _)]) rfl (L' := []) (clear_all rfl) rfl (wtd_none rfl) (opSF_append (G := (r7_9, .cells ([.int .i64 (Y.getD 0 0), .int .i64 (Y.getD (rowK Y - 1) 0), .int .i64 1] : List Value).toArray 67 (0, 0)) :: (E3 ++ H)) (N := [.int .i64 (Y.getD 0 0), .int .i64 (Y.getD (rowK Y - 1) 0), .int .i64 1]) (m := 1) Tryd.underlying62 sz67 zr67 rfl by67 rfl rfl V Sub.autoP (.inr ⟨_, _, rfl, (cells_ext mauto Ext.auto)⟩) (rfl) rfl (by omega) (by omega)) (append_fresh (G := (r7_9, .cells ([.int .i64 (Y.getD 0 0), .int .i64 (Y.getD (rowK Y - 1) 0), .int .i64 1] : List Value).toArray 67 (0, 0)) :: (E3 ++ H)) (N := [.int .i64 (Y.getD 0 0), .int .i64 (Y.getD (rowK Y - 1) 0), .int .i64 1]) (m := 1) V (rfl) (by omega) Sub.autoP) ?_
      rintro v39 _ ⟨E39, hV39, rfl⟩
      rw [show ([.int .i64 (Y.getD 0 0), .int .i64 (Y.getD (rowK Y - 1) 0), .int .i64 1] : List Value) = (fpart Y).cells from by unfold fpart stepK; rw [if_neg (by omega)]] at hV39
      obtain ⟨a39, cap39, rfl⟩ := hV39.isSl
      refine dr_l (x_move rfl) ?_
      refine dr_l (x_move rfl) ?_
      refine dr_l (x_move rfl) ?_
      refine dr_l (x_lenSlice Tryd.underlying69 rfl) ?_
      refine dr_l (x_move rfl) ?_
      refine dr_l (x_lenSlice Tryd.underlying69 rfl) ?_
      refine dr_l (x_slice3K Tryd.underlying69 sz3 rfl rfl rfl rfl hk2 hRle hYdl) ?_
      refine dr_l (x_assign rfl) ?_
      refine dr_l (x_assign rfl) ?_
      refine dr_nil0 ?_
      show ∃ s', _ ∧ _ ∧ _ ∧ _
      exact ⟨⟨m + rowK Y, some ⟨b0, if Y.length = rowK Y then o0 else o0 + rowK Y * 1, none⟩, Y.length - rowK Y, acc ++ [fpart Y], .slice a39 (acc.length + 1) cap39, E39⟩, ⟨by dsimp only; omega, (by dsimp only; rw [hYd]; exact slv_cutk hR (Nat.le_refl _) (by omega) (fun h => if_neg (by omega))), (by dsimp only; rw [hgo, foldP_cons hne, hYd]; simp), (by dsimp only; have h9 := hV39.snocS; rw [List.length_append] at h9 ⊢; exact h9)⟩, by dsimp only; omega, KeepF.auto, Sub.autoP⟩
  · refine sr_nil ?_
    refine aw_kp [0, 2, 3, 12, 13, 14] ?_
    refine aw_false rfl ?_
    refine aw_exit ?_
    show AW _ _ _ _ _ _ _
    refine aw_seq_region ?_
    have hz : Z.drop m = [] := List.length_eq_zero_iff.1 (by omega)
    rw [hz, foldP_nil, List.append_nil] at hgo
    subst hgo
    refine sr_mv ?_
    refine sr_as ?_
    refine sr_nil ?_
    refine aw_kp [2] ?_
    refine aw_ret ?_
    show ∃ v H2, ResV _ _ _ _ _ _ v ∧ Sub H2 _ ∧ _
    exact ⟨_, E ++ H, resV rfl (.cons rfl .nil), Sub.autoP, Z, hT, a1, c1, E, rfl, V, rfl⟩
set_option maxRecDepth 100000 in
set_option maxHeartbeats 2000000 in
theorem sorted_s (sa : Option Addr) (scap : Nat) (l Z : List Int) (hT : Tms l Z) (H : SHeap) (hs : SlV W0 H 1 intC sa scap l) (hl : l.length ≤ 60) : AC Tryd.prog W0 47 [.slice sa l.length scap] H (fun v H' => ∃ a cap E, v = .slice a Z.length cap ∧ OwnVec 1 3 (.slice a Z.length cap) Z.length ((Z).flatMap intC) E ∧ H' = E ++ H) := by
  have hle := hs.le
  have hcb := hs.capb
  refine ac_of Tryd.func47 rfl rfl rfl ?_
  refine aw_seq_region ?_
  refine sr_as ?_
  refine sr_nil ?_
  refine aw_kp [0, 2] ?_
  refine aw_seq_region ?_
  refine sr_as ?_
  refine sr_nil ?_
  refine aw_kp [0, 2, 3] ?_
  refine aw_seq ?_
  refine aw_seq_region ?_
  refine sr_as ?_
  refine sr_nil ?_
  refine aw_kp [0, 2, 3, 4] ?_
  refine aw_block ?_
  refine aw_loop (ι := SoG) (fun s => s.k ≤ l.length ∧ OwnVec 1 3 s.sl (Z.take s.k).length ((Z.take s.k).flatMap intC) s.E) (fun s => [(0, .slice sa l.length scap), (2, .slice none 0 0), (3, s.sl), (4, .int .i64 (s.k : Nat))]) (fun s => s.E ++ H) (fun s => l.length - s.k) ⟨0, .slice none 0 0, []⟩ (⟨Nat.zero_le _, .nil⟩) KeepF.auto Sub.autoP ?_
  intro s hs9
  obtain ⟨k, sl, E⟩ := s
  dsimp only at hs9 ⊢
  obtain ⟨hk, V⟩ := hs9
  obtain ⟨a1, c1, rfl⟩ := V.isSl
  have hsE := V.slv' (W0 := W0) (xs := Z.take k) (fun _ => rfl) rfl (Sub.refl _)
  have hleE := hsE.le
  have hcbE := hsE.capb
  have hTk : (Z.take k).length ≤ 60 := by rw [List.length_take]; omega
  refine aw_seq ?_
  refine aw_seq_region ?_
  refine sr_mv ?_
  refine sr_mv ?_
  refine sr_rd (x_lenSlice Tryd.underlying69 rfl) ?_
  refine sr_c (x_lt rfl rfl) (fun h1 => ?_) (fun h1 => ?_)
  · refine sr_nil ?_
    refine aw_kp [0, 2, 3, 4, 8, 9, 10, 11] ?_
    refine aw_true rfl ?_
    refine aw_skip ?_
    show AW _ _ _ _ _ _ _
    refine aw_seq ?_
    refine aw_block ?_
    refine aw_seq_region ?_
    refine sr_as ?_
    refine sr_nil ?_
    refine aw_kp [0, 2, 3, 4, 5, 8, 9, 10, 11] ?_
    refine aw_seq_region ?_
    refine sr_as ?_
    refine sr_nil ?_
    refine aw_kp [0, 2, 3, 4, 5, 6, 8, 9, 10, 11] ?_
    refine aw_seq ?_
    refine aw_seq_region ?_
    refine sr_as ?_
    refine sr_nil ?_
    refine aw_kp [0, 2, 3, 4, 5, 6, 7, 8, 9, 10, 11] ?_
    refine aw_block ?_
    refine aw_loop (ι := Nat × Int × Bool) (fun t => t.1 ≤ l.length ∧ InnS l Z k t.1 t.2.1 t.2.2) (fun t => [(0, .slice sa l.length scap), (2, .slice none 0 0), (3, .slice a1 (Z.take k).length c1), (4, .int .i64 (k : Nat)), (5, .int .i64 t.2.1), (6, .bool t.2.2), (7, .int .i64 (t.1 : Nat))]) (fun _ => E ++ H) (fun t => l.length - t.1) (0, 0, false) (⟨Nat.zero_le _, inn_0⟩) KeepF.auto Sub.autoP ?_
    intro t ht9
    obtain ⟨i, best, b⟩ := t
    dsimp only at ht9 ⊢
    obtain ⟨hi, hin⟩ := ht9
    refine aw_seq ?_
    refine aw_seq_region ?_
    refine sr_mv ?_
    refine sr_mv ?_
    refine sr_rd (x_lenSlice Tryd.underlying69 rfl) ?_
    refine sr_c (x_lt rfl rfl) (fun h2 => ?_) (fun h2 => ?_)
    · refine sr_nil ?_
      refine aw_kp [0, 2, 3, 4, 5, 6, 7, 14, 15, 16, 17] ?_
      refine aw_true rfl ?_
      refine aw_skip ?_
      show AW _ _ _ _ _ _ _
      refine aw_seq ?_
      refine aw_block ?_
      refine aw_seq_dr ⟨_, 28, 58, [[], [0], [0, 1], [0, 1, 2], [0, 1, 2, 3], [0, 1, 2, 3], [0, 1, 2, 3, 4, 5], [0, 1, 2, 3, 4, 5, 6], [0, 1, 2, 3], [0, 1, 2, 3], [0, 1, 2, 3, 9], [0, 1, 2, 3, 9, 10], [0, 1, 2, 3, 8, 9, 10, 11], [0, 1, 2, 3, 8, 9, 10, 11, 12], [0, 1, 2, 3, 4, 5, 6, 7, 8, 9, 10, 11, 12, 13], [0, 1, 2, 3, 4, 5, 6, 7, 8, 9, 10, 11, 12, 13, 14], [0, 1, 2, 3, 4, 5, 6, 7, 8, 9, 10, 11, 12, 13, 14, 15], [0, 1, 2, 3, 4, 5, 6, 7, 8, 9, 10, 11, 12, 13, 14, 15, 16], [0, 1, 2, 3, 4, 5, 6, 7, 8, 9, 10, 11, 12, 13, 14, 15, 16, 17], [0, 1, 2, 3, 4, 5, 6, 7, 8, 9, 10, 11, 12, 13, 14, 15, 16, 17, 18], [0, 1, 2, 3, 4, 5, 6, 7, 8, 9, 10, 11, 12, 13, 14, 15, 16, 17, 18, 19], [0, 1, 2, 3, 4, 5, 6, 7, 8, 9, 10, 11, 12, 13, 14, 15, 16, 17, 18, 19], [0, 1, 2, 3, 4, 5, 6, 7, 8, 9, 10, 11, 12, 13, 14, 15, 16, 17, 18, 19, 20, 21], [0, 1, 2, 3, 4, 5, 6, 7, 8, 9, 10, 11, 12, 13, 14, 15, 16, 17, 18, 19, 20, 21, 22], [0, 1, 2, 3, 4, 5, 6, 7, 8, 9, 10, 11, 12, 13, 14, 15, 16, 17, 18, 19], [0, 1, 2, 3, 4, 5, 6, 7, 8, 9, 10, 11, 12, 13, 14, 15, 16, 17, 18, 19, 20, 21, 22, 23, 24], [0, 1, 2, 3, 4, 5, 6, 7, 8, 9, 10, 11, 12, 13, 14, 15, 16, 17, 18, 19, 20, 21, 22, 23, 24, 25], [0, 1, 2, 3, 4, 5, 6, 7, 8, 9, 10, 11, 12, 13, 14, 15, 16, 17, 18, 19, 20, 21, 22, 23, 24, 25, 26]], [.light, .light, .light, .light, .light, .light, .light, .mem, .light, .light, .light, .light, .light, .mem, .light, .light, .light, .light, .light, .light, .light, .light, .light, .mem, .light, .light, .light, .light]⟩ (by kernel_rfl) rfl rfl mix ?_
      cases b
      · refine dr_l (x_move rfl) ?_
        obtain ⟨x, hx⟩ := get_ex (show i < l.length by omega)
        obtain ⟨bx, ox, hax, hcx⟩ := hs.at_ i _ hx
        refine dr_l (x_lenSlice Tryd.underlying69 rfl) ?_
        refine dr_cmp rfl rfl (wtd_none rfl) (x_eq rfl rfl) (fun h3 => ?_) (fun h3 => ?_)
        · refine dr_l (x_move rfl) ?_
          refine dr_sk ?_
          refine dr_sk ?_
          refine dr_sk ?_
          refine dr_sk ?_
          refine dr_sk ?_
          refine dr_sk ?_
          refine dr_sk ?_
          refine dr_sk ?_
          refine dr_sk ?_
          refine dr_sk ?_
          refine dr_sk ?_
          refine dr_l (x_pick_t rfl rfl rfl) ?_
          refine dr_l (x_move rfl) ?_
          refine dr_y (x_move rfl) ?_
          refine dr_y (x_not rfl) ?_
          refine dr_y (x_move rfl) ?_
          refine dr_sk ?_
          refine dr_sk ?_
          refine dr_sk ?_
          refine dr_sk ?_
          refine dr_sk ?_
          refine dr_sk ?_
          refine dr_y (x_pick_t rfl rfl rfl) ?_
          refine dr_l (x_pick_t rfl rfl rfl) ?_
          refine dr_nil0 ?_
          refine aw_kp [0, 2, 3, 4, 5, 6, 7, 14, 15, 16, 17, 20, 21, 22, 23, 24, 25, 26, 27, 28, 29, 30, 31, 32, 33, 34, 35, 36, 37, 38, 39, 40, 41, 42, 43, 44, 45, 46, 47] ?_
          refine aw_true rfl ?_
          refine aw_seq_region ?_
          refine sr_mv ?_
          refine sr_mv ?_
          refine sr_rd (x_indexAddrN (i) Tryd.underlying69 sz3 rfl hax rfl (by omega) (by omega)) ?_
          refine sr_rd (x_load ag3 rfl (Cells.mono hcx Sub.autoR)) ?_
          refine sr_as ?_
          refine sr_nil ?_
          refine aw_kp [0, 2, 3, 4, 5, 6, 7, 14, 15, 16, 17, 20, 21, 22, 23, 24, 25, 26, 27, 28, 29, 30, 31, 32, 33, 34, 35, 36, 37, 38, 39, 40, 41, 42, 43, 44, 45, 46, 47, 48, 49, 50, 51] ?_
          refine aw_region ?_
          refine sr_as ?_
          refine sr_nil ?_
          show AW _ _ _ _ _ _ _
          refine aw_region ?_
          refine sr_mv ?_
          refine sr_rd (x_add' rfl rfl (i64w (by omega) (by omega))) ?_
          refine sr_as ?_
          refine sr_nil ?_
          show ∃ s', _ ∧ _ ∧ _ ∧ _
          exact ⟨(i + 1, x, true), ⟨by dsimp only; omega, inn_take (x := x) hin hx (by first | exact okT_nil (by omega) | exact (okT_last hT.1 (by omega) hz).2 (by omega)) (by first | exact fun q => Bool.noConfusion q | exact fun _ => by omega)⟩, by dsimp only; omega, KeepF.auto, Sub.autoP⟩
        · refine dr_l (x_move rfl) ?_
          refine dr_y (x_move rfl) ?_
          refine dr_y (x_move rfl) ?_
          refine dr_y (x_indexAddrN (i) Tryd.underlying69 sz3 rfl hax rfl (by omega) (by omega)) ?_
          refine dr_mem0 rfl rfl (wtd_yes rfl rfl rfl) (x_load ag3 rfl (Cells.mono hcx Sub.autoR)) ?_
          refine dr_y (x_move rfl) ?_
          obtain ⟨z, hz⟩ := get_ex (show (Z.take k).length - 1 < (Z.take k).length by omega)
          obtain ⟨bz, oz, haz, hcz⟩ := hsE.at_ _ _ hz
          refine dr_y (x_move rfl) ?_
          refine dr_y (x_lenSlice Tryd.underlying69 rfl) ?_
          refine dr_y (x_sub' rfl rfl (i64w (by omega) (by omega))) ?_
          refine dr_y (x_indexAddrN ((Z.take k).length - 1) Tryd.underlying69 sz3 rfl haz rfl (by omega) (by omega)) ?_
          refine dr_mem0 rfl rfl (wtd_yes rfl rfl rfl) (x_load ag3 rfl (Cells.mono hcz Sub.autoE)) ?_
          refine dr_cmp rfl rfl (wtd_yes rfl rfl rfl) (x_gt rfl rfl) (fun h4 => ?_) (fun h4 => ?_)
          · refine dr_l (x_pick_f rfl rfl rfl) ?_
            refine dr_l (x_move rfl) ?_
            refine dr_y (x_move rfl) ?_
            refine dr_y (x_not rfl) ?_
            refine dr_y (x_move rfl) ?_
            refine dr_sk ?_
            refine dr_sk ?_
            refine dr_sk ?_
            refine dr_sk ?_
            refine dr_sk ?_
            refine dr_sk ?_
            refine dr_y (x_pick_t rfl rfl rfl) ?_
            refine dr_l (x_pick_t rfl rfl rfl) ?_
            refine dr_nil0 ?_
            refine aw_kp [0, 2, 3, 4, 5, 6, 7, 14, 15, 16, 17, 20, 21, 22, 23, 24, 25, 26, 27, 28, 29, 30, 31, 32, 33, 34, 35, 36, 37, 38, 39, 40, 41, 42, 43, 44, 45, 46, 47] ?_
            refine aw_true rfl ?_
            refine aw_seq_region ?_
            refine sr_mv ?_
            refine sr_mv ?_
            refine sr_rd (x_indexAddrN (i) Tryd.underlying69 sz3 rfl hax rfl (by omega) (by omega)) ?_
            refine sr_rd (x_load ag3 rfl (Cells.mono hcx Sub.autoR)) ?_
            refine sr_as ?_
            refine sr_nil ?_
            refine aw_kp [0, 2, 3, 4, 5, 6, 7, 14, 15, 16, 17, 20, 21, 22, 23, 24, 25, 26, 27, 28, 29, 30, 31, 32, 33, 34, 35, 36, 37, 38, 39, 40, 41, 42, 43, 44, 45, 46, 47, 48, 49, 50, 51] ?_
            refine aw_region ?_
            refine sr_as ?_
            refine sr_nil ?_
            show AW _ _ _ _ _ _ _
            refine aw_region ?_
            refine sr_mv ?_
            refine sr_rd (x_add' rfl rfl (i64w (by omega) (by omega))) ?_
            refine sr_as ?_
            refine sr_nil ?_
            show ∃ s', _ ∧ _ ∧ _ ∧ _
            exact ⟨(i + 1, x, true), ⟨by dsimp only; omega, inn_take (x := x) hin hx (by first | exact okT_nil (by omega) | exact (okT_last hT.1 (by omega) hz).2 (by omega)) (by first | exact fun q => Bool.noConfusion q | exact fun _ => by omega)⟩, by dsimp only; omega, KeepF.auto, Sub.autoP⟩
          · refine dr_l (x_pick_f rfl rfl rfl) ?_
            refine dr_l (x_move rfl) ?_
            refine dr_sk ?_
            refine dr_sk ?_
            refine dr_sk ?_
            refine dr_skip rfl (wtd_un rfl rfl rfl) ?_
            refine dr_skip rfl (wtd_un rfl rfl rfl) ?_
            refine dr_skip rfl (wtd_un rfl rfl rfl) ?_
            refine dr_skip rfl (wtd_un rfl rfl rfl) ?_
            refine dr_skip rfl (wtd_un rfl rfl rfl) ?_
            refine dr_skip rfl (wtd_un rfl rfl rfl) ?_
            refine dr_sk ?_
            refine dr_l (x_pick_f rfl rfl rfl) ?_
            refine dr_nil0 ?_
            refine aw_kp [0, 2, 3, 4, 5, 6, 7, 14, 15, 16, 17, 20, 21, 22, 23, 24, 25, 26, 27, 28, 29, 30, 31, 32, 33, 34, 35, 36, 37, 38, 39, 40, 41, 42, 43, 44, 45, 46, 47] ?_
            refine aw_false rfl ?_
            refine aw_skip ?_
            show AW _ _ _ _ _ _ _
            refine aw_region ?_
            refine sr_mv ?_
            refine sr_rd (x_add' rfl rfl (i64w (by omega) (by omega))) ?_
            refine sr_as ?_
            refine sr_nil ?_
            show ∃ s', _ ∧ _ ∧ _ ∧ _
            first | exact ⟨(i + 1, best, true), ⟨by dsimp only; omega, inn_skip (best := best) (is := true) hin hx (fun q => by first | exact ⟨rfl, by omega⟩ | (have := (okT_last hT.1 (by omega) hz).1 q; omega))⟩, by dsimp only; omega, KeepF.auto, Sub.autoD⟩ | exact ⟨(i + 1, best, false), ⟨by dsimp only; omega, inn_skip (best := best) (is := false) hin hx (fun q => by have := (okT_last hT.1 (by omega) hz).1 q; omega)⟩, by dsimp only; omega, KeepF.auto, Sub.autoD⟩
      · refine dr_l (x_move rfl) ?_
        obtain ⟨x, hx⟩ := get_ex (show i < l.length by omega)
        obtain ⟨bx, ox, hax, hcx⟩ := hs.at_ i _ hx
        refine dr_l (x_lenSlice Tryd.underlying69 rfl) ?_
        refine dr_cmp rfl rfl (wtd_none rfl) (x_eq rfl rfl) (fun h5 => ?_) (fun h5 => ?_)
        · refine dr_l (x_move rfl) ?_
          refine dr_sk ?_
          refine dr_sk ?_
          refine dr_sk ?_
          refine dr_sk ?_
          refine dr_sk ?_
          refine dr_sk ?_
          refine dr_sk ?_
          refine dr_sk ?_
          refine dr_sk ?_
          refine dr_sk ?_
          refine dr_sk ?_
          refine dr_l (x_pick_t rfl rfl rfl) ?_
          refine dr_l (x_move rfl) ?_
          refine dr_y (x_move rfl) ?_
          refine dr_y (x_not rfl) ?_
          refine dr_y (x_move rfl) ?_
          refine dr_y (x_move rfl) ?_
          refine dr_y (x_move rfl) ?_
          refine dr_y (x_indexAddrN (i) Tryd.underlying69 sz3 rfl hax rfl (by omega) (by omega)) ?_
          refine dr_mem0 rfl rfl (wtd_yes rfl rfl rfl) (x_load ag3 rfl (Cells.mono hcx Sub.autoR)) ?_
          refine dr_y (x_move rfl) ?_
          refine dr_cmp rfl rfl (wtd_yes rfl rfl rfl) (x_lt rfl rfl) (fun h6 => ?_) (fun h6 => ?_)
          · refine dr_y (x_pick_f rfl rfl rfl) ?_
            refine dr_l (x_pick_t rfl rfl rfl) ?_
            refine dr_nil0 ?_
            refine aw_kp [0, 2, 3, 4, 5, 6, 7, 14, 15, 16, 17, 20, 21, 22, 23, 24, 25, 26, 27, 28, 29, 30, 31, 32, 33, 34, 35, 36, 37, 38, 39, 40, 41, 42, 43, 44, 45, 46, 47] ?_
            refine aw_true rfl ?_
            refine aw_seq_region ?_
            refine sr_mv ?_
            refine sr_mv ?_
            refine sr_rd (x_indexAddrN (i) Tryd.underlying69 sz3 rfl hax rfl (by omega) (by omega)) ?_
            refine sr_rd (x_load ag3 rfl (Cells.mono hcx Sub.autoR)) ?_
            refine sr_as ?_
            refine sr_nil ?_
            refine aw_kp [0, 2, 3, 4, 5, 6, 7, 14, 15, 16, 17, 20, 21, 22, 23, 24, 25, 26, 27, 28, 29, 30, 31, 32, 33, 34, 35, 36, 37, 38, 39, 40, 41, 42, 43, 44, 45, 46, 47, 48, 49, 50, 51] ?_
            refine aw_region ?_
            refine sr_as ?_
            refine sr_nil ?_
            show AW _ _ _ _ _ _ _
            refine aw_region ?_
            refine sr_mv ?_
            refine sr_rd (x_add' rfl rfl (i64w (by omega) (by omega))) ?_
            refine sr_as ?_
            refine sr_nil ?_
            show ∃ s', _ ∧ _ ∧ _ ∧ _
            exact ⟨(i + 1, x, true), ⟨by dsimp only; omega, inn_take (x := x) hin hx (by first | exact okT_nil (by omega) | exact (okT_last hT.1 (by omega) hz).2 (by omega)) (by first | exact fun q => Bool.noConfusion q | exact fun _ => by omega)⟩, by dsimp only; omega, KeepF.auto, Sub.autoP⟩
          · refine dr_y (x_pick_f rfl rfl rfl) ?_
            refine dr_l (x_pick_t rfl rfl rfl) ?_
            refine dr_nil0 ?_
            refine aw_kp [0, 2, 3, 4, 5, 6, 7, 14, 15, 16, 17, 20, 21, 22, 23, 24, 25, 26, 27, 28, 29, 30, 31, 32, 33, 34, 35, 36, 37, 38, 39, 40, 41, 42, 43, 44, 45, 46, 47] ?_
            refine aw_false rfl ?_
            refine aw_skip ?_
            show AW _ _ _ _ _ _ _
            refine aw_region ?_
            refine sr_mv ?_
            refine sr_rd (x_add' rfl rfl (i64w (by omega) (by omega))) ?_
            refine sr_as ?_
            refine sr_nil ?_
            show ∃ s', _ ∧ _ ∧ _ ∧ _
            first | exact ⟨(i + 1, best, true), ⟨by dsimp only; omega, inn_skip (best := best) (is := true) hin hx (fun q => by first | exact ⟨rfl, by omega⟩ | (have := (okT_last hT.1 (by omega) hz).1 q; omega))⟩, by dsimp only; omega, KeepF.auto, Sub.autoD⟩ | exact ⟨(i + 1, best, false), ⟨by dsimp only; omega, inn_skip (best := best) (is := false) hin hx (fun q => by have := (okT_last hT.1 (by omega) hz).1 q; omega)⟩, by dsimp only; omega, KeepF.auto, Sub.autoD⟩
        · refine dr_l (x_move rfl) ?_
          refine dr_y (x_move rfl) ?_
          refine dr_y (x_move rfl) ?_
          refine dr_y (x_indexAddrN (i) Tryd.underlying69 sz3 rfl hax rfl (by omega) (by omega)) ?_
          refine dr_mem0 rfl rfl (wtd_yes rfl rfl rfl) (x_load ag3 rfl (Cells.mono hcx Sub.autoR)) ?_
          refine dr_y (x_move rfl) ?_
          obtain ⟨z, hz⟩ := get_ex (show (Z.take k).length - 1 < (Z.take k).length by omega)
          obtain ⟨bz, oz, haz, hcz⟩ := hsE.at_ _ _ hz
          refine dr_y (x_move rfl) ?_
          refine dr_y (x_lenSlice Tryd.underlying69 rfl) ?_
          refine dr_y (x_sub' rfl rfl (i64w (by omega) (by omega))) ?_
          refine dr_y (x_indexAddrN ((Z.take k).length - 1) Tryd.underlying69 sz3 rfl haz rfl (by omega) (by omega)) ?_
          refine dr_mem0 rfl rfl (wtd_yes rfl rfl rfl) (x_load ag3 rfl (Cells.mono hcz Sub.autoE)) ?_
          refine dr_cmp rfl rfl (wtd_yes rfl rfl rfl) (x_gt rfl rfl) (fun h7 => ?_) (fun h7 => ?_)
          · refine dr_l (x_pick_f rfl rfl rfl) ?_
            refine dr_l (x_move rfl) ?_
            refine dr_y (x_move rfl) ?_
            refine dr_y (x_not rfl) ?_
            refine dr_y (x_move rfl) ?_
            refine dr_y (x_move rfl) ?_
            refine dr_y (x_move rfl) ?_
            refine dr_y (x_indexAddrN (i) Tryd.underlying69 sz3 rfl hax rfl (by omega) (by omega)) ?_
            refine dr_mem0 rfl rfl (wtd_yes rfl rfl rfl) (x_load ag3 rfl (Cells.mono hcx Sub.autoR)) ?_
            refine dr_y (x_move rfl) ?_
            refine dr_cmp rfl rfl (wtd_yes rfl rfl rfl) (x_lt rfl rfl) (fun h8 => ?_) (fun h8 => ?_)
            · refine dr_y (x_pick_f rfl rfl rfl) ?_
              refine dr_l (x_pick_t rfl rfl rfl) ?_
              refine dr_nil0 ?_
              refine aw_kp [0, 2, 3, 4, 5, 6, 7, 14, 15, 16, 17, 20, 21, 22, 23, 24, 25, 26, 27, 28, 29, 30, 31, 32, 33, 34, 35, 36, 37, 38, 39, 40, 41, 42, 43, 44, 45, 46, 47] ?_
              refine aw_true rfl ?_
              refine aw_seq_region ?_
              refine sr_mv ?_
              refine sr_mv ?_
              refine sr_rd (x_indexAddrN (i) Tryd.underlying69 sz3 rfl hax rfl (by omega) (by omega)) ?_
              refine sr_rd (x_load ag3 rfl (Cells.mono hcx Sub.autoR)) ?_
              refine sr_as ?_
              refine sr_nil ?_
              refine aw_kp [0, 2, 3, 4, 5, 6, 7, 14, 15, 16, 17, 20, 21, 22, 23, 24, 25, 26, 27, 28, 29, 30, 31, 32, 33, 34, 35, 36, 37, 38, 39, 40, 41, 42, 43, 44, 45, 46, 47, 48, 49, 50, 51] ?_
              refine aw_region ?_
              refine sr_as ?_
              refine sr_nil ?_
              show AW _ _ _ _ _ _ _
              refine aw_region ?_
              refine sr_mv ?_
              refine sr_rd (x_add' rfl rfl (i64w (by omega) (by omega))) ?_
              refine sr_as ?_
              refine sr_nil ?_
              show ∃ s', _ ∧ _ ∧ _ ∧ _
              exact ⟨(i + 1, x, true), ⟨by dsimp only; omega, inn_take (x := x) hin hx (by first | exact okT_nil (by omega) | exact (okT_last hT.1 (by omega) hz).2 (by omega)) (by first | exact fun q => Bool.noConfusion q | exact fun _ => by omega)⟩, by dsimp only; omega, KeepF.auto, Sub.autoP⟩
            · refine dr_y (x_pick_f rfl rfl rfl) ?_
              refine dr_l (x_pick_t rfl rfl rfl) ?_
              refine dr_nil0 ?_
              refine aw_kp [0, 2, 3, 4, 5, 6, 7, 14, 15, 16, 17, 20, 21, 22, 23, 24, 25, 26, 27, 28, 29, 30, 31, 32, 33, 34, 35, 36, 37, 38, 39, 40, 41, 42, 43, 44, 45, 46, 47] ?_
              refine aw_false rfl ?_
              refine aw_skip ?_
              show AW _ _ _ _ _ _ _
              refine aw_region ?_
              refine sr_mv ?_
              refine sr_rd (x_add' rfl rfl (i64w (by omega) (by omega))) ?_
              refine sr_as ?_
              refine sr_nil ?_
              show ∃ s', _ ∧ _ ∧ _ ∧ _
              first | exact ⟨(i + 1, best, true), ⟨by dsimp only; omega, inn_skip (best := best) (is := true) hin hx (fun q => by first | exact ⟨rfl, by omega⟩ | (have := (okT_last hT.1 (by omega) hz).1 q; omega))⟩, by dsimp only; omega, KeepF.auto, Sub.autoD⟩ | exact ⟨(i + 1, best, false), ⟨by dsimp only; omega, inn_skip (best := best) (is := false) hin hx (fun q => by have := (okT_last hT.1 (by omega) hz).1 q; omega)⟩, by dsimp only; omega, KeepF.auto, Sub.autoD⟩
          · refine dr_l (x_pick_f rfl rfl rfl) ?_
            refine dr_l (x_move rfl) ?_
            refine dr_sk ?_
            refine dr_sk ?_
            refine dr_sk ?_
            refine dr_skip rfl (wtd_un rfl rfl rfl) ?_
            refine dr_skip rfl (wtd_un rfl rfl rfl) ?_
            refine dr_skip rfl (wtd_un rfl rfl rfl) ?_
            refine dr_skip rfl (wtd_un rfl rfl rfl) ?_
            refine dr_skip rfl (wtd_un rfl rfl rfl) ?_
            refine dr_skip rfl (wtd_un rfl rfl rfl) ?_
            refine dr_sk ?_
            refine dr_l (x_pick_f rfl rfl rfl) ?_
            refine dr_nil0 ?_
            refine aw_kp [0, 2, 3, 4, 5, 6, 7, 14, 15, 16, 17, 20, 21, 22, 23, 24, 25, 26, 27, 28, 29, 30, 31, 32, 33, 34, 35, 36, 37, 38, 39, 40, 41, 42, 43, 44, 45, 46, 47] ?_
            refine aw_false rfl ?_
            refine aw_skip ?_
            show AW _ _ _ _ _ _ _
            refine aw_region ?_
            refine sr_mv ?_
            refine sr_rd (x_add' rfl rfl (i64w (by omega) (by omega))) ?_
            refine sr_as ?_
            refine sr_nil ?_
            show ∃ s', _ ∧ _ ∧ _ ∧ _
            first | exact ⟨(i + 1, best, true), ⟨by dsimp only; omega, inn_skip (best := best) (is := true) hin hx (fun q => by first | exact ⟨rfl, by omega⟩ | (have := (okT_last hT.1 (by omega) hz).1 q; omega))⟩, by dsimp only; omega, KeepF.auto, Sub.autoD⟩ | exact ⟨(i + 1, best, false), ⟨by dsimp only; omega, inn_skip (best := best) (is := false) hin hx (fun q => by have := (okT_last hT.1 (by omega) hz).1 q; omega)⟩, by dsimp only; omega, KeepF.auto, Sub.autoD⟩
    · refine sr_nil ?_
      refine aw_kp [0, 2, 3, 4, 5, 6, 7, 14, 15, 16, 17] ?_
      refine aw_false rfl ?_
      refine aw_exit ?_
      show AW _ _ _ _ _ _ _
      refine aw_seq_region ?_
      obtain rfl : i = l.length := by omega
      cases b
      · refine sr_mv ?_
        refine sr_nil ?_
        refine aw_kp [0, 2, 3, 4, 5, 6, 7, 14, 15, 16, 17, 52] ?_
        refine aw_false rfl ?_
        refine aw_skip ?_
        show AW _ _ _ _ _ _ _
        refine aw_region ?_
        refine sr_mv ?_
        refine sr_rd (x_add' rfl rfl (i64w (by omega) (by omega))) ?_
        refine sr_as ?_
        refine sr_nil ?_
        show ∃ s', _ ∧ _ ∧ _ ∧ _
        first | exact ⟨⟨k + 1, .slice a56 ((Z.take k).length + 1) cap56, E56⟩, ⟨by dsimp only; omega, (by dsimp only; rw [inn_t hT hin]; have h9 := hV56.snocS; generalize Z.take k = Y at h9 ⊢; rw [List.length_append] at h9 ⊢; exact h9)⟩, by dsimp only; omega, KeepF.auto, Sub.autoD⟩ | exact ⟨⟨k + 1, .slice a1 (Z.take k).length c1, E⟩, ⟨by dsimp only; omega, (by dsimp only; rw [inn_f hT hin]; exact V)⟩, by dsimp only; omega, KeepF.auto, Sub.autoD⟩
      · refine sr_mv ?_
        refine sr_nil ?_
        refine aw_kp [0, 2, 3, 4, 5, 6, 7, 14, 15, 16, 17, 52] ?_
        refine aw_true rfl ?_
        refine aw_region ?_
        refine sr_mv ?_
        refine sr_mv ?_
        refine sr_new rfl (wtd_none rfl) rfl (x_buildSlice Tryd.underlying69 sz3 zr3 rfl rfl rfl rfl Parts.auto Fill.auto) ?_
        intro r14_2 hr14_2 gr14_2
        refine sr_d rfl (wtd_none rfl) rfl (opS_append (G := H) (N := (intC best)) (m := 1) Tryd.underlying69 sz3 zr3 rfl by3 rfl rfl V Sub.autoP (.inr ⟨_, _, rfl, (cells_ext mauto Ext.auto)⟩) (rfl) rfl (by omega) (by omega)) ?_
        rintro v56 _ ⟨E56, hV56, rfl⟩
        obtain ⟨a56, cap56, rfl⟩ := hV56.isSl
        refine sr_as ?_
        refine sr_nil ?_
        show AW _ _ _ _ _ _ _
        refine aw_region ?_
        refine sr_mv ?_
        refine sr_rd (x_add' rfl rfl (i64w (by omega) (by omega))) ?_
        refine sr_as ?_
        refine sr_nil ?_
        show ∃ s', _ ∧ _ ∧ _ ∧ _
        first | exact ⟨⟨k + 1, .slice a56 ((Z.take k).length + 1) cap56, E56⟩, ⟨by dsimp only; omega, (by dsimp only; rw [inn_t hT hin]; have h9 := hV56.snocS; generalize Z.take k = Y at h9 ⊢; rw [List.length_append] at h9 ⊢; exact h9)⟩, by dsimp only; omega, KeepF.auto, Sub.autoD⟩ | exact ⟨⟨k + 1, .slice a1 (Z.take k).length c1, E⟩, ⟨by dsimp only; omega, (by dsimp only; rw [inn_f hT hin]; exact V)⟩, by dsimp only; omega, KeepF.auto, Sub.autoD⟩
  · refine sr_nil ?_
    refine aw_kp [0, 2, 3, 4, 8, 9, 10, 11] ?_
    refine aw_false rfl ?_
    refine aw_exit ?_
    show AW _ _ _ _ _ _ _
    refine aw_seq_region ?_
    have hzl : Z.take k = Z := List.take_of_length_le (by have := hT.len; omega)
    rw [hzl] at V ⊢
    refine sr_mv ?_
    refine sr_as ?_
    refine sr_nil ?_
    refine aw_kp [2] ?_
    refine aw_ret ?_
    show ∃ v H2, ResV _ _ _ _ _ _ v ∧ Sub H2 _ ∧ _
    exact ⟨_, E ++ H, resV rfl (.cons rfl .nil), Sub.autoP, a1, c1, E, rfl, V, rfl⟩
end
end Go.Proofs.YtbcajgkaepihfaaDoor
