/- Charts: rows, loads, for any jobs. -/
import Derived.Test.YtbcajgkaepihfaaProg
import Derived.Test.YtbcajgkaepihfaaSymData
import Derived.Test.YtbcajgkaepihfaaSymStr
import Derived.Test.YtbcajgkaepihfaaSymMore
import Derived.Test.YtbcajgkaepihfaaSymBld2
import Derived.Test.YtbcajgkaepihfaaSymCpt
namespace Go.Proofs.Ytbcajgkaepihfaa
open Go.Proofs.Ytbcajgkaepihfaa.Sym
open Go.RowKit (Below)
set_option linter.unusedVariables false
set_option linter.unusedSimpArgs false
structure Job where
  id : Int
  user : Int
  width : Int
  limit : Int
  prio : Int
  state : Int
  start : Int
  fin : Int
  plan : Int
  nodes : Int
@[reducible] def Job.cells (j : Job) : List Value := [.int .i64 j.id, .int .i64 j.user, .int .i64 j.width, .int .i64 j.limit, .int .i64 j.prio, .int .i64 j.state, .int .i64 j.start, .int .i64 j.fin, .int .i64 j.plan, .int .u64 j.nodes]
@[reducible] def Job.v (j : Job) : Value := .agg (Job.cells j).toArray
def Job.Wf (j : Job) : Prop := IntKind.min .i64 ≤ j.id ∧ j.id ≤ IntKind.max .i64 ∧ IntKind.min .i64 ≤ j.user ∧ j.user ≤ IntKind.max .i64 ∧ IntKind.min .i64 ≤ j.width ∧ j.width ≤ IntKind.max .i64 ∧ IntKind.min .i64 ≤ j.limit ∧ j.limit ≤ IntKind.max .i64 ∧ IntKind.min .i64 ≤ j.prio ∧ j.prio ≤ IntKind.max .i64 ∧ IntKind.min .i64 ≤ j.state ∧ j.state ≤ IntKind.max .i64 ∧ IntKind.min .i64 ≤ j.start ∧ j.start ≤ IntKind.max .i64 ∧ IntKind.min .i64 ≤ j.fin ∧ j.fin ≤ IntKind.max .i64 ∧ IntKind.min .i64 ≤ j.plan ∧ j.plan ≤ IntKind.max .i64 ∧ IntKind.min .u64 ≤ j.nodes ∧ j.nodes ≤ IntKind.max .u64
structure Chart where
  from_ : Int
  column : Int
  cols : Int
@[reducible] def Chart.cells (j : Chart) : List Value := [.int .i64 j.from_, .int .i64 j.column, .int .i64 j.cols]
@[reducible] def Chart.v (j : Chart) : Value := .agg (Chart.cells j).toArray
def Chart.Wf (j : Chart) : Prop := IntKind.min .i64 ≤ j.from_ ∧ j.from_ ≤ IntKind.max .i64 ∧ IntKind.min .i64 ≤ j.column ∧ j.column ≤ IntKind.max .i64 ∧ IntKind.min .i64 ≤ j.cols ∧ j.cols ≤ IntKind.max .i64
def hasB (s n : Int) : Bool := decide (0 ≤ n) && decide (n < 64) && s.toNat.testBit n.toNat
theorem bit1 (a n : Nat) : ((a >>> n &&& 1 : Nat) : Int) = 1 ↔ a.testBit n = true := by
  rw [Nat.testBit, Nat.and_comm]
  simp only [bne_iff_ne, ne_eq]
  have : 1 &&& a >>> n < 2 := by
    rw [Nat.and_comm, Nat.and_one_is_mod]; omega
  omega
def hit (a b : Job) : Prop := ((a.nodes.toNat &&& b.nodes.toNat : Nat) : Int) ≠ 0 ∧ 0 ≤ a.start ∧ 0 ≤ b.start ∧ max a.start b.start < min a.fin b.fin
/-- The places k < i are the first two that clash. -/
def FirstHit (xs : List Job) (k i : Nat) : Prop :=
  (∃ x y, xs[k]? = some x ∧ xs[i]? = some y ∧ k < i ∧ hit y x) ∧ ∀ (k' i' : Nat) (x y : Job), xs[k']? = some x → xs[i']? = some y → k' < i' → (i' < i ∨ (i' = i ∧ k' < k)) → ¬ hit y x
def NoHit (xs : List Job) : Prop := ∀ (k' i' : Nat) (x y : Job), xs[k']? = some x → xs[i']? = some y → k' < i' → ¬ hit y x
theorem tm26 (a : Int) : -25 ≤ a.tmod 26 ∧ a.tmod 26 ≤ 25 := by
  have h1 := Int.tmod_lt_of_pos a (show (0 : Int) < 26 by omega)
  have h2 := Int.lt_tmod_of_pos a (show (0 : Int) < 26 by omega)
  omega
theorem sign_eq (a : Int) : (a.tmod 26 + 26).tmod 26 = a % 26 := by
  have h := tm26 a
  rw [Int.tmod_eq_emod_of_nonneg (by omega)]
  have h2 := Int.tmod_add_mul_tdiv a 26
  omega
def signB (id : Int) : UInt8 := UInt8.ofNat (97 + (id % 26).toNat)
theorem signB_val (id : Int) : ((signB id).toNat : Int) = 97 + id % 26 := by
  unfold signB
  have h : (97 + (id % 26).toNat) < 256 := by omega
  rw [UInt8.toNat_ofNat_of_lt' h]
  omega
def hadB (j : Job) (n t : Int) : Bool := decide (0 ≤ j.start) && decide (j.start ≤ t) && decide (t < j.fin) && hasB j.nodes n
def cellB (n t : Int) (xs : List Job) : UInt8 :=
  match xs.find? (fun j => hadB j n t) with
  | some j => signB j.id
  | none => 46
def rowB (c : Chart) (n : Int) (xs : List Job) (k : Nat) : List UInt8 := (List.range k).map fun (i : Nat) => cellB n (c.from_ + (i : Int) * c.column) xs
def Chart.Right (c : Chart) : Prop := 0 ≤ c.from_ ∧ c.from_ ≤ 1099511627776 ∧ 1 ≤ c.column ∧ c.column ≤ 1099511627776 ∧ 1 ≤ c.cols ∧ c.cols ≤ 120
def encB (c : UInt8) : Value := .int .u8 c.toNat
theorem rowB_succ (c : Chart) (n : Int) (xs : List Job) (k : Nat) : rowB c n xs (k + 1) = rowB c n xs k ++ [cellB n (c.from_ + (k : Int) * c.column) xs] := by
  unfold rowB; rw [List.range_succ, List.map_append]; rfl
theorem find_first {xs : List Job} {p : Job → Bool} {i : Nat} {x : Job} (hx : xs[i]? = some x) (hp : p x = true) (h : ∀ k y, k < i → xs[k]? = some y → p y = false) : xs.find? p = some x := by
  induction xs generalizing i with
  | nil => simp at hx
  | cons a l ih =>
    cases i with
    | zero => simp at hx; subst hx; simp [hp]
    | succ i =>
      have ha : p a = false := h 0 a (by omega) rfl
      rw [List.find?_cons, ha]
      exact ih (by simpa using hx) fun k y hk hy => h (k + 1) y (by omega) (by simpa using hy)
theorem find_none' {xs : List Job} {p : Job → Bool} (h : ∀ k y, k < xs.length → xs[k]? = some y → p y = false) : xs.find? p = none := by
  rw [List.find?_eq_none]
  intro x hx
  obtain ⟨i, hi⟩ := List.getElem?_of_mem hx
  have := h i x (by have := (List.getElem?_eq_some_iff.1 hi).1; omega) hi
  simp [this]
/-- The row's cells, k of them done. -/
def Done (c : Chart) (n : Int) (xs : List Job) (k : Nat) (L : List Value) : Prop := L.length = c.cols.toNat ∧ L.take k = (rowB c n xs k).map encB
theorem done_step {c : Chart} {n : Int} {xs : List Job} {k : Nat} {L : List Value} (h : Done c n xs k L) (hk : k < c.cols.toNat) {v : Value} (hv : v = encB (cellB n (c.from_ + (k : Int) * c.column) xs)) : Done c n xs (k + 1) (L.set k v) := by
  obtain ⟨h1, h2⟩ := h
  refine ⟨by simp [h1], ?_⟩
  rw [rowB_succ, List.map_append, ← h2, hv]
  have hlt : k < (L.set k (encB (cellB n (c.from_ + (k : Int) * c.column) xs))).length := by simp [h1]; omega
  rw [List.take_succ_eq_append_getElem hlt]
  congr 1
  · rw [List.take_set_of_le (Nat.le_refl _)]
  · simp
theorem done_step2 {c : Chart} {n : Int} {xs : List Job} {k : Nat} {L : List Value} (h : Done c n xs k L) (hk : k < c.cols.toNat) {u v : Value} (hv : v = encB (cellB n (c.from_ + (k : Int) * c.column) xs)) : Done c n xs (k + 1) ((L.set k u).set k v) := by
  rw [List.set_set]; exact done_step h hk hv
theorem spl_at {cs : List Value} {i : Nat} {v : Value} (h : i < cs.length) : Spl cs (0 + (i : Int).toNat * 1) [v] (cs.set i v) := by
  have e : 0 + (i : Int).toNat * 1 = i := by omega
  rw [e]; exact spl_set h
theorem cells_row {c : Chart} {n : Int} {xs : List Job} {k : Nat} {L : List Value} {W0 : World} {H : SHeap} {r : Nat} (hD : Done c n xs k L) (hk : c.cols.toNat ≤ k) (hk2 : k ≤ c.cols.toNat) (hm : (r, Obj.cells L.toArray 5 (0, 0)) ∈ H) : Cells W0 H r 0 ((rowB c n xs c.cols.toNat).map fun c : UInt8 => .int .u8 c.toNat) := by
  obtain ⟨h1, h2⟩ := hD
  have e : k = c.cols.toNat := by omega
  subst e
  rw [List.take_of_length_le (by omega)] at h2
  have h3 : L = (rowB c n xs c.cols.toNat).map fun c : UInt8 => .int .u8 c.toNat := h2
  rw [← h3]
  exact cells_ext hm (by have := Ext.all L; exact this)
instance (c : Chart) : Decidable c.Right := inferInstanceAs (Decidable (_ ∧ _))
def rowS (c : Chart) (n : Int) (xs : List Job) : List UInt8 := if c.Right then rowB c n xs c.cols.toNat else []
theorem rowS_y {c : Chart} {n : Int} {xs : List Job} (h : c.Right) : rowS c n xs = rowB c n xs c.cols.toNat := if_pos h
theorem rowS_n {c : Chart} {n : Int} {xs : List Job} (h : ¬ c.Right) : rowS c n xs = [] := if_neg h
theorem rowB_len {c : Chart} {n : Int} {xs : List Job} {k : Nat} : (rowB c n xs k).length = k := by unfold rowB; simp
theorem rowS_len {c : Chart} {n : Int} {xs : List Job} : (rowS c n xs).length ≤ 120 := by
  unfold rowS
  split
  · next h => rw [rowB_len]; obtain ⟨_, _, _, _, _, h6⟩ := h; omega
  · simp
theorem rowS_get {c : Chart} {n : Int} {xs : List Job} {k : Nat} (h : c.Right) (hk : k < c.cols.toNat) : (rowS c n xs)[k]? = some (cellB n (c.from_ + (k : Int) * c.column) xs) := by
  rw [rowS_y h]; unfold rowB; rw [List.getElem?_map, List.getElem?_range hk]; rfl
theorem cellB_cons (n t : Int) (x : Job) (l : List Job) : cellB n t (x :: l) = if hadB x n t = true then signB x.id else cellB n t l := by
  unfold cellB; rw [List.find?_cons]
  cases hadB x n t <;> rfl
theorem drop_pred {xs : List Job} {k : Nat} {x : Job} (h : xs[k]? = some x) : xs.drop k = x :: xs.drop (k + 1) := by
  have hk := get_lt h
  have e : xs[k] = x := by rw [List.getElem_eq_iff]; exact h
  rw [← e]; exact List.drop_eq_getElem_cons hk
def cntN (t : Int) (xs : List Job) : Nat → Nat
  | 0 => 0
  | i + 1 => cntN t xs i + if xs.any (fun j => hadB j i t) then 1 else 0
theorem cntN_y {t : Int} {xs : List Job} {i : Nat} (h : xs.any (fun j => hadB j i t) = true) : cntN t xs (i + 1) = cntN t xs i + 1 := by
  show cntN t xs i + (if _ then 1 else 0) = _; rw [if_pos h]
theorem cntN_n {t : Int} {xs : List Job} {i : Nat} (h : ¬ xs.any (fun j => hadB j i t) = true) : cntN t xs (i + 1) = cntN t xs i := by
  show cntN t xs i + (if _ then 1 else 0) = _; rw [if_neg h]; rfl
theorem cntN_le {t : Int} {xs : List Job} : ∀ i : Nat, cntN t xs i ≤ i
  | 0 => Nat.le_refl _
  | i + 1 => by
    have := cntN_le (t := t) (xs := xs) i
    show cntN t xs i + (if _ then 1 else 0) ≤ _
    split <;> omega
theorem cell_any {n t : Int} {xs : List Job} : ((cellB n t xs).toNat : Int) ≠ 46 ↔ xs.any (fun j => hadB j n t) = true := by
  induction xs with
  | nil => simp [cellB]
  | cons x l ih =>
    rw [cellB_cons, List.any_cons]
    by_cases h : hadB x n t = true
    · rw [if_pos h, h, Bool.true_or]
      have := signB_val x.id
      exact ⟨fun _ => rfl, fun _ => by omega⟩
    · rw [if_neg h, ih, Bool.eq_false_iff.2 h, Bool.false_or]
theorem any_no {n t : Int} {xs : List Job} (h : ∀ (q : Nat) (x : Job), q < xs.length → xs[q]? = some x → hadB x n t = false) : ¬ xs.any (fun j => hadB j n t) = true := by
  rw [List.any_eq_true]
  rintro ⟨x, hx, hh⟩
  obtain ⟨q, hq⟩ := List.getElem?_of_mem hx
  rw [h q x (get_lt hq) hq] at hh; cases hh
theorem any_yes {n t : Int} {xs : List Job} {q : Nat} {x : Job} (hx : xs[q]? = some x) (h : hadB x n t = true) : xs.any (fun j => hadB j n t) = true := List.any_eq_true.2 ⟨x, List.mem_of_getElem? hx, h⟩
@[reducible] def intC (x : Int) : List Value := [.int .i64 x]
def loadB (c : Chart) (N : Nat) (xs : List Job) (k : Nat) : List Int := (List.range k).map fun (i : Nat) => (cntN (c.from_ + (i : Int) * c.column) xs N : Int)
theorem loadB_len {c : Chart} {N : Nat} {xs : List Job} {k : Nat} : (loadB c N xs k).length = k := by unfold loadB; simp
theorem loadB_succ (c : Chart) (N : Nat) (xs : List Job) (k : Nat) : loadB c N xs (k + 1) = loadB c N xs k ++ [(cntN (c.from_ + (k : Int) * c.column) xs N : Int)] := by
  unfold loadB; rw [List.range_succ, List.map_append]; rfl
def loadL (c : Chart) (N : Nat) (xs : List Job) : List Int := if c.Right then loadB c N xs c.cols.toNat else []
theorem loadL_y {c : Chart} {N : Nat} {xs : List Job} (h : c.Right) : loadL c N xs = loadB c N xs c.cols.toNat := if_pos h
theorem loadL_n {c : Chart} {N : Nat} {xs : List Job} (h : ¬ c.Right) : loadL c N xs = [] := if_neg h
theorem loadL_get {c : Chart} {N : Nat} {xs : List Job} {k : Nat} (h : c.Right) (hk : k < c.cols.toNat) : (loadL c N xs)[k]? = some (cntN (c.from_ + (k : Int) * c.column) xs N : Int) := by
  rw [loadL_y h]; unfold loadB; rw [List.getElem?_map, List.getElem?_range hk]; rfl
def rowsB (c : Chart) (xs : List Job) : Nat → List UInt8
  | 0 => []
  | k + 1 => rowsB c xs k ++ (rowS c k xs ++ [10])
theorem rowsB_len {c : Chart} {xs : List Job} : ∀ k, (rowsB c xs k).length ≤ 121 * k
  | 0 => Nat.le_refl _
  | k + 1 => by
    have h1 := rowsB_len (c := c) (xs := xs) k
    have h2 := rowS_len (c := c) (n := k) (xs := xs)
    show (rowsB c xs k ++ (rowS c k xs ++ [10])).length ≤ _
    rw [List.length_append, List.length_append, List.length_singleton]; omega
theorem rowsB_snoc (c : Chart) (xs : List Job) (k : Nat) : rowsB c xs (k + 1) = (rowsB c xs k ++ rowS c k xs) ++ [10] := by rw [List.append_assoc]; rfl
theorem time_bd {c : Chart} {k : Int} (h : c.Right) (h0 : 0 ≤ k) (h1 : k ≤ 120) : 0 ≤ k * c.column ∧ k * c.column ≤ 131941395333120 := by
  obtain ⟨q1, q2, q3, q4, q5, q6⟩ := h
  have hm1 : 0 ≤ k * c.column := Int.mul_nonneg h0 (by omega)
  have hm2 : k * c.column ≤ 120 * 1099511627776 := Int.mul_le_mul h1 q4 (by omega) (by omega)
  exact ⟨hm1, by omega⟩
theorem sign16 (a : Int) : -25 ≤ a.tmod 26 ∧ a.tmod 26 ≤ 25 ∧ (a.tmod 26 < 0 → a.tmod 26 + 26 = a % 26) ∧ (¬ a.tmod 26 < 0 → a.tmod 26 = a % 26) := by
  have h1 := tm26 a
  have h2 := Int.tmod_add_mul_tdiv a 26
  refine ⟨h1.1, h1.2, fun h => by omega, fun h => by omega⟩
structure GrG where
  k : Nat
  sl : Value
  E : SHeap
theorem ag2 : aggOf Try.prog 2 = some false := by kernel_rfl
theorem ag23 : aggOf Try.prog 23 = some true := by kernel_rfl
theorem ag3 : aggOf Try.prog 3 = some false := by kernel_rfl
theorem ag34 : aggOf Try.prog 34 = some false := by kernel_rfl
theorem ag35 : aggOf Try.prog 35 = some false := by kernel_rfl
theorem ag37 : aggOf Try.prog 37 = some true := by kernel_rfl
theorem ag41 : aggOf Try.prog 41 = some false := by kernel_rfl
theorem by3 : bytesOf Try.prog 3 = some 8 := by kernel_rfl
theorem by5 : bytesOf Try.prog 5 = some 1 := by kernel_rfl
theorem cells5 : Try.prog.cellsOf 5 = 1 := by kernel_rfl
theorem cl12 : Callable Try.prog 12 := ⟨Try.f12, Try.func12, by kernel_rfl, by kernel_rfl⟩
theorem cl13 : Callable Try.prog 13 := ⟨Try.f13, Try.func13, by kernel_rfl, by kernel_rfl⟩
theorem cl14 : Callable Try.prog 14 := ⟨Try.f14, Try.func14, by kernel_rfl, by kernel_rfl⟩
theorem cl15 : Callable Try.prog 15 := ⟨Try.f15, Try.func15, by kernel_rfl, by kernel_rfl⟩
theorem cl16 : Callable Try.prog 16 := ⟨Try.f16, Try.func16, by kernel_rfl, by kernel_rfl⟩
theorem cl17 : Callable Try.prog 17 := ⟨Try.f17, Try.func17, by kernel_rfl, by kernel_rfl⟩
theorem cl18 : Callable Try.prog 18 := ⟨Try.f18, Try.func18, by kernel_rfl, by kernel_rfl⟩
theorem cl19 : Callable Try.prog 19 := ⟨Try.f19, Try.func19, by kernel_rfl, by kernel_rfl⟩
theorem cl20 : Callable Try.prog 20 := ⟨Try.f20, Try.func20, by kernel_rfl, by kernel_rfl⟩
theorem cl21 : Callable Try.prog 21 := ⟨Try.f21, Try.func21, by kernel_rfl, by kernel_rfl⟩
theorem cl5 : Callable Try.prog 5 := ⟨Try.f5, Try.func5, by kernel_rfl, by kernel_rfl⟩
theorem cl6 : Callable Try.prog 6 := ⟨Try.f6, Try.func6, by kernel_rfl, by kernel_rfl⟩
theorem cl7 : Callable Try.prog 7 := ⟨Try.f7, Try.func7, by kernel_rfl, by kernel_rfl⟩
theorem exf22 : Extern.find Try.f22 = some Extern.AbiNoEscape.same := by kernel_rfl
theorem exn22 : Extern.findNext Try.f22 = none := by kernel_rfl
theorem fd23_0 : fldOf Try.prog 23 0 = some (0, 2, 1) := by kernel_rfl
theorem fd23_1 : fldOf Try.prog 23 1 = some (1, 2, 1) := by kernel_rfl
theorem fd23_2 : fldOf Try.prog 23 2 = some (2, 3, 1) := by kernel_rfl
theorem fd37_0 : fldOf Try.prog 37 0 = some (0, 3, 1) := by kernel_rfl
theorem fd37_6 : fldOf Try.prog 37 6 = some (6, 2, 1) := by kernel_rfl
theorem fd37_7 : fldOf Try.prog 37 7 = some (7, 2, 1) := by kernel_rfl
theorem fd37_9 : fldOf Try.prog 37 9 = some (9, 35, 1) := by kernel_rfl
theorem fd43_0 : fldOf Try.prog 43 0 = some (0, 41, 1) := by kernel_rfl
theorem fd43_1 : fldOf Try.prog 43 1 = some (1, 34, 1) := by kernel_rfl
theorem fl23 : flds Try.prog 23 = some [(0, 1), (1, 1), (2, 1)] := by kernel_rfl
theorem fl37 : flds Try.prog 37 = some [(0, 1), (1, 1), (2, 1), (3, 1), (4, 1), (5, 1), (6, 1), (7, 1), (8, 1), (9, 1)] := by kernel_rfl
theorem liesB : liesAt Try.prog Try.prog.depth 43 ((bldC (.pointer none) (.slice none 0 0)).length / Try.prog.cellsOf 43) 0 43 1 = true := by kernel_rfl
theorem mix : Try.prog.follows .mixedOrders = true := by kernel_rfl
theorem sz23 : szOf Try.prog 23 = some 3 := by kernel_rfl
theorem sz3 : szOf Try.prog 3 = some 1 := by kernel_rfl
theorem sz34 : szOf Try.prog 34 = some 1 := by kernel_rfl
theorem sz37 : szOf Try.prog 37 = some 10 := by kernel_rfl
theorem sz41 : szOf Try.prog 41 = some 1 := by kernel_rfl
theorem sz43 : szOf Try.prog 43 = some 2 := by kernel_rfl
theorem sz5 : szOf Try.prog 5 = some 1 := by kernel_rfl
theorem zr23 : zeroOf Try.prog 23 = some (.agg #[.int .i64 0, .int .i64 0, .int .i64 0]) := by kernel_rfl
theorem zr3 : zeroOf Try.prog 3 = some (.int .i64 0) := by kernel_rfl
theorem zr37 : zeroOf Try.prog 37 = some (.agg #[.int .i64 0, .int .i64 0, .int .i64 0, .int .i64 0, .int .i64 0, .int .i64 0, .int .i64 0, .int .i64 0, .int .i64 0, .int .u64 0]) := by kernel_rfl
theorem zr43 : zeroOf Try.prog 43 = some (.agg #[.pointer none, .slice none 0 0]) := by kernel_rfl
theorem zr5 : zeroOf Try.prog 5 = some (.int .u8 0) := by kernel_rfl
section
variable {W0 : World}
set_option maxRecDepth 100000 in
set_option maxHeartbeats 400000 in
theorem has_s (s n : Int) (H : SHeap) (h0 : 0 ≤ s ∧ s ≤ 18446744073709551615) : AC Try.prog W0 20 [.int .u64 s, .int .i64 n] H (fun v H' => (∃ c : Bool, v = .bool c ∧ c = hasB s n) ∧ H' = H) := by
  refine ac_of Try.func20 rfl rfl rfl ?_
  refine aw_seq_region ?_
  refine sr_as ?_
  refine sr_nil ?_
  refine aw_kp [0, 1, 4] ?_
  refine aw_seq_region ?_
  refine sr_mv ?_
  refine sr_c (x_ge rfl rfl) (fun h1 => ?_) (fun h1 => ?_)
  · refine sr_mv ?_
    refine sr_ry (x_move rfl) ?_
    refine sr_cy (x_lt rfl rfl) (fun h2 => ?_) (fun h2 => ?_)
    · refine sr_rd (x_pick_t rfl rfl rfl) ?_
      refine sr_mv ?_
      refine sr_ry (x_move rfl) ?_
      refine sr_ry (x_move rfl) ?_
      refine sr_ry (x_shrU rfl rfl (by omega) (by omega)) ?_
      refine sr_ry (x_cast (u := .int .u64 ((s.toNat >>> n.toNat &&& 1 : Nat) : Int)) (x_andU rfl rfl (by have := Nat.shiftRight_le s.toNat n.toNat; generalize s.toNat >>> n.toNat = m at *; omega) (by omega)) rfl) ?_
      refine sr_cy (x_eq rfl rfl) (fun h3 => ?_) (fun h3 => ?_)
      · refine sr_rd (x_pick_t rfl rfl rfl) ?_
        refine sr_as ?_
        refine sr_nil ?_
        refine aw_kp [4] ?_
        refine aw_ret ?_
        show ∃ v H2, ResV _ _ _ _ _ _ v ∧ Sub H2 _ ∧ _
        exact ⟨_, H, resV rfl (.cons rfl .nil), (by repeat (first | exact Sub.refl _ | apply Sub.drop)), ⟨⟨_, rfl, by first | (have hb := (bit1 s.toNat n.toNat).1 (by assumption); simp [hasB, hb]; omega) | (have hb := mt (bit1 s.toNat n.toNat).2 (by assumption); simp [hasB]; intros; simpa using hb) | (simp [hasB]; omega)⟩, rfl⟩⟩
      · refine sr_rd (x_pick_t rfl rfl rfl) ?_
        refine sr_as ?_
        refine sr_nil ?_
        refine aw_kp [4] ?_
        refine aw_ret ?_
        show ∃ v H2, ResV _ _ _ _ _ _ v ∧ Sub H2 _ ∧ _
        exact ⟨_, H, resV rfl (.cons rfl .nil), (by repeat (first | exact Sub.refl _ | apply Sub.drop)), ⟨⟨_, rfl, by first | (have hb := (bit1 s.toNat n.toNat).1 (by assumption); simp [hasB, hb]; omega) | (have hb := mt (bit1 s.toNat n.toNat).2 (by assumption); simp [hasB]; intros; simpa using hb) | (simp [hasB]; omega)⟩, rfl⟩⟩
    · refine sr_rd (x_pick_t rfl rfl rfl) ?_
      refine sr_mv ?_
      refine sr_sk ?_
      refine sr_sk ?_
      refine sr_sk ?_
      refine sr_sk ?_
      refine sr_sk ?_
      refine sr_rd (x_pick_f rfl rfl rfl) ?_
      refine sr_as ?_
      refine sr_nil ?_
      refine aw_kp [4] ?_
      refine aw_ret ?_
      show ∃ v H2, ResV _ _ _ _ _ _ v ∧ Sub H2 _ ∧ _
      exact ⟨_, H, resV rfl (.cons rfl .nil), (by repeat (first | exact Sub.refl _ | apply Sub.drop)), ⟨⟨_, rfl, by first | (have hb := (bit1 s.toNat n.toNat).1 (by assumption); simp [hasB, hb]; omega) | (have hb := mt (bit1 s.toNat n.toNat).2 (by assumption); simp [hasB]; intros; simpa using hb) | (simp [hasB]; omega)⟩, rfl⟩⟩
  · refine sr_mv ?_
    refine sr_sk ?_
    refine sr_sk ?_
    refine sr_rd (x_pick_f rfl rfl rfl) ?_
    refine sr_mv ?_
    refine sr_sk ?_
    refine sr_sk ?_
    refine sr_sk ?_
    refine sr_sk ?_
    refine sr_sk ?_
    refine sr_rd (x_pick_f rfl rfl rfl) ?_
    refine sr_as ?_
    refine sr_nil ?_
    refine aw_kp [4] ?_
    refine aw_ret ?_
    show ∃ v H2, ResV _ _ _ _ _ _ v ∧ Sub H2 _ ∧ _
    exact ⟨_, H, resV rfl (.cons rfl .nil), (by repeat (first | exact Sub.refl _ | apply Sub.drop)), ⟨⟨_, rfl, by first | (have hb := (bit1 s.toNat n.toNat).1 (by assumption); simp [hasB, hb]; omega) | (have hb := mt (bit1 s.toNat n.toNat).2 (by assumption); simp [hasB]; intros; simpa using hb) | (simp [hasB]; omega)⟩, rfl⟩⟩
set_option maxRecDepth 100000 in
set_option maxHeartbeats 400000 in
theorem few_s (a : Option Addr) (cap : Nat) (xs : List Job) (H : SHeap) (hle : xs.length ≤ cap) (hcb : cap ≤ 9223372036854775807) : AC Try.prog W0 4 [.slice a xs.length cap] H (fun v H' => v = .slice a (xs.take 20).length cap ∧ H' = H) := by
  refine ac_of Try.func4 rfl rfl rfl ?_
  refine aw_seq_region ?_
  refine sr_as ?_
  refine sr_nil ?_
  refine aw_kp [0, 2] ?_
  refine aw_seq ?_
  refine aw_seq_region ?_
  refine sr_mv ?_
  refine sr_rd (x_lenSlice Try.underlying24 rfl) ?_
  refine sr_c (x_gt rfl rfl) (fun h1 => ?_) (fun h1 => ?_)
  · refine sr_nil ?_
    refine aw_kp [0, 2, 5] ?_
    refine aw_true rfl ?_
    refine aw_seq_region ?_
    refine sr_mv ?_
    refine sr_rd (x_sliceHi Try.underlying24 sz37 rfl rfl (by omega) (by omega)) ?_
    refine sr_as ?_
    refine sr_nil ?_
    refine aw_kp [0, 2] ?_
    refine aw_ret ?_
    show ∃ v H2, ResV _ _ _ _ _ _ v ∧ Sub H2 _ ∧ _
    exact ⟨_, H, resV rfl (.cons rfl .nil), (by repeat (first | exact Sub.refl _ | apply Sub.drop)), ⟨by simp only [pack, List.length_take]; congr 1; omega, rfl⟩⟩
  · refine sr_nil ?_
    refine aw_kp [0, 2, 5] ?_
    refine aw_false rfl ?_
    refine aw_skip ?_
    show AW _ _ _ _ _ _ _
    refine aw_seq_region ?_
    refine sr_mv ?_
    refine sr_as ?_
    refine sr_nil ?_
    refine aw_kp [2] ?_
    refine aw_ret ?_
    show ∃ v H2, ResV _ _ _ _ _ _ v ∧ Sub H2 _ ∧ _
    exact ⟨_, H, resV rfl (.cons rfl .nil), (by repeat (first | exact Sub.refl _ | apply Sub.drop)), ⟨by simp only [pack, List.length_take]; congr 1; omega, rfl⟩⟩
set_option maxRecDepth 100000 in
set_option maxHeartbeats 400000 in
theorem right_s (c : Chart) (H : SHeap) : AC Try.prog W0 5 [c.v] H (fun v H' => v = .bool (decide c.Right) ∧ H' = H) := by
  refine ac_of Try.func5 rfl rfl rfl ?_
  refine aw_seq_region ?_
  refine sr_new rfl (wtd_none rfl) rfl (x_box rfl rfl) ?_
  intro r0_0 hr0_0 gr0_0
  refine sr_as ?_
  refine sr_nil ?_
  refine aw_kp [1, 2] ?_
  refine aw_seq_region ?_
  refine sr_rd (x_fieldAddr fd23_0 rfl) ?_
  refine sr_rd (x_load ag2 rfl (cells_ext mauto Ext.auto)) ?_
  refine sr_c (x_ge rfl rfl) (fun h1 => ?_) (fun h1 => ?_)
  · refine sr_mv ?_
    refine sr_ry (x_fieldAddr fd23_0 rfl) ?_
    refine sr_ry (x_load ag2 rfl (cells_ext mauto Ext.auto)) ?_
    refine sr_cy (x_le rfl rfl) (fun h2 => ?_) (fun h2 => ?_)
    · refine sr_rd (x_pick_t rfl rfl rfl) ?_
      refine sr_mv ?_
      refine sr_ry (x_fieldAddr fd23_1 rfl) ?_
      refine sr_ry (x_load ag2 rfl (cells_ext mauto Ext.auto)) ?_
      refine sr_cy (x_ge rfl rfl) (fun h3 => ?_) (fun h3 => ?_)
      · refine sr_rd (x_pick_t rfl rfl rfl) ?_
        refine sr_mv ?_
        refine sr_ry (x_fieldAddr fd23_1 rfl) ?_
        refine sr_ry (x_load ag2 rfl (cells_ext mauto Ext.auto)) ?_
        refine sr_cy (x_le rfl rfl) (fun h4 => ?_) (fun h4 => ?_)
        · refine sr_rd (x_pick_t rfl rfl rfl) ?_
          refine sr_mv ?_
          refine sr_ry (x_fieldAddr fd23_2 rfl) ?_
          refine sr_ry (x_load ag3 rfl (cells_ext mauto Ext.auto)) ?_
          refine sr_cy (x_ge rfl rfl) (fun h5 => ?_) (fun h5 => ?_)
          · refine sr_rd (x_pick_t rfl rfl rfl) ?_
            refine sr_mv ?_
            refine sr_ry (x_fieldAddr fd23_2 rfl) ?_
            refine sr_ry (x_load ag3 rfl (cells_ext mauto Ext.auto)) ?_
            refine sr_cy (x_le rfl rfl) (fun h6 => ?_) (fun h6 => ?_)
            · refine sr_rd (x_pick_t rfl rfl rfl) ?_
              refine sr_as ?_
              refine sr_nil ?_
              refine aw_kp [2] ?_
              refine aw_ret ?_
              show ∃ v H2, ResV _ _ _ _ _ _ v ∧ Sub H2 _ ∧ _
              exact ⟨_, H, resV rfl (.cons rfl .nil), Sub.autoP, ⟨congrArg Value.bool (by first | exact (decide_eq_true (p := c.Right) (by unfold Chart.Right; omega)).symm | exact (decide_eq_false (p := c.Right) (by unfold Chart.Right; omega)).symm), rfl⟩⟩
            · refine sr_rd (x_pick_t rfl rfl rfl) ?_
              refine sr_as ?_
              refine sr_nil ?_
              refine aw_kp [2] ?_
              refine aw_ret ?_
              show ∃ v H2, ResV _ _ _ _ _ _ v ∧ Sub H2 _ ∧ _
              exact ⟨_, H, resV rfl (.cons rfl .nil), Sub.autoP, ⟨congrArg Value.bool (by first | exact (decide_eq_true (p := c.Right) (by unfold Chart.Right; omega)).symm | exact (decide_eq_false (p := c.Right) (by unfold Chart.Right; omega)).symm), rfl⟩⟩
          · refine sr_rd (x_pick_t rfl rfl rfl) ?_
            refine sr_mv ?_
            refine sr_sk ?_
            refine sr_sk ?_
            refine sr_sk ?_
            refine sr_rd (x_pick_f rfl rfl rfl) ?_
            refine sr_as ?_
            refine sr_nil ?_
            refine aw_kp [2] ?_
            refine aw_ret ?_
            show ∃ v H2, ResV _ _ _ _ _ _ v ∧ Sub H2 _ ∧ _
            exact ⟨_, H, resV rfl (.cons rfl .nil), Sub.autoP, ⟨congrArg Value.bool (by first | exact (decide_eq_true (p := c.Right) (by unfold Chart.Right; omega)).symm | exact (decide_eq_false (p := c.Right) (by unfold Chart.Right; omega)).symm), rfl⟩⟩
        · refine sr_rd (x_pick_t rfl rfl rfl) ?_
          refine sr_mv ?_
          refine sr_sk ?_
          refine sr_sk ?_
          refine sr_sk ?_
          refine sr_rd (x_pick_f rfl rfl rfl) ?_
          refine sr_mv ?_
          refine sr_sk ?_
          refine sr_sk ?_
          refine sr_sk ?_
          refine sr_rd (x_pick_f rfl rfl rfl) ?_
          refine sr_as ?_
          refine sr_nil ?_
          refine aw_kp [2] ?_
          refine aw_ret ?_
          show ∃ v H2, ResV _ _ _ _ _ _ v ∧ Sub H2 _ ∧ _
          exact ⟨_, H, resV rfl (.cons rfl .nil), Sub.autoP, ⟨congrArg Value.bool (by first | exact (decide_eq_true (p := c.Right) (by unfold Chart.Right; omega)).symm | exact (decide_eq_false (p := c.Right) (by unfold Chart.Right; omega)).symm), rfl⟩⟩
      · refine sr_rd (x_pick_t rfl rfl rfl) ?_
        refine sr_mv ?_
        refine sr_sk ?_
        refine sr_sk ?_
        refine sr_sk ?_
        refine sr_rd (x_pick_f rfl rfl rfl) ?_
        refine sr_mv ?_
        refine sr_sk ?_
        refine sr_sk ?_
        refine sr_sk ?_
        refine sr_rd (x_pick_f rfl rfl rfl) ?_
        refine sr_mv ?_
        refine sr_sk ?_
        refine sr_sk ?_
        refine sr_sk ?_
        refine sr_rd (x_pick_f rfl rfl rfl) ?_
        refine sr_as ?_
        refine sr_nil ?_
        refine aw_kp [2] ?_
        refine aw_ret ?_
        show ∃ v H2, ResV _ _ _ _ _ _ v ∧ Sub H2 _ ∧ _
        exact ⟨_, H, resV rfl (.cons rfl .nil), Sub.autoP, ⟨congrArg Value.bool (by first | exact (decide_eq_true (p := c.Right) (by unfold Chart.Right; omega)).symm | exact (decide_eq_false (p := c.Right) (by unfold Chart.Right; omega)).symm), rfl⟩⟩
    · refine sr_rd (x_pick_t rfl rfl rfl) ?_
      refine sr_mv ?_
      refine sr_sk ?_
      refine sr_sk ?_
      refine sr_sk ?_
      refine sr_rd (x_pick_f rfl rfl rfl) ?_
      refine sr_mv ?_
      refine sr_sk ?_
      refine sr_sk ?_
      refine sr_sk ?_
      refine sr_rd (x_pick_f rfl rfl rfl) ?_
      refine sr_mv ?_
      refine sr_sk ?_
      refine sr_sk ?_
      refine sr_sk ?_
      refine sr_rd (x_pick_f rfl rfl rfl) ?_
      refine sr_mv ?_
      refine sr_sk ?_
      refine sr_sk ?_
      refine sr_sk ?_
      refine sr_rd (x_pick_f rfl rfl rfl) ?_
      refine sr_as ?_
      refine sr_nil ?_
      refine aw_kp [2] ?_
      refine aw_ret ?_
      show ∃ v H2, ResV _ _ _ _ _ _ v ∧ Sub H2 _ ∧ _
      exact ⟨_, H, resV rfl (.cons rfl .nil), Sub.autoP, ⟨congrArg Value.bool (by first | exact (decide_eq_true (p := c.Right) (by unfold Chart.Right; omega)).symm | exact (decide_eq_false (p := c.Right) (by unfold Chart.Right; omega)).symm), rfl⟩⟩
  · refine sr_mv ?_
    refine sr_sk ?_
    refine sr_sk ?_
    refine sr_sk ?_
    refine sr_rd (x_pick_f rfl rfl rfl) ?_
    refine sr_mv ?_
    refine sr_sk ?_
    refine sr_sk ?_
    refine sr_sk ?_
    refine sr_rd (x_pick_f rfl rfl rfl) ?_
    refine sr_mv ?_
    refine sr_sk ?_
    refine sr_sk ?_
    refine sr_sk ?_
    refine sr_rd (x_pick_f rfl rfl rfl) ?_
    refine sr_mv ?_
    refine sr_sk ?_
    refine sr_sk ?_
    refine sr_sk ?_
    refine sr_rd (x_pick_f rfl rfl rfl) ?_
    refine sr_mv ?_
    refine sr_sk ?_
    refine sr_sk ?_
    refine sr_sk ?_
    refine sr_rd (x_pick_f rfl rfl rfl) ?_
    refine sr_as ?_
    refine sr_nil ?_
    refine aw_kp [2] ?_
    refine aw_ret ?_
    show ∃ v H2, ResV _ _ _ _ _ _ v ∧ Sub H2 _ ∧ _
    exact ⟨_, H, resV rfl (.cons rfl .nil), Sub.autoP, ⟨congrArg Value.bool (by first | exact (decide_eq_true (p := c.Right) (by unfold Chart.Right; omega)).symm | exact (decide_eq_false (p := c.Right) (by unfold Chart.Right; omega)).symm), rfl⟩⟩
set_option maxRecDepth 100000 in
set_option maxHeartbeats 400000 in
theorem lright_s (c : Chart) (H : SHeap) : AC Try.prog W0 6 [c.v] H (fun v H' => v = .bool (decide c.Right) ∧ H' = H) := by
  refine ac_of Try.func6 rfl rfl rfl ?_
  refine aw_seq_region ?_
  refine sr_new rfl (wtd_none rfl) rfl (x_box rfl rfl) ?_
  intro r0_0 hr0_0 gr0_0
  refine sr_as ?_
  refine sr_nil ?_
  refine aw_kp [1, 2] ?_
  refine aw_seq_region ?_
  refine sr_rd (x_fieldAddr fd23_0 rfl) ?_
  refine sr_rd (x_load ag2 rfl (cells_ext mauto Ext.auto)) ?_
  refine sr_c (x_ge rfl rfl) (fun h1 => ?_) (fun h1 => ?_)
  · refine sr_mv ?_
    refine sr_ry (x_fieldAddr fd23_0 rfl) ?_
    refine sr_ry (x_load ag2 rfl (cells_ext mauto Ext.auto)) ?_
    refine sr_cy (x_le rfl rfl) (fun h2 => ?_) (fun h2 => ?_)
    · refine sr_rd (x_pick_t rfl rfl rfl) ?_
      refine sr_mv ?_
      refine sr_ry (x_fieldAddr fd23_1 rfl) ?_
      refine sr_ry (x_load ag2 rfl (cells_ext mauto Ext.auto)) ?_
      refine sr_cy (x_ge rfl rfl) (fun h3 => ?_) (fun h3 => ?_)
      · refine sr_rd (x_pick_t rfl rfl rfl) ?_
        refine sr_mv ?_
        refine sr_ry (x_fieldAddr fd23_1 rfl) ?_
        refine sr_ry (x_load ag2 rfl (cells_ext mauto Ext.auto)) ?_
        refine sr_cy (x_le rfl rfl) (fun h4 => ?_) (fun h4 => ?_)
        · refine sr_rd (x_pick_t rfl rfl rfl) ?_
          refine sr_mv ?_
          refine sr_ry (x_fieldAddr fd23_2 rfl) ?_
          refine sr_ry (x_load ag3 rfl (cells_ext mauto Ext.auto)) ?_
          refine sr_cy (x_ge rfl rfl) (fun h5 => ?_) (fun h5 => ?_)
          · refine sr_rd (x_pick_t rfl rfl rfl) ?_
            refine sr_mv ?_
            refine sr_ry (x_fieldAddr fd23_2 rfl) ?_
            refine sr_ry (x_load ag3 rfl (cells_ext mauto Ext.auto)) ?_
            refine sr_cy (x_le rfl rfl) (fun h6 => ?_) (fun h6 => ?_)
            · refine sr_rd (x_pick_t rfl rfl rfl) ?_
              refine sr_as ?_
              refine sr_nil ?_
              refine aw_kp [2] ?_
              refine aw_ret ?_
              show ∃ v H2, ResV _ _ _ _ _ _ v ∧ Sub H2 _ ∧ _
              exact ⟨_, H, resV rfl (.cons rfl .nil), Sub.autoP, ⟨congrArg Value.bool (by first | exact (decide_eq_true (p := c.Right) (by unfold Chart.Right; omega)).symm | exact (decide_eq_false (p := c.Right) (by unfold Chart.Right; omega)).symm), rfl⟩⟩
            · refine sr_rd (x_pick_t rfl rfl rfl) ?_
              refine sr_as ?_
              refine sr_nil ?_
              refine aw_kp [2] ?_
              refine aw_ret ?_
              show ∃ v H2, ResV _ _ _ _ _ _ v ∧ Sub H2 _ ∧ _
              exact ⟨_, H, resV rfl (.cons rfl .nil), Sub.autoP, ⟨congrArg Value.bool (by first | exact (decide_eq_true (p := c.Right) (by unfold Chart.Right; omega)).symm | exact (decide_eq_false (p := c.Right) (by unfold Chart.Right; omega)).symm), rfl⟩⟩
          · refine sr_rd (x_pick_t rfl rfl rfl) ?_
            refine sr_mv ?_
            refine sr_sk ?_
            refine sr_sk ?_
            refine sr_sk ?_
            refine sr_rd (x_pick_f rfl rfl rfl) ?_
            refine sr_as ?_
            refine sr_nil ?_
            refine aw_kp [2] ?_
            refine aw_ret ?_
            show ∃ v H2, ResV _ _ _ _ _ _ v ∧ Sub H2 _ ∧ _
            exact ⟨_, H, resV rfl (.cons rfl .nil), Sub.autoP, ⟨congrArg Value.bool (by first | exact (decide_eq_true (p := c.Right) (by unfold Chart.Right; omega)).symm | exact (decide_eq_false (p := c.Right) (by unfold Chart.Right; omega)).symm), rfl⟩⟩
        · refine sr_rd (x_pick_t rfl rfl rfl) ?_
          refine sr_mv ?_
          refine sr_sk ?_
          refine sr_sk ?_
          refine sr_sk ?_
          refine sr_rd (x_pick_f rfl rfl rfl) ?_
          refine sr_mv ?_
          refine sr_sk ?_
          refine sr_sk ?_
          refine sr_sk ?_
          refine sr_rd (x_pick_f rfl rfl rfl) ?_
          refine sr_as ?_
          refine sr_nil ?_
          refine aw_kp [2] ?_
          refine aw_ret ?_
          show ∃ v H2, ResV _ _ _ _ _ _ v ∧ Sub H2 _ ∧ _
          exact ⟨_, H, resV rfl (.cons rfl .nil), Sub.autoP, ⟨congrArg Value.bool (by first | exact (decide_eq_true (p := c.Right) (by unfold Chart.Right; omega)).symm | exact (decide_eq_false (p := c.Right) (by unfold Chart.Right; omega)).symm), rfl⟩⟩
      · refine sr_rd (x_pick_t rfl rfl rfl) ?_
        refine sr_mv ?_
        refine sr_sk ?_
        refine sr_sk ?_
        refine sr_sk ?_
        refine sr_rd (x_pick_f rfl rfl rfl) ?_
        refine sr_mv ?_
        refine sr_sk ?_
        refine sr_sk ?_
        refine sr_sk ?_
        refine sr_rd (x_pick_f rfl rfl rfl) ?_
        refine sr_mv ?_
        refine sr_sk ?_
        refine sr_sk ?_
        refine sr_sk ?_
        refine sr_rd (x_pick_f rfl rfl rfl) ?_
        refine sr_as ?_
        refine sr_nil ?_
        refine aw_kp [2] ?_
        refine aw_ret ?_
        show ∃ v H2, ResV _ _ _ _ _ _ v ∧ Sub H2 _ ∧ _
        exact ⟨_, H, resV rfl (.cons rfl .nil), Sub.autoP, ⟨congrArg Value.bool (by first | exact (decide_eq_true (p := c.Right) (by unfold Chart.Right; omega)).symm | exact (decide_eq_false (p := c.Right) (by unfold Chart.Right; omega)).symm), rfl⟩⟩
    · refine sr_rd (x_pick_t rfl rfl rfl) ?_
      refine sr_mv ?_
      refine sr_sk ?_
      refine sr_sk ?_
      refine sr_sk ?_
      refine sr_rd (x_pick_f rfl rfl rfl) ?_
      refine sr_mv ?_
      refine sr_sk ?_
      refine sr_sk ?_
      refine sr_sk ?_
      refine sr_rd (x_pick_f rfl rfl rfl) ?_
      refine sr_mv ?_
      refine sr_sk ?_
      refine sr_sk ?_
      refine sr_sk ?_
      refine sr_rd (x_pick_f rfl rfl rfl) ?_
      refine sr_mv ?_
      refine sr_sk ?_
      refine sr_sk ?_
      refine sr_sk ?_
      refine sr_rd (x_pick_f rfl rfl rfl) ?_
      refine sr_as ?_
      refine sr_nil ?_
      refine aw_kp [2] ?_
      refine aw_ret ?_
      show ∃ v H2, ResV _ _ _ _ _ _ v ∧ Sub H2 _ ∧ _
      exact ⟨_, H, resV rfl (.cons rfl .nil), Sub.autoP, ⟨congrArg Value.bool (by first | exact (decide_eq_true (p := c.Right) (by unfold Chart.Right; omega)).symm | exact (decide_eq_false (p := c.Right) (by unfold Chart.Right; omega)).symm), rfl⟩⟩
  · refine sr_mv ?_
    refine sr_sk ?_
    refine sr_sk ?_
    refine sr_sk ?_
    refine sr_rd (x_pick_f rfl rfl rfl) ?_
    refine sr_mv ?_
    refine sr_sk ?_
    refine sr_sk ?_
    refine sr_sk ?_
    refine sr_rd (x_pick_f rfl rfl rfl) ?_
    refine sr_mv ?_
    refine sr_sk ?_
    refine sr_sk ?_
    refine sr_sk ?_
    refine sr_rd (x_pick_f rfl rfl rfl) ?_
    refine sr_mv ?_
    refine sr_sk ?_
    refine sr_sk ?_
    refine sr_sk ?_
    refine sr_rd (x_pick_f rfl rfl rfl) ?_
    refine sr_mv ?_
    refine sr_sk ?_
    refine sr_sk ?_
    refine sr_sk ?_
    refine sr_rd (x_pick_f rfl rfl rfl) ?_
    refine sr_as ?_
    refine sr_nil ?_
    refine aw_kp [2] ?_
    refine aw_ret ?_
    show ∃ v H2, ResV _ _ _ _ _ _ v ∧ Sub H2 _ ∧ _
    exact ⟨_, H, resV rfl (.cons rfl .nil), Sub.autoP, ⟨congrArg Value.bool (by first | exact (decide_eq_true (p := c.Right) (by unfold Chart.Right; omega)).symm | exact (decide_eq_false (p := c.Right) (by unfold Chart.Right; omega)).symm), rfl⟩⟩
set_option maxRecDepth 100000 in
set_option maxHeartbeats 400000 in
theorem at_s (c : Chart) (k : Int) (H : SHeap) (hr : c.Right) (hk : 0 ≤ k ∧ k ≤ 120) : AC Try.prog W0 12 [c.v, .int .i64 k] H (fun v H' => v = .int .i64 (c.from_ + k * c.column) ∧ H' = H) := by
  have hm := time_bd hr hk.1 hk.2
  obtain ⟨q1, q2, q3, q4, q5, q6⟩ := hr
  refine ac_of Try.func12 rfl rfl rfl ?_
  refine aw_seq_region ?_
  refine sr_new rfl (wtd_none rfl) rfl (x_box rfl rfl) ?_
  intro r0_0 hr0_0 gr0_0
  refine sr_as ?_
  refine sr_nil ?_
  refine aw_kp [1, 2, 4] ?_
  refine aw_seq_region ?_
  refine sr_rd (x_fieldAddr fd23_0 rfl) ?_
  refine sr_rd (x_load ag2 rfl (cells_ext mauto Ext.auto)) ?_
  refine sr_mv ?_
  refine sr_rd (x_fieldAddr fd23_1 rfl) ?_
  refine sr_rd (x_load ag2 rfl (cells_ext mauto Ext.auto)) ?_
  refine sr_rd (x_mul' rfl rfl (i64w (by omega) (by omega))) ?_
  refine sr_rd (x_add' rfl rfl (i64w (by omega) (by omega))) ?_
  refine sr_as ?_
  refine sr_nil ?_
  refine aw_kp [4] ?_
  refine aw_ret ?_
  show ∃ v H2, ResV _ _ _ _ _ _ v ∧ Sub H2 _ ∧ _
  exact ⟨_, H, resV rfl (.cons rfl .nil), Sub.autoP, ⟨rfl, rfl⟩⟩
set_option maxRecDepth 100000 in
set_option maxHeartbeats 400000 in
theorem had_s (j : Job) (n t : Int) (H : SHeap) (hw : j.Wf) : AC Try.prog W0 13 [j.v, .int .i64 n, .int .i64 t] H (fun v H' => (∃ b : Bool, v = .bool b ∧ b = hadB j n t) ∧ H' = H) := by
  unfold Job.Wf at hw
  rw [u64_min, u64_max] at hw
  refine ac_of Try.func13 rfl rfl rfl ?_
  refine aw_seq_region ?_
  refine sr_new rfl (wtd_none rfl) rfl (x_box rfl rfl) ?_
  intro r0_0 hr0_0 gr0_0
  refine sr_as ?_
  refine sr_nil ?_
  refine aw_kp [1, 2, 3, 6] ?_
  refine aw_seq_region ?_
  refine sr_rd (x_fieldAddr fd37_6 rfl) ?_
  refine sr_rd (x_load ag2 rfl (cells_ext mauto Ext.auto)) ?_
  refine sr_c (x_ge rfl rfl) (fun h1 => ?_) (fun h1 => ?_)
  · refine sr_mv ?_
    refine sr_ry (x_fieldAddr fd37_6 rfl) ?_
    refine sr_ry (x_load ag2 rfl (cells_ext mauto Ext.auto)) ?_
    refine sr_ry (x_move rfl) ?_
    refine sr_cy (x_le rfl rfl) (fun h2 => ?_) (fun h2 => ?_)
    · refine sr_rd (x_pick_t rfl rfl rfl) ?_
      refine sr_mv ?_
      refine sr_ry (x_move rfl) ?_
      refine sr_ry (x_fieldAddr fd37_7 rfl) ?_
      refine sr_ry (x_load ag2 rfl (cells_ext mauto Ext.auto)) ?_
      refine sr_cy (x_lt rfl rfl) (fun h3 => ?_) (fun h3 => ?_)
      · refine sr_rd (x_pick_t rfl rfl rfl) ?_
        refine sr_mv ?_
        refine sr_ry (x_fieldAddr fd37_9 rfl) ?_
        refine sr_ry (x_load ag35 rfl (cells_ext mauto Ext.auto)) ?_
        refine sr_ry (x_move rfl) ?_
        refine sr_d rfl (wtd_yes rfl rfl rfl) rfl (opS_call rfl rfl rfl rfl cl20 (has_s _ _ _ (by omega))) ?_
        rintro _ _ ⟨⟨c, rfl, hc⟩, rfl⟩
        cases c
        · refine sr_rd (x_pick_t rfl rfl rfl) ?_
          refine sr_as ?_
          refine sr_nil ?_
          refine aw_kp [6] ?_
          refine aw_ret ?_
          show ∃ v H2, ResV _ _ _ _ _ _ v ∧ Sub H2 _ ∧ _
          exact ⟨_, H, resV rfl (.cons rfl .nil), (by repeat (first | exact Sub.refl _ | apply Sub.drop)), ⟨⟨_, rfl, by unfold hadB; first | (rw [← hc]; simp; done) | (rw [← hc]; simp; omega) | (simp; omega)⟩, rfl⟩⟩
        · refine sr_rd (x_pick_t rfl rfl rfl) ?_
          refine sr_as ?_
          refine sr_nil ?_
          refine aw_kp [6] ?_
          refine aw_ret ?_
          show ∃ v H2, ResV _ _ _ _ _ _ v ∧ Sub H2 _ ∧ _
          exact ⟨_, H, resV rfl (.cons rfl .nil), (by repeat (first | exact Sub.refl _ | apply Sub.drop)), ⟨⟨_, rfl, by unfold hadB; first | (rw [← hc]; simp; done) | (rw [← hc]; simp; omega) | (simp; omega)⟩, rfl⟩⟩
      · refine sr_rd (x_pick_t rfl rfl rfl) ?_
        refine sr_mv ?_
        refine sr_sk ?_
        refine sr_sk ?_
        refine sr_sk ?_
        refine sr_sk ?_
        refine sr_rd (x_pick_f rfl rfl rfl) ?_
        refine sr_as ?_
        refine sr_nil ?_
        refine aw_kp [6] ?_
        refine aw_ret ?_
        show ∃ v H2, ResV _ _ _ _ _ _ v ∧ Sub H2 _ ∧ _
        exact ⟨_, H, resV rfl (.cons rfl .nil), (by repeat (first | exact Sub.refl _ | apply Sub.drop)), ⟨⟨_, rfl, by unfold hadB; first | (rw [← hc]; simp; done) | (rw [← hc]; simp; omega) | (simp; omega)⟩, rfl⟩⟩
    · refine sr_rd (x_pick_t rfl rfl rfl) ?_
      refine sr_mv ?_
      refine sr_sk ?_
      refine sr_sk ?_
      refine sr_sk ?_
      refine sr_sk ?_
      refine sr_rd (x_pick_f rfl rfl rfl) ?_
      refine sr_mv ?_
      refine sr_sk ?_
      refine sr_sk ?_
      refine sr_sk ?_
      refine sr_sk ?_
      refine sr_rd (x_pick_f rfl rfl rfl) ?_
      refine sr_as ?_
      refine sr_nil ?_
      refine aw_kp [6] ?_
      refine aw_ret ?_
      show ∃ v H2, ResV _ _ _ _ _ _ v ∧ Sub H2 _ ∧ _
      exact ⟨_, H, resV rfl (.cons rfl .nil), (by repeat (first | exact Sub.refl _ | apply Sub.drop)), ⟨⟨_, rfl, by unfold hadB; first | (rw [← hc]; simp; done) | (rw [← hc]; simp; omega) | (simp; omega)⟩, rfl⟩⟩
  · refine sr_mv ?_
    refine sr_sk ?_
    refine sr_sk ?_
    refine sr_sk ?_
    refine sr_sk ?_
    refine sr_rd (x_pick_f rfl rfl rfl) ?_
    refine sr_mv ?_
    refine sr_sk ?_
    refine sr_sk ?_
    refine sr_sk ?_
    refine sr_sk ?_
    refine sr_rd (x_pick_f rfl rfl rfl) ?_
    refine sr_mv ?_
    refine sr_sk ?_
    refine sr_sk ?_
    refine sr_sk ?_
    refine sr_sk ?_
    refine sr_rd (x_pick_f rfl rfl rfl) ?_
    refine sr_as ?_
    refine sr_nil ?_
    refine aw_kp [6] ?_
    refine aw_ret ?_
    show ∃ v H2, ResV _ _ _ _ _ _ v ∧ Sub H2 _ ∧ _
    exact ⟨_, H, resV rfl (.cons rfl .nil), (by repeat (first | exact Sub.refl _ | apply Sub.drop)), ⟨⟨_, rfl, by unfold hadB; first | (rw [← hc]; simp; done) | (rw [← hc]; simp; omega) | (simp; omega)⟩, rfl⟩⟩
set_option maxRecDepth 100000 in
set_option maxHeartbeats 400000 in
theorem lhad_s (j : Job) (n t : Int) (H : SHeap) (hw : j.Wf) : AC Try.prog W0 15 [j.v, .int .i64 n, .int .i64 t] H (fun v H' => (∃ b : Bool, v = .bool b ∧ b = hadB j n t) ∧ H' = H) := by
  unfold Job.Wf at hw
  rw [u64_min, u64_max] at hw
  refine ac_of Try.func15 rfl rfl rfl ?_
  refine aw_seq_region ?_
  refine sr_new rfl (wtd_none rfl) rfl (x_box rfl rfl) ?_
  intro r0_0 hr0_0 gr0_0
  refine sr_as ?_
  refine sr_nil ?_
  refine aw_kp [1, 2, 3, 6] ?_
  refine aw_seq_region ?_
  refine sr_rd (x_fieldAddr fd37_6 rfl) ?_
  refine sr_rd (x_load ag2 rfl (cells_ext mauto Ext.auto)) ?_
  refine sr_c (x_ge rfl rfl) (fun h1 => ?_) (fun h1 => ?_)
  · refine sr_mv ?_
    refine sr_ry (x_fieldAddr fd37_6 rfl) ?_
    refine sr_ry (x_load ag2 rfl (cells_ext mauto Ext.auto)) ?_
    refine sr_ry (x_move rfl) ?_
    refine sr_cy (x_le rfl rfl) (fun h2 => ?_) (fun h2 => ?_)
    · refine sr_rd (x_pick_t rfl rfl rfl) ?_
      refine sr_mv ?_
      refine sr_ry (x_move rfl) ?_
      refine sr_ry (x_fieldAddr fd37_7 rfl) ?_
      refine sr_ry (x_load ag2 rfl (cells_ext mauto Ext.auto)) ?_
      refine sr_cy (x_lt rfl rfl) (fun h3 => ?_) (fun h3 => ?_)
      · refine sr_rd (x_pick_t rfl rfl rfl) ?_
        refine sr_mv ?_
        refine sr_ry (x_fieldAddr fd37_9 rfl) ?_
        refine sr_ry (x_load ag35 rfl (cells_ext mauto Ext.auto)) ?_
        refine sr_ry (x_move rfl) ?_
        refine sr_d rfl (wtd_yes rfl rfl rfl) rfl (opS_call rfl rfl rfl rfl cl20 (has_s _ _ _ (by omega))) ?_
        rintro _ _ ⟨⟨c, rfl, hc⟩, rfl⟩
        cases c
        · refine sr_rd (x_pick_t rfl rfl rfl) ?_
          refine sr_as ?_
          refine sr_nil ?_
          refine aw_kp [6] ?_
          refine aw_ret ?_
          show ∃ v H2, ResV _ _ _ _ _ _ v ∧ Sub H2 _ ∧ _
          exact ⟨_, H, resV rfl (.cons rfl .nil), (by repeat (first | exact Sub.refl _ | apply Sub.drop)), ⟨⟨_, rfl, by unfold hadB; first | (rw [← hc]; simp; done) | (rw [← hc]; simp; omega) | (simp; omega)⟩, rfl⟩⟩
        · refine sr_rd (x_pick_t rfl rfl rfl) ?_
          refine sr_as ?_
          refine sr_nil ?_
          refine aw_kp [6] ?_
          refine aw_ret ?_
          show ∃ v H2, ResV _ _ _ _ _ _ v ∧ Sub H2 _ ∧ _
          exact ⟨_, H, resV rfl (.cons rfl .nil), (by repeat (first | exact Sub.refl _ | apply Sub.drop)), ⟨⟨_, rfl, by unfold hadB; first | (rw [← hc]; simp; done) | (rw [← hc]; simp; omega) | (simp; omega)⟩, rfl⟩⟩
      · refine sr_rd (x_pick_t rfl rfl rfl) ?_
        refine sr_mv ?_
        refine sr_sk ?_
        refine sr_sk ?_
        refine sr_sk ?_
        refine sr_sk ?_
        refine sr_rd (x_pick_f rfl rfl rfl) ?_
        refine sr_as ?_
        refine sr_nil ?_
        refine aw_kp [6] ?_
        refine aw_ret ?_
        show ∃ v H2, ResV _ _ _ _ _ _ v ∧ Sub H2 _ ∧ _
        exact ⟨_, H, resV rfl (.cons rfl .nil), (by repeat (first | exact Sub.refl _ | apply Sub.drop)), ⟨⟨_, rfl, by unfold hadB; first | (rw [← hc]; simp; done) | (rw [← hc]; simp; omega) | (simp; omega)⟩, rfl⟩⟩
    · refine sr_rd (x_pick_t rfl rfl rfl) ?_
      refine sr_mv ?_
      refine sr_sk ?_
      refine sr_sk ?_
      refine sr_sk ?_
      refine sr_sk ?_
      refine sr_rd (x_pick_f rfl rfl rfl) ?_
      refine sr_mv ?_
      refine sr_sk ?_
      refine sr_sk ?_
      refine sr_sk ?_
      refine sr_sk ?_
      refine sr_rd (x_pick_f rfl rfl rfl) ?_
      refine sr_as ?_
      refine sr_nil ?_
      refine aw_kp [6] ?_
      refine aw_ret ?_
      show ∃ v H2, ResV _ _ _ _ _ _ v ∧ Sub H2 _ ∧ _
      exact ⟨_, H, resV rfl (.cons rfl .nil), (by repeat (first | exact Sub.refl _ | apply Sub.drop)), ⟨⟨_, rfl, by unfold hadB; first | (rw [← hc]; simp; done) | (rw [← hc]; simp; omega) | (simp; omega)⟩, rfl⟩⟩
  · refine sr_mv ?_
    refine sr_sk ?_
    refine sr_sk ?_
    refine sr_sk ?_
    refine sr_sk ?_
    refine sr_rd (x_pick_f rfl rfl rfl) ?_
    refine sr_mv ?_
    refine sr_sk ?_
    refine sr_sk ?_
    refine sr_sk ?_
    refine sr_sk ?_
    refine sr_rd (x_pick_f rfl rfl rfl) ?_
    refine sr_mv ?_
    refine sr_sk ?_
    refine sr_sk ?_
    refine sr_sk ?_
    refine sr_sk ?_
    refine sr_rd (x_pick_f rfl rfl rfl) ?_
    refine sr_as ?_
    refine sr_nil ?_
    refine aw_kp [6] ?_
    refine aw_ret ?_
    show ∃ v H2, ResV _ _ _ _ _ _ v ∧ Sub H2 _ ∧ _
    exact ⟨_, H, resV rfl (.cons rfl .nil), (by repeat (first | exact Sub.refl _ | apply Sub.drop)), ⟨⟨_, rfl, by unfold hadB; first | (rw [← hc]; simp; done) | (rw [← hc]; simp; omega) | (simp; omega)⟩, rfl⟩⟩
set_option maxRecDepth 100000 in
set_option maxHeartbeats 400000 in
theorem sign_s (id : Int) (H : SHeap) : AC Try.prog W0 14 [.int .i64 id] H (fun v H' => v = encB (signB id) ∧ H' = H) := by
  have h26 := tm26 id
  have hse := sign_eq id
  refine ac_of Try.func14 rfl rfl rfl ?_
  refine aw_seq_region ?_
  refine sr_as ?_
  refine sr_nil ?_
  refine aw_kp [0, 2] ?_
  refine aw_seq_region ?_
  refine sr_mv ?_
  refine sr_rd (x_rem' rfl rfl (by omega) rfl) ?_
  refine sr_rd (x_add' rfl rfl (i64w (by omega) (by omega))) ?_
  refine sr_rd (x_rem' rfl rfl (by omega) hse) ?_
  refine sr_rd (x_add' rfl rfl (i64w (by omega) (by omega))) ?_
  refine sr_rd (x_conv' Try.underlying3 Try.underlying5 rfl (u8w (by omega) (by omega))) ?_
  refine sr_as ?_
  refine sr_nil ?_
  refine aw_kp [2] ?_
  refine aw_ret ?_
  show ∃ v H2, ResV _ _ _ _ _ _ v ∧ Sub H2 _ ∧ _
  exact ⟨_, H, resV rfl (.cons rfl .nil), (by repeat (first | exact Sub.refl _ | apply Sub.drop)), ⟨by show Value.int _ _ = Value.int _ _; rw [signB_val], rfl⟩⟩
set_option maxRecDepth 100000 in
set_option maxHeartbeats 400000 in
theorem lsign_s (id : Int) (H : SHeap) : AC Try.prog W0 16 [.int .i64 id] H (fun v H' => v = encB (signB id) ∧ H' = H) := by
  obtain ⟨s1, s2, s3, s4⟩ := sign16 id
  refine ac_of Try.func16 rfl rfl rfl ?_
  refine aw_seq_region ?_
  refine sr_as ?_
  refine sr_nil ?_
  refine aw_kp [0, 2] ?_
  refine aw_seq_region ?_
  refine sr_mv ?_
  refine sr_rd (x_rem' rfl rfl (by omega) rfl) ?_
  refine sr_as ?_
  refine sr_nil ?_
  refine aw_kp [2, 3] ?_
  refine aw_seq ?_
  refine aw_seq_region ?_
  refine sr_mv ?_
  refine sr_c (x_lt rfl rfl) (fun h1 => ?_) (fun h1 => ?_)
  · refine sr_nil ?_
    refine aw_kp [2, 3, 7] ?_
    refine aw_true rfl ?_
    refine aw_region ?_
    refine sr_mv ?_
    refine sr_rd (x_add' rfl rfl (i64w (by omega) (by omega))) ?_
    refine sr_as ?_
    refine sr_nil ?_
    show AW _ _ _ _ _ _ _
    refine aw_seq_region ?_
    refine sr_mv ?_
    refine sr_rd (x_add' rfl rfl (i64w (by omega) (by omega))) ?_
    refine sr_rd (x_conv' Try.underlying3 Try.underlying5 rfl (u8w (by omega) (by omega))) ?_
    refine sr_as ?_
    refine sr_nil ?_
    refine aw_kp [2] ?_
    refine aw_ret ?_
    show ∃ v H2, ResV _ _ _ _ _ _ v ∧ Sub H2 _ ∧ _
    exact ⟨_, H, resV rfl (.cons rfl .nil), (by repeat (first | exact Sub.refl _ | apply Sub.drop)), ⟨by show Value.int _ _ = Value.int _ _; rw [signB_val]; first | rw [← s3 (by omega)] | rw [← s4 (by omega)], rfl⟩⟩
  · refine sr_nil ?_
    refine aw_kp [2, 3, 7] ?_
    refine aw_false rfl ?_
    refine aw_skip ?_
    show AW _ _ _ _ _ _ _
    refine aw_seq_region ?_
    refine sr_mv ?_
    refine sr_rd (x_add' rfl rfl (i64w (by omega) (by omega))) ?_
    refine sr_rd (x_conv' Try.underlying3 Try.underlying5 rfl (u8w (by omega) (by omega))) ?_
    refine sr_as ?_
    refine sr_nil ?_
    refine aw_kp [2] ?_
    refine aw_ret ?_
    show ∃ v H2, ResV _ _ _ _ _ _ v ∧ Sub H2 _ ∧ _
    exact ⟨_, H, resV rfl (.cons rfl .nil), (by repeat (first | exact Sub.refl _ | apply Sub.drop)), ⟨by show Value.int _ _ = Value.int _ _; rw [signB_val]; first | rw [← s3 (by omega)] | rw [← s4 (by omega)], rfl⟩⟩
set_option maxRecDepth 100000 in
set_option maxHeartbeats 400000 in
theorem clip_s (n : Int) (H : SHeap) : AC Try.prog W0 17 [.int .i64 n, .int .i64 0, .int .i64 64] H (fun v H' => v = .int .i64 (min (max n 0) 64) ∧ H' = H) := by
  refine ac_of Try.func17 rfl rfl rfl ?_
  refine aw_seq_region ?_
  refine sr_as ?_
  refine sr_nil ?_
  refine aw_kp [0, 1, 2, 6] ?_
  refine aw_seq_region ?_
  refine sr_mv ?_
  refine sr_mv ?_
  refine sr_rd (x_max rfl rfl) ?_
  refine sr_mv ?_
  refine sr_rd (x_min rfl rfl) ?_
  refine sr_as ?_
  refine sr_nil ?_
  refine aw_kp [6] ?_
  refine aw_ret ?_
  show ∃ v H2, ResV _ _ _ _ _ _ v ∧ Sub H2 _ ∧ _
  exact ⟨_, H, resV rfl (.cons rfl .nil), (by repeat (first | exact Sub.refl _ | apply Sub.drop)), ⟨rfl, rfl⟩⟩
set_option maxRecDepth 100000 in
set_option maxHeartbeats 1000000 in
theorem row_s (c : Chart) (n : Int) (a : Option Addr) (cap : Nat) (xs : List Job) (H : SHeap) (hs : SlV W0 H 10 Job.cells a cap xs) (hwf : ∀ j ∈ xs, j.Wf) : AC Try.prog W0 7 [c.v, .int .i64 n, .slice a xs.length cap] H (fun v H' => v = .string (bs (rowS c n xs)) ∧ H' = H) := by
  have hle := hs.le
  have hcb := hs.capb
  refine ac_of Try.func7 rfl rfl rfl ?_
  refine aw_seq_region ?_
  refine sr_new rfl (wtd_none rfl) rfl (x_box rfl rfl) ?_
  intro r0_0 hr0_0 gr0_0
  refine sr_as ?_
  refine sr_nil ?_
  refine aw_kp [1, 2, 3, 6] ?_
  refine aw_seq ?_
  refine aw_seq_region ?_
  refine sr_rd (x_loadN ag23 sz23 rfl (cells_ext mauto Ext.auto) rfl) ?_
  refine sr_d rfl (wtd_none rfl) rfl (opS_call rfl rfl rfl rfl cl5 (right_s c _)) ?_
  rintro _ H9 ⟨rfl, rfl⟩
  generalize hd : decide c.Right = d1
  cases d1
  · refine sr_rd (x_not rfl) ?_
    refine sr_nil ?_
    refine aw_kp [1, 2, 3, 6, 13] ?_
    refine aw_true rfl ?_
    refine aw_seq_region ?_
    refine sr_as ?_
    refine sr_nil ?_
    refine aw_kp [1, 2, 3, 6] ?_
    refine aw_ret ?_
    show ∃ v H2, ResV _ _ _ _ _ _ v ∧ Sub H2 _ ∧ _
    exact ⟨_, H, resV rfl (.cons rfl .nil), Sub.autoP, (by first | exact ⟨congrArg (fun l => Value.string (bs l)) (rowS_y hR).symm, rfl⟩ | exact ⟨congrArg (fun l => Value.string (bs l)) (rowS_n (of_decide_eq_false hd)).symm, rfl⟩)⟩
  · refine sr_rd (x_not rfl) ?_
    refine sr_nil ?_
    refine aw_kp [1, 2, 3, 6, 13] ?_
    refine aw_false rfl ?_
    refine aw_skip ?_
    show AW _ _ _ _ _ _ _
    refine aw_seq_region ?_
    have hR : c.Right := of_decide_eq_true hd
    have hR2 := hR
    obtain ⟨_, _, _, _, q5, q6⟩ := hR2
    refine sr_rd (x_fieldAddr fd23_2 rfl) ?_
    refine sr_rd (x_load ag3 rfl (cells_ext mauto Ext.auto)) ?_
    refine sr_new rfl (wtd_none rfl) rfl (x_makeSlice Try.underlying34 sz5 zr5 rfl by5 rfl rfl (by omega) (by omega) (by omega)) ?_
    intro r3_2 hr3_2 gr3_2
    refine sr_as ?_
    refine sr_nil ?_
    refine aw_kp [1, 2, 3, 6, 7] ?_
    refine aw_seq ?_
    refine aw_seq_region ?_
    refine sr_mv ?_
    refine sr_rd (x_lenSlice Try.underlying34 rfl) ?_
    refine sr_mv ?_
    refine sr_nil ?_
    refine aw_kp [1, 2, 3, 6, 7, 18, 19] ?_
    refine aw_block ?_
    refine aw_loop (ι := Nat × List Value) (fun s => s.1 ≤ c.cols.toNat ∧ Done c n xs s.1 s.2) (fun s => [(2, .slice a xs.length cap), (1, .int .i64 n), (3, .pointer (some ⟨r0_0, 0, none⟩)), (7, .slice (some ⟨r3_2, 0, none⟩) c.cols.toNat c.cols.toNat), (6, .string .empty), (18, .int .i64 c.cols.toNat), (19, .int .i64 s.1)]) (fun s => (r3_2, .cells s.2.toArray 5 (0, 0)) :: (r0_0, .cells c.cells.toArray 23 (0, 0)) :: H) (fun s => c.cols.toNat - s.1) (0, List.replicate c.cols.toNat (.int .u8 0)) (⟨Nat.zero_le _, by simp [Done, rowB]⟩) KeepF.auto Sub.autoP ?_
    intro s hk
    obtain ⟨k, L⟩ := s
    obtain ⟨hk0, hD⟩ := hk
    have hLl := hD.1
    simp only at hk0 hD hLl ⊢
    refine aw_seq_region ?_
    refine sr_c (x_lt rfl rfl) (fun h1 => ?_) (fun h1 => ?_)
    · refine sr_nil ?_
      refine aw_kp [1, 2, 3, 6, 7, 18, 19, 20] ?_
      refine aw_seq ?_
      refine aw_true rfl ?_
      refine aw_skip ?_
      show AW _ _ _ _ _ _ _
      refine aw_seq ?_
      refine aw_block ?_
      refine aw_seq_region ?_
      refine sr_mv ?_
      refine sr_as ?_
      refine sr_nil ?_
      refine aw_kp [1, 2, 3, 6, 7, 8, 18, 19, 20, 21] ?_
      refine aw_seq_region ?_
      refine sr_mv ?_
      refine sr_mv ?_
      refine sr_rd (x_indexAddr Try.underlying34 sz5 rfl rfl (by omega) (by omega)) ?_
      refine sr_x0 rfl (wtd_none rfl) (x_store sz5 rfl rfl rfl rfl rfl Repl.auto (spl_at (by omega))) ?_
      refine sr_nil ?_
      refine aw_kp [1, 2, 3, 6, 7, 8, 18, 19, 20, 21, 22, 23, 24] ?_
      refine aw_seq_region ?_
      refine sr_mv ?_
      refine sr_rd (x_lenSlice Try.underlying24 rfl) ?_
      refine sr_mv ?_
      refine sr_nil ?_
      refine aw_kp [1, 2, 3, 6, 7, 8, 18, 19, 20, 21, 22, 23, 24, 25, 26, 27] ?_
      refine aw_block ?_
      refine aw_loop (ι := Nat) (fun i => i ≤ xs.length ∧ ∀ i' x, i' < i → xs[i']? = some x → hadB x n (c.from_ + (k : Int) * c.column) = false) (fun i => [(2, .slice a xs.length cap), (1, .int .i64 n), (3, .pointer (some ⟨r0_0, 0, none⟩)), (7, .slice (some ⟨r3_2, 0, none⟩) c.cols.toNat c.cols.toNat), (6, .string .empty), (18, .int .i64 c.cols.toNat), (19, .int .i64 k), (8, .int .i64 k), (25, .slice a xs.length cap), (26, .int .i64 xs.length), (27, .int .i64 i)]) (fun _ => (r3_2, .cells (L.set k (.int .u8 46)).toArray 5 (0, 0)) :: (r0_0, .cells c.cells.toArray 23 (0, 0)) :: H) (fun i => xs.length - i) 0 (⟨Nat.zero_le _, fun _ _ h => by omega⟩) KeepF.auto Sub.autoP ?_
      intro i hi
      obtain ⟨hi0, hno⟩ := hi
      refine aw_seq_region ?_
      refine sr_c (x_lt rfl rfl) (fun h2 => ?_) (fun h2 => ?_)
      · refine sr_nil ?_
        refine aw_kp [1, 2, 3, 6, 7, 8, 18, 19, 25, 26, 27, 28] ?_
        refine aw_seq ?_
        refine aw_true rfl ?_
        refine aw_skip ?_
        show AW _ _ _ _ _ _ _
        refine aw_seq ?_
        refine aw_block ?_
        refine aw_seq_region ?_
        obtain ⟨x1, hx1⟩ := get_ex (show i < xs.length by omega)
        obtain ⟨b1, o1, ha1, hc1⟩ := hs.at_ i _ hx1
        refine sr_rd (x_indexAddrN i Try.underlying24 sz37 rfl ha1 rfl rfl (by omega)) ?_
        refine sr_rd (x_loadN ag37 sz37 rfl (Cells.mono hc1 Sub.autoR) rfl) ?_
        refine sr_new rfl (wtd_none rfl) rfl (x_alloc zr37 rfl) ?_
        intro r10_2 hr10_2 gr10_2
        refine sr_x0 rfl (wtd_none rfl) (x_store sz37 rfl rfl rfl rfl rfl Repl.auto Spl.auto) ?_
        refine sr_nil ?_
        refine aw_kp [1, 2, 3, 6, 7, 8, 10, 18, 19, 25, 26, 27, 28, 29, 30] ?_
        refine aw_seq_dr ⟨_, 6, 47, [[], [], [], [], [2, 3], [0, 1, 2, 3, 4]], [.mem, .light, .mem, .light, .call, .call]⟩ (by kernel_rfl) rfl rfl mix ?_
        refine dr_mem0 rfl rfl (wtd_none rfl) (x_loadN ag37 sz37 rfl (cells_ext mauto Ext.auto) rfl) ?_
        refine dr_l (x_move rfl) ?_
        refine dr_mem0 rfl rfl (wtd_none rfl) (x_loadN ag23 sz23 rfl (cells_ext mauto Ext.auto) rfl) ?_
        refine dr_l (x_move rfl) ?_
        refine dr_callq0 rfl rfl (wtd_none rfl) (opS_F rfl rfl rfl rfl cl12 (at_s _ _ _ (by assumption) (by omega))) (⟨_, rfl⟩) ?_
        rintro _ rfl
        have hwj := hwf _ (List.mem_of_getElem? hx1)
        refine dr_callq0 rfl rfl (wtd_none rfl) (opS_F rfl rfl rfl rfl cl13 ((had_s _ _ _ _ hwj))) (⟨_, _, rfl, rfl⟩) ?_
        rintro _ ⟨b0, rfl, hb0⟩
        cases b0
        · refine dr_nil0 ?_
          refine aw_kp [1, 2, 3, 6, 7, 8, 10, 18, 19, 25, 26, 27, 28, 29, 30, 31, 32, 33, 34, 35, 36] ?_
          refine aw_false rfl ?_
          refine aw_skip ?_
          show AW _ _ _ _ _ _ _
          refine aw_region ?_
          refine sr_rd (x_add' rfl rfl (i64w (by omega) (by omega))) ?_
          refine sr_mv ?_
          refine sr_nil ?_
          show ∃ s', _ ∧ _ ∧ _ ∧ _
          exact ⟨i + 1, ⟨by omega, fun i' x h hx => (Nat.lt_or_eq_of_le (Nat.le_of_lt_succ h)).elim (fun h => hno i' x h hx) fun e => by subst e; rw [hx1] at hx; cases hx; exact hb0.symm⟩, by omega, KeepF.auto, Sub.autoP⟩
        · refine dr_nil0 ?_
          refine aw_kp [1, 2, 3, 6, 7, 8, 10, 18, 19, 25, 26, 27, 28, 29, 30, 31, 32, 33, 34, 35, 36] ?_
          refine aw_true rfl ?_
          refine aw_seq_region ?_
          refine sr_mv ?_
          refine sr_mv ?_
          refine sr_rd (x_fieldAddr fd37_0 rfl) ?_
          refine sr_rd (x_load ag3 rfl (cells_ext mauto Ext.auto)) ?_
          refine sr_d rfl (wtd_none rfl) rfl (opS_call rfl rfl rfl rfl cl14 (sign_s _ _)) ?_
          rintro _ _ ⟨rfl, rfl⟩
          refine sr_rd (x_indexAddr Try.underlying34 sz5 rfl rfl (by omega) (by omega)) ?_
          refine sr_x0 rfl (wtd_none rfl) (x_store sz5 rfl rfl rfl rfl rfl Repl.auto (spl_at (by simp; omega))) ?_
          refine sr_nil ?_
          refine aw_kp [1, 2, 3, 6, 7, 8, 10, 18, 19, 25, 26, 27, 28, 29, 30, 31, 32, 33, 34, 35, 36, 37, 38, 39, 40, 41, 42] ?_
          refine aw_exit ?_
          show AW _ _ _ _ _ _ _
          refine aw_region ?_
          refine sr_rd (x_add' rfl rfl (i64w (by omega) (by omega))) ?_
          refine sr_mv ?_
          refine sr_nil ?_
          show ∃ s', _ ∧ _ ∧ _ ∧ _
          first | exact ⟨(k + 1, _), ⟨by show k + 1 ≤ _; omega, done_step (v := .int .u8 46) hD (by omega) (by unfold cellB; rw [find_none' (fun i x hi hx => hno i x (by omega) hx)]; rfl)⟩, by show _ - (k + 1) < _ - k; omega, KeepF.auto, Sub.autoD⟩ | exact ⟨(k + 1, _), ⟨by show k + 1 ≤ _; omega, done_step2 (u := .int .u8 46) (v := encB (signB x1.id)) hD (by omega) (by unfold cellB; rw [find_first hx1 (by rw [← hb0]) (fun i' x hi hx => hno i' x hi hx)])⟩, by show _ - (k + 1) < _ - k; omega, KeepF.auto, Sub.autoD⟩
      · refine sr_nil ?_
        refine aw_kp [1, 2, 3, 6, 7, 8, 18, 19, 25, 26, 27, 28] ?_
        refine aw_seq ?_
        refine aw_false rfl ?_
        refine aw_exit ?_
        show AW _ _ _ _ _ _ _
        refine aw_region ?_
        refine sr_rd (x_add' rfl rfl (i64w (by omega) (by omega))) ?_
        refine sr_mv ?_
        refine sr_nil ?_
        show ∃ s', _ ∧ _ ∧ _ ∧ _
        first | exact ⟨(k + 1, _), ⟨by show k + 1 ≤ _; omega, done_step (v := .int .u8 46) hD (by omega) (by unfold cellB; rw [find_none' (fun i x hi hx => hno i x (by omega) hx)]; rfl)⟩, by show _ - (k + 1) < _ - k; omega, KeepF.auto, Sub.autoD⟩ | exact ⟨(k + 1, _), ⟨by show k + 1 ≤ _; omega, done_step2 (u := .int .u8 46) (v := encB (signB x1.id)) hD (by omega) (by unfold cellB; rw [find_first hx1 (by rw [← hb0]) (fun i' x hi hx => hno i' x hi hx)])⟩, by show _ - (k + 1) < _ - k; omega, KeepF.auto, Sub.autoD⟩
    · refine sr_nil ?_
      refine aw_kp [1, 2, 3, 6, 7, 18, 19, 20] ?_
      refine aw_seq ?_
      refine aw_false rfl ?_
      refine aw_exit ?_
      show AW _ _ _ _ _ _ _
      refine aw_seq_region ?_
      refine sr_mv ?_
      refine sr_rd (x_b2s (bs := rowB c n xs c.cols.toNat) Try.underlying34 Try.underlying9 Try.underlying5 rfl (cells_row hD (by omega) (by omega) mauto) (by simp [rowB])) ?_
      refine sr_as ?_
      refine sr_nil ?_
      refine aw_kp [6] ?_
      refine aw_ret ?_
      show ∃ v H2, ResV _ _ _ _ _ _ v ∧ Sub H2 _ ∧ _
      exact ⟨_, H, resV rfl (.cons rfl .nil), Sub.autoP, (by first | exact ⟨congrArg (fun l => Value.string (bs l)) (rowS_y hR).symm, rfl⟩ | exact ⟨congrArg (fun l => Value.string (bs l)) (rowS_n (of_decide_eq_false hd)).symm, rfl⟩)⟩
set_option maxRecDepth 100000 in
set_option maxHeartbeats 1000000 in
theorem lrow_s (c : Chart) (n : Int) (a : Option Addr) (cap : Nat) (xs : List Job) (H : SHeap) (hs : SlV W0 H 10 Job.cells a cap xs) (hwf : ∀ j ∈ xs, j.Wf) : AC Try.prog W0 8 [c.v, .int .i64 n, .slice a xs.length cap] H (fun v H' => v = .string (bs (rowS c n xs)) ∧ H' = H) := by
  have hle := hs.le
  have hcb := hs.capb
  refine ac_of Try.func8 rfl rfl rfl ?_
  refine aw_seq_region ?_
  refine sr_new rfl (wtd_none rfl) rfl (x_box rfl rfl) ?_
  intro r0_0 hr0_0 gr0_0
  refine sr_as ?_
  refine sr_nil ?_
  refine aw_kp [1, 2, 3, 6] ?_
  refine aw_seq ?_
  refine aw_seq_region ?_
  refine sr_rd (x_loadN ag23 sz23 rfl (cells_ext mauto Ext.auto) rfl) ?_
  refine sr_d rfl (wtd_none rfl) rfl (opS_call rfl rfl rfl rfl cl6 (lright_s c _)) ?_
  rintro _ H9 ⟨rfl, rfl⟩
  generalize hd : decide c.Right = d1
  cases d1
  · refine sr_rd (x_not rfl) ?_
    refine sr_nil ?_
    refine aw_kp [1, 2, 3, 6, 13] ?_
    refine aw_true rfl ?_
    refine aw_seq_region ?_
    refine sr_as ?_
    refine sr_nil ?_
    refine aw_kp [1, 2, 3, 6] ?_
    refine aw_ret ?_
    show ∃ v H2, ResV _ _ _ _ _ _ v ∧ Sub H2 _ ∧ _
    exact ⟨_, H, resV rfl (.cons rfl .nil), Sub.autoP, (by first | exact ⟨congrArg (fun l => Value.string (bs l)) (by rw [rowS_y hR, ek]), rfl⟩ | exact ⟨congrArg (fun l => Value.string (bs l)) (rowS_n (of_decide_eq_false hd)).symm, rfl⟩)⟩
  · refine sr_rd (x_not rfl) ?_
    refine sr_nil ?_
    refine aw_kp [1, 2, 3, 6, 13] ?_
    refine aw_false rfl ?_
    refine aw_skip ?_
    show AW _ _ _ _ _ _ _
    refine aw_seq_region ?_
    have hR : c.Right := of_decide_eq_true hd
    have hR2 := hR
    obtain ⟨q1, q2, q3, q4, q5, q6⟩ := hR2
    refine sr_as ?_
    refine sr_nil ?_
    refine aw_kp [1, 2, 3, 6, 7] ?_
    refine aw_seq ?_
    refine aw_seq_region ?_
    refine sr_as ?_
    refine sr_nil ?_
    refine aw_kp [1, 2, 3, 6, 7, 8] ?_
    refine aw_block ?_
    refine aw_loop (ι := GrG) (fun s => s.k ≤ c.cols.toNat ∧ OwnVec 1 5 s.sl s.k (byC (rowB c n xs s.k)) s.E) (fun s => [(1, .int .i64 n), (2, .slice a xs.length cap), (3, .pointer (some ⟨r0_0, 0, none⟩)), (6, .string (bs [])), (7, s.sl), (8, .int .i64 s.k)]) (fun s => s.E ++ ((r0_0, .cells c.cells.toArray 23 (0, 0)) :: H)) (fun s => c.cols.toNat - s.k) ⟨0, .slice none 0 0, []⟩ (⟨Nat.zero_le _, .nil⟩) KeepF.auto Sub.autoP ?_
    intro s hs9
    obtain ⟨k, sl, E⟩ := s
    dsimp only at hs9 ⊢
    obtain ⟨hk, V⟩ := hs9
    obtain ⟨a7, c7, rfl⟩ := V.isSl
    refine aw_seq ?_
    refine aw_seq_region ?_
    refine sr_mv ?_
    refine sr_rd (x_fieldAddr fd23_2 rfl) ?_
    refine sr_rd (x_load ag3 rfl (cells_ext mauto Ext.auto)) ?_
    refine sr_c (x_lt rfl rfl) (fun h1 => ?_) (fun h1 => ?_)
    · refine sr_nil ?_
      refine aw_kp [1, 2, 3, 6, 7, 8, 14, 15, 16, 17] ?_
      refine aw_true rfl ?_
      refine aw_skip ?_
      show AW _ _ _ _ _ _ _
      refine aw_seq ?_
      refine aw_block ?_
      refine aw_seq_region ?_
      refine sr_as ?_
      refine sr_nil ?_
      refine aw_kp [1, 2, 3, 6, 7, 8, 9, 14, 15, 16, 17] ?_
      refine aw_seq ?_
      refine aw_seq_region ?_
      refine sr_mv ?_
      refine sr_rd (x_lenSlice Try.underlying24 rfl) ?_
      refine sr_rd (x_sub' rfl rfl (i64w (by omega) (by omega))) ?_
      refine sr_as ?_
      refine sr_nil ?_
      refine aw_kp [1, 2, 3, 6, 7, 8, 9, 10, 14, 15, 16, 17, 20, 21, 22] ?_
      refine aw_block ?_
      refine aw_keep (keep_cons (t := 1) rfl (keep_cons (t := 2) rfl (keep_cons (t := 3) rfl (keep_cons (t := 6) rfl (keep_cons (t := 7) rfl (keep_cons (t := 8) rfl (keep_cons (t := 9) (v := encB (cellB n (c.from_ + (k : Int) * c.column) (xs.drop xs.length))) (by rw [List.drop_length]; rfl) (keep_cons (t := 10) rfl keep_nil)))))))) ?_
      refine aw_loop (ι := Nat) (fun m => m ≤ xs.length) (fun m => [(1, .int .i64 n), (2, .slice a xs.length cap), (3, .pointer (some ⟨r0_0, 0, none⟩)), (6, .string (bs [])), (7, .slice a7 k c7), (8, .int .i64 k), (9, encB (cellB n (c.from_ + (k : Int) * c.column) (xs.drop m))), (10, .int .i64 ((m : Int) - 1))]) (fun _ => E ++ ((r0_0, .cells c.cells.toArray 23 (0, 0)) :: H)) (fun m => m) xs.length (Nat.le_refl _) KeepF.auto Sub.autoP ?_
      intro m hm
      refine aw_seq ?_
      refine aw_seq_region ?_
      refine sr_mv ?_
      refine sr_c (x_ge rfl rfl) (fun h2 => ?_) (fun h2 => ?_)
      · refine sr_nil ?_
        refine aw_kp [1, 2, 3, 6, 7, 8, 9, 10, 23, 24] ?_
        refine aw_true rfl ?_
        refine aw_skip ?_
        show AW _ _ _ _ _ _ _
        refine aw_seq ?_
        refine aw_block ?_
        refine aw_seq_dr ⟨_, 13, 52, [[], [], [0, 1], [0, 1, 2], [], [], [5], [], [], [8], [7, 8, 9], [5, 6, 7, 8, 9, 10], [0, 1, 2, 3, 4, 5, 6, 7, 8, 9, 10, 11]], [.light, .light, .light, .mem, .light, .light, .mem, .light, .light, .mem, .light, .light, .call]⟩ (by kernel_rfl) rfl rfl mix ?_
        obtain ⟨m, rfl⟩ : ∃ q, m = q + 1 := ⟨m - 1, by omega⟩
        obtain ⟨x, hx⟩ := get_ex (show m < xs.length by omega)
        obtain ⟨bx, ox, hax, hcx⟩ := hs.at_ m _ hx
        have hwj := hwf _ (List.mem_of_getElem? hx)
        have htb := time_bd hR (k := k) (by omega) (by omega)
        refine dr_l (x_move rfl) ?_
        refine dr_l (x_move rfl) ?_
        refine dr_l (x_indexAddrN m Try.underlying24 sz37 rfl hax rfl (by omega) (by omega)) ?_
        refine dr_mem0 rfl rfl (wtd_none rfl) (x_loadN ag37 sz37 rfl (Cells.mono hcx Sub.autoR) rfl) ?_
        refine dr_l (x_move rfl) ?_
        refine dr_l (x_fieldAddr fd23_0 rfl) ?_
        refine dr_mem0 rfl rfl (wtd_none rfl) (x_load ag2 rfl (cells_ext mauto Ext.auto)) ?_
        refine dr_l (x_move rfl) ?_
        refine dr_l (x_fieldAddr fd23_1 rfl) ?_
        refine dr_mem0 rfl rfl (wtd_none rfl) (x_load ag2 rfl (cells_ext mauto Ext.auto)) ?_
        refine dr_l (x_mul' rfl rfl (i64w (by omega) (by omega))) ?_
        refine dr_l (x_add' rfl rfl (i64w (by omega) (by omega))) ?_
        refine dr_callq0 rfl rfl (wtd_none rfl) (opS_F rfl rfl rfl rfl cl15 ((lhad_s _ _ _ _ hwj))) (⟨_, _, rfl, rfl⟩) ?_
        rintro _ ⟨b0, rfl, hb0⟩
        cases b0
        · refine dr_nil0 ?_
          refine aw_kp [1, 2, 3, 6, 7, 8, 9, 10, 23, 24, 27, 28, 29, 30, 31, 32, 33, 34, 35, 36, 37, 38, 39] ?_
          refine aw_false rfl ?_
          refine aw_skip ?_
          show AW _ _ _ _ _ _ _
          refine aw_region ?_
          refine sr_mv ?_
          refine sr_rd (x_cast (u := .int .i64 ((m : Int) - 1)) (x_sub' rfl rfl (i64w (by omega) (by omega))) (by congr 1; omega)) ?_
          refine sr_as ?_
          refine sr_nil ?_
          show ∃ s', _ ∧ _ ∧ _ ∧ _
          first | exact ⟨m, by omega, by omega, (by rw [drop_pred hx, cellB_cons, if_pos hb0.symm]; exact KeepF.auto), Sub.autoD⟩ | exact ⟨m, by omega, by omega, (by rw [drop_pred hx, cellB_cons, if_neg (by rw [← hb0]; decide)]; exact KeepF.auto), Sub.autoD⟩
        · refine dr_nil0 ?_
          refine aw_kp [1, 2, 3, 6, 7, 8, 9, 10, 23, 24, 27, 28, 29, 30, 31, 32, 33, 34, 35, 36, 37, 38, 39] ?_
          refine aw_true rfl ?_
          refine aw_region ?_
          refine sr_mv ?_
          refine sr_mv ?_
          refine sr_rd (x_indexAddrN m Try.underlying24 sz37 rfl hax rfl (by omega) (by omega)) ?_
          refine sr_rd (x_fieldAddr fd37_0 rfl) ?_
          refine sr_rd (x_load ag3 rfl (cells_get (Cells.mono hcx Sub.autoR) 0 rfl)) ?_
          refine sr_d rfl (wtd_none rfl) rfl (opS_call rfl rfl rfl rfl cl16 (lsign_s _ _)) ?_
          rintro _ _ ⟨rfl, rfl⟩
          refine sr_as ?_
          refine sr_nil ?_
          show AW _ _ _ _ _ _ _
          refine aw_region ?_
          refine sr_mv ?_
          refine sr_rd (x_cast (u := .int .i64 ((m : Int) - 1)) (x_sub' rfl rfl (i64w (by omega) (by omega))) (by congr 1; omega)) ?_
          refine sr_as ?_
          refine sr_nil ?_
          show ∃ s', _ ∧ _ ∧ _ ∧ _
          first | exact ⟨m, by omega, by omega, (by rw [drop_pred hx, cellB_cons, if_pos hb0.symm]; exact KeepF.auto), Sub.autoD⟩ | exact ⟨m, by omega, by omega, (by rw [drop_pred hx, cellB_cons, if_neg (by rw [← hb0]; decide)]; exact KeepF.auto), Sub.autoD⟩
      · refine sr_nil ?_
        refine aw_kp [1, 2, 3, 6, 7, 8, 9, 10, 23, 24] ?_
        refine aw_false rfl ?_
        refine aw_exit ?_
        show AW _ _ _ _ _ _ _
        refine aw_region ?_
        obtain rfl : m = 0 := by omega
        rw [List.drop_zero]
        refine sr_mv ?_
        refine sr_mv ?_
        refine sr_new rfl (wtd_none rfl) rfl (x_buildSlice Try.underlying34 sz5 zr5 rfl rfl rfl rfl Parts.auto Fill.auto) ?_
        intro r13_2 hr13_2 gr13_2
        refine sr_d rfl (wtd_none rfl) rfl (opS_append (G := (r0_0, .cells c.cells.toArray 23 (0, 0)) :: H) (N := [encB (cellB n (c.from_ + (k : Int) * c.column) xs)]) (m := 1) Try.underlying34 sz5 zr5 rfl by5 rfl rfl V Sub.autoP (.inr ⟨_, _, rfl, (cells_ext mauto Ext.auto)⟩) (rfl) rfl (by omega) (by omega)) ?_
        rintro v49 _ ⟨E49, hV49, rfl⟩
        obtain ⟨a49, cap49, rfl⟩ := hV49.isSl
        refine sr_as ?_
        refine sr_nil ?_
        show AW _ _ _ _ _ _ _
        refine aw_region ?_
        refine sr_mv ?_
        refine sr_rd (x_add' rfl rfl (i64w (by omega) (by omega))) ?_
        refine sr_as ?_
        refine sr_nil ?_
        show ∃ s', _ ∧ _ ∧ _ ∧ _
        exact ⟨⟨k + 1, _, E49⟩, ⟨by dsimp only; omega, (by dsimp only; rw [rowB_succ, byC_app]; exact hV49)⟩, by dsimp only; omega, KeepF.auto, Sub.autoP⟩
    · refine sr_nil ?_
      refine aw_kp [1, 2, 3, 6, 7, 8, 14, 15, 16, 17] ?_
      refine aw_false rfl ?_
      refine aw_exit ?_
      show AW _ _ _ _ _ _ _
      refine aw_seq_region ?_
      have ek : k = c.cols.toNat := by omega
      obtain ⟨b9, rfl, hc9⟩ := V.pos (by omega)
      refine sr_mv ?_
      refine sr_rd (x_b2s (bs := rowB c n xs k) Try.underlying34 Try.underlying9 Try.underlying5 rfl (hc9 Sub.autoE) rowB_len) ?_
      refine sr_as ?_
      refine sr_nil ?_
      refine aw_kp [6] ?_
      refine aw_ret ?_
      show ∃ v H2, ResV _ _ _ _ _ _ v ∧ Sub H2 _ ∧ _
      exact ⟨_, H, resV rfl (.cons rfl .nil), Sub.autoP, (by first | exact ⟨congrArg (fun l => Value.string (bs l)) (by rw [rowS_y hR, ek]), rfl⟩ | exact ⟨congrArg (fun l => Value.string (bs l)) (rowS_n (of_decide_eq_false hd)).symm, rfl⟩)⟩
set_option maxRecDepth 100000 in
set_option maxHeartbeats 1000000 in
theorem load_s (c : Chart) (n : Int) (a : Option Addr) (cap : Nat) (xs : List Job) (H : SHeap) (hs : SlV W0 H 10 Job.cells a cap xs) (hwf : ∀ j ∈ xs, j.Wf) : AC Try.prog W0 9 [c.v, .int .i64 n, .slice a xs.length cap] H (fun v H' => ∃ a2 c2 E2, v = .slice a2 (loadL c (min (max n 0) 64).toNat xs).length c2 ∧ OwnVec 1 3 (.slice a2 (loadL c (min (max n 0) 64).toNat xs).length c2) (loadL c (min (max n 0) 64).toNat xs).length ((loadL c (min (max n 0) 64).toNat xs).flatMap intC) E2 ∧ H' = E2 ++ H) := by
  have hle := hs.le
  have hcb := hs.capb
  refine ac_of Try.func9 rfl rfl rfl ?_
  refine aw_seq_region ?_
  refine sr_new rfl (wtd_none rfl) rfl (x_box rfl rfl) ?_
  intro r0_0 hr0_0 gr0_0
  refine sr_as ?_
  refine sr_nil ?_
  refine aw_kp [1, 2, 3, 6] ?_
  refine aw_seq ?_
  refine aw_seq_region ?_
  refine sr_rd (x_loadN ag23 sz23 rfl (cells_ext mauto Ext.auto) rfl) ?_
  refine sr_d rfl (wtd_none rfl) rfl (opS_call rfl rfl rfl rfl cl5 (right_s c _)) ?_
  rintro _ H9 ⟨rfl, rfl⟩
  generalize hd : decide c.Right = d1
  cases d1
  · refine sr_rd (x_not rfl) ?_
    refine sr_nil ?_
    refine aw_kp [1, 2, 3, 6, 15] ?_
    refine aw_true rfl ?_
    refine aw_seq_region ?_
    refine sr_as ?_
    refine sr_nil ?_
    refine aw_kp [1, 2, 3, 6] ?_
    refine aw_ret ?_
    show ∃ v H2, ResV _ _ _ _ _ _ v ∧ Sub H2 _ ∧ _
    first | (rw [loadL_n (of_decide_eq_false hd)]; exact ⟨_, H, resV rfl (.cons rfl .nil), Sub.autoP, none, 0, [], rfl, .nil, rfl⟩) | (rw [hMe, loadL_y hR]; exact ⟨_, E ++ H, resV rfl (.cons rfl .nil), Sub.autoD, a7, c7, E, rfl, V, rfl⟩)
  · refine sr_rd (x_not rfl) ?_
    refine sr_nil ?_
    refine aw_kp [1, 2, 3, 6, 15] ?_
    refine aw_false rfl ?_
    refine aw_skip ?_
    show AW _ _ _ _ _ _ _
    refine aw_seq_region ?_
    have hR : c.Right := of_decide_eq_true hd
    have hR2 := hR
    obtain ⟨q1, q2, q3, q4, q5, q6⟩ := hR2
    obtain ⟨M, hM⟩ : ∃ M : Nat, min (max n 0) 64 = (M : Int) := ⟨(min (max n 0) 64).toNat, by omega⟩
    have hMe : (min (max n 0) 64).toNat = M := by omega
    refine sr_as ?_
    refine sr_nil ?_
    refine aw_kp [1, 2, 3, 6, 7] ?_
    refine aw_seq ?_
    refine aw_seq_region ?_
    refine sr_rd (x_fieldAddr fd23_2 rfl) ?_
    refine sr_rd (x_load ag3 rfl (cells_ext mauto Ext.auto)) ?_
    refine sr_mv ?_
    refine sr_nil ?_
    refine aw_kp [1, 2, 3, 6, 7, 17, 18] ?_
    refine aw_block ?_
    refine aw_loop (ι := GrG) (fun s => s.k ≤ c.cols.toNat ∧ OwnVec 1 3 s.sl (loadB c M xs s.k).length ((loadB c M xs s.k).flatMap intC) s.E) (fun s => [(1, .int .i64 n), (2, .slice a xs.length cap), (3, .pointer (some ⟨r0_0, 0, none⟩)), (6, .slice none 0 0), (7, s.sl), (17, .int .i64 c.cols), (18, .int .i64 s.k)]) (fun s => s.E ++ ((r0_0, .cells c.cells.toArray 23 (0, 0)) :: H)) (fun s => c.cols.toNat - s.k) ⟨0, .slice none 0 0, []⟩ (⟨Nat.zero_le _, .nil⟩) KeepF.auto Sub.autoP ?_
    intro s hs9
    obtain ⟨k, sl, E⟩ := s
    dsimp only at hs9 ⊢
    obtain ⟨hk, V⟩ := hs9
    obtain ⟨a7, c7, rfl⟩ := V.isSl
    have hlk := loadB_len (c := c) (N := M) (xs := xs) (k := k)
    refine aw_seq_region ?_
    refine sr_c (x_lt rfl rfl) (fun h1 => ?_) (fun h1 => ?_)
    · refine sr_nil ?_
      refine aw_kp [1, 2, 3, 6, 7, 17, 18, 19] ?_
      refine aw_seq ?_
      refine aw_true rfl ?_
      refine aw_skip ?_
      show AW _ _ _ _ _ _ _
      refine aw_seq ?_
      refine aw_block ?_
      refine aw_seq_region ?_
      refine sr_mv ?_
      refine sr_as ?_
      refine sr_nil ?_
      refine aw_kp [1, 2, 3, 6, 7, 8, 17, 18, 19, 20] ?_
      refine aw_seq_region ?_
      refine sr_as ?_
      refine sr_nil ?_
      refine aw_kp [1, 2, 3, 6, 7, 8, 9, 17, 18, 19, 20] ?_
      refine aw_seq ?_
      refine aw_seq_region ?_
      refine sr_mv ?_
      refine sr_d rfl (wtd_none rfl) rfl (opS_call rfl rfl rfl rfl cl17 (clip_s n _)) ?_
      rintro _ H9 ⟨rfl, rfl⟩
      rw [hM]
      refine sr_mv ?_
      refine sr_nil ?_
      refine aw_kp [1, 2, 3, 6, 7, 8, 9, 17, 18, 19, 20, 21, 22, 23] ?_
      refine aw_block ?_
      refine aw_loop (ι := Nat) (fun i => i ≤ M) (fun i => [(1, .int .i64 n), (2, .slice a xs.length cap), (3, .pointer (some ⟨r0_0, 0, none⟩)), (6, .slice none 0 0), (7, .slice a7 (loadB c M xs k).length c7), (17, .int .i64 c.cols), (18, .int .i64 k), (8, .int .i64 k), (9, .int .i64 (cntN (c.from_ + (k : Int) * c.column) xs i : Nat)), (22, .int .i64 M), (23, .int .i64 i)]) (fun _ => E ++ ((r0_0, .cells c.cells.toArray 23 (0, 0)) :: H)) (fun i => M - i) 0 (Nat.zero_le _) KeepF.auto Sub.autoP ?_
      intro i hi
      have hcn := cntN_le (t := (c.from_ + (k : Int) * c.column)) (xs := xs) i
      refine aw_seq_region ?_
      refine sr_c (x_lt rfl rfl) (fun h2 => ?_) (fun h2 => ?_)
      · refine sr_nil ?_
        refine aw_kp [1, 2, 3, 6, 7, 8, 9, 17, 18, 22, 23, 24] ?_
        refine aw_seq ?_
        refine aw_true rfl ?_
        refine aw_skip ?_
        show AW _ _ _ _ _ _ _
        refine aw_seq ?_
        refine aw_block ?_
        refine aw_seq_region ?_
        refine sr_mv ?_
        refine sr_as ?_
        refine sr_nil ?_
        refine aw_kp [1, 2, 3, 6, 7, 8, 9, 10, 17, 18, 22, 23, 24, 25] ?_
        refine aw_seq_region ?_
        refine sr_mv ?_
        refine sr_rd (x_lenSlice Try.underlying24 rfl) ?_
        refine sr_mv ?_
        refine sr_nil ?_
        refine aw_kp [1, 2, 3, 6, 7, 8, 9, 10, 17, 18, 22, 23, 24, 25, 26, 27, 28] ?_
        refine aw_block ?_
        refine aw_loop (ι := Nat) (fun q => q ≤ xs.length ∧ ∀ q' x, q' < q → xs[q']? = some x → hadB x i (c.from_ + (k : Int) * c.column) = false) (fun q => [(1, .int .i64 n), (2, .slice a xs.length cap), (3, .pointer (some ⟨r0_0, 0, none⟩)), (6, .slice none 0 0), (7, .slice a7 (loadB c M xs k).length c7), (17, .int .i64 c.cols), (18, .int .i64 k), (8, .int .i64 k), (9, .int .i64 (cntN (c.from_ + (k : Int) * c.column) xs i : Nat)), (22, .int .i64 M), (23, .int .i64 i), (10, .int .i64 i), (26, .slice a xs.length cap), (27, .int .i64 xs.length), (28, .int .i64 q)]) (fun _ => E ++ ((r0_0, .cells c.cells.toArray 23 (0, 0)) :: H)) (fun q => xs.length - q) 0 (⟨Nat.zero_le _, fun _ _ h => by omega⟩) KeepF.auto Sub.autoP ?_
        intro q hq9
        obtain ⟨hq, hno⟩ := hq9
        refine aw_seq_region ?_
        refine sr_c (x_lt rfl rfl) (fun h3 => ?_) (fun h3 => ?_)
        · refine sr_nil ?_
          refine aw_kp [1, 2, 3, 6, 7, 8, 9, 10, 17, 18, 22, 23, 26, 27, 28, 29] ?_
          refine aw_seq ?_
          refine aw_true rfl ?_
          refine aw_skip ?_
          show AW _ _ _ _ _ _ _
          refine aw_seq ?_
          refine aw_block ?_
          refine aw_seq_region ?_
          obtain ⟨x1, hx1⟩ := get_ex (show q < xs.length by omega)
          obtain ⟨b1, o1, ha1, hc1⟩ := hs.at_ q _ hx1
          refine sr_rd (x_indexAddrN q Try.underlying24 sz37 rfl ha1 rfl (by omega) (by omega)) ?_
          refine sr_rd (x_loadN ag37 sz37 rfl (Cells.mono hc1 Sub.autoR) rfl) ?_
          refine sr_new rfl (wtd_none rfl) rfl (x_alloc zr37 rfl) ?_
          intro r13_2 hr13_2 gr13_2
          refine sr_x0 rfl (wtd_none rfl) (x_store sz37 rfl rfl rfl rfl rfl Repl.auto Spl.auto) ?_
          refine sr_nil ?_
          refine aw_kp [1, 2, 3, 6, 7, 8, 9, 10, 12, 17, 18, 22, 23, 26, 27, 28, 29, 30, 31] ?_
          refine aw_seq_dr ⟨_, 6, 48, [[], [], [], [], [2, 3], [0, 1, 2, 3, 4]], [.mem, .light, .mem, .light, .call, .call]⟩ (by kernel_rfl) rfl rfl mix ?_
          refine dr_mem0 rfl rfl (wtd_none rfl) (x_loadN ag37 sz37 rfl (cells_ext mauto Ext.auto) rfl) ?_
          refine dr_l (x_move rfl) ?_
          refine dr_mem0 rfl rfl (wtd_none rfl) (x_loadN ag23 sz23 rfl (cells_ext mauto Ext.auto) rfl) ?_
          refine dr_l (x_move rfl) ?_
          refine dr_callq0 rfl rfl (wtd_none rfl) (opS_F rfl rfl rfl rfl cl12 (at_s _ _ _ (by assumption) (by omega))) (⟨_, rfl⟩) ?_
          rintro _ rfl
          have hwj := hwf _ (List.mem_of_getElem? hx1)
          refine dr_callq0 rfl rfl (wtd_none rfl) (opS_F rfl rfl rfl rfl cl13 ((had_s _ _ _ _ hwj))) (⟨_, _, rfl, rfl⟩) ?_
          rintro _ ⟨b0, rfl, hb0⟩
          cases b0
          · refine dr_nil0 ?_
            refine aw_kp [1, 2, 3, 6, 7, 8, 9, 10, 12, 17, 18, 22, 23, 26, 27, 28, 29, 30, 31, 32, 33, 34, 35, 36, 37] ?_
            refine aw_false rfl ?_
            refine aw_skip ?_
            show AW _ _ _ _ _ _ _
            refine aw_region ?_
            refine sr_rd (x_add' rfl rfl (i64w (by omega) (by omega))) ?_
            refine sr_mv ?_
            refine sr_nil ?_
            show ∃ s', _ ∧ _ ∧ _ ∧ _
            exact ⟨q + 1, ⟨by omega, fun q' x h hx => (Nat.lt_or_eq_of_le (Nat.le_of_lt_succ h)).elim (fun h => hno q' x h hx) fun e => by subst e; rw [hx1] at hx; cases hx; exact hb0.symm⟩, by omega, KeepF.auto, Sub.autoP⟩
          · refine dr_nil0 ?_
            refine aw_kp [1, 2, 3, 6, 7, 8, 9, 10, 12, 17, 18, 22, 23, 26, 27, 28, 29, 30, 31, 32, 33, 34, 35, 36, 37] ?_
            refine aw_true rfl ?_
            refine aw_seq_region ?_
            refine sr_mv ?_
            refine sr_rd (x_add' rfl rfl (i64w (by omega) (by omega))) ?_
            refine sr_as ?_
            refine sr_nil ?_
            refine aw_kp [1, 2, 3, 6, 7, 8, 9, 10, 12, 17, 18, 22, 23, 26, 27, 28, 29, 30, 31, 32, 33, 34, 35, 36, 37, 38, 39] ?_
            refine aw_exit ?_
            show AW _ _ _ _ _ _ _
            refine aw_region ?_
            refine sr_rd (x_add' rfl rfl (i64w (by omega) (by omega))) ?_
            refine sr_mv ?_
            refine sr_nil ?_
            show ∃ s', _ ∧ _ ∧ _ ∧ _
            first | exact ⟨i + 1, by omega, by omega, (by rw [cntN_y (any_yes hx1 hb0.symm)]; exact KeepF.auto), Sub.autoD⟩ | exact ⟨i + 1, by omega, by omega, (by rw [cntN_n (any_no fun q2 x hq hx => hno q2 x (by omega) hx)]; exact KeepF.auto), Sub.autoD⟩
        · refine sr_nil ?_
          refine aw_kp [1, 2, 3, 6, 7, 8, 9, 10, 17, 18, 22, 23, 26, 27, 28, 29] ?_
          refine aw_seq ?_
          refine aw_false rfl ?_
          refine aw_exit ?_
          show AW _ _ _ _ _ _ _
          refine aw_region ?_
          refine sr_rd (x_add' rfl rfl (i64w (by omega) (by omega))) ?_
          refine sr_mv ?_
          refine sr_nil ?_
          show ∃ s', _ ∧ _ ∧ _ ∧ _
          first | exact ⟨i + 1, by omega, by omega, (by rw [cntN_y (any_yes hx1 hb0.symm)]; exact KeepF.auto), Sub.autoD⟩ | exact ⟨i + 1, by omega, by omega, (by rw [cntN_n (any_no fun q2 x hq hx => hno q2 x (by omega) hx)]; exact KeepF.auto), Sub.autoD⟩
      · refine sr_nil ?_
        refine aw_kp [1, 2, 3, 6, 7, 8, 9, 17, 18, 22, 23, 24] ?_
        refine aw_seq ?_
        refine aw_false rfl ?_
        refine aw_exit ?_
        show AW _ _ _ _ _ _ _
        refine aw_region ?_
        have ei : i = M := by omega
        rw [ei]
        refine sr_mv ?_
        refine sr_mv ?_
        refine sr_new rfl (wtd_none rfl) rfl (x_buildSlice Try.underlying29 sz3 zr3 rfl rfl rfl rfl Parts.auto Fill.auto) ?_
        intro r18_2 hr18_2 gr18_2
        refine sr_d rfl (wtd_none rfl) rfl (opS_append (G := (r0_0, .cells c.cells.toArray 23 (0, 0)) :: H) (N := (intC (cntN (c.from_ + (k : Int) * c.column) xs M : Nat))) (m := 1) Try.underlying29 sz3 zr3 rfl by3 rfl rfl V Sub.autoP (.inr ⟨_, _, rfl, (cells_ext mauto Ext.auto)⟩) (rfl) rfl (by omega) (by omega)) ?_
        rintro v45 _ ⟨E45, hV45, rfl⟩
        obtain ⟨a45, cap45, rfl⟩ := hV45.isSl
        refine sr_as ?_
        refine sr_nil ?_
        show AW _ _ _ _ _ _ _
        refine aw_region ?_
        refine sr_rd (x_add' rfl rfl (i64w (by omega) (by omega))) ?_
        refine sr_mv ?_
        refine sr_nil ?_
        show ∃ s', _ ∧ _ ∧ _ ∧ _
        exact ⟨⟨k + 1, _, E45⟩, ⟨by dsimp only; omega, (by dsimp only; rw [loadB_succ]; have h9 := hV45.snocS; rw [List.length_append] at h9 ⊢; exact h9)⟩, by dsimp only; omega, KeepF.auto, Sub.autoP⟩
    · refine sr_nil ?_
      refine aw_kp [1, 2, 3, 6, 7, 17, 18, 19] ?_
      refine aw_seq ?_
      refine aw_false rfl ?_
      refine aw_exit ?_
      show AW _ _ _ _ _ _ _
      refine aw_seq_region ?_
      have ek : k = c.cols.toNat := by omega
      subst ek
      refine sr_mv ?_
      refine sr_as ?_
      refine sr_nil ?_
      refine aw_kp [6] ?_
      refine aw_ret ?_
      show ∃ v H2, ResV _ _ _ _ _ _ v ∧ Sub H2 _ ∧ _
      first | (rw [loadL_n (of_decide_eq_false hd)]; exact ⟨_, H, resV rfl (.cons rfl .nil), Sub.autoP, none, 0, [], rfl, .nil, rfl⟩) | (rw [hMe, loadL_y hR]; exact ⟨_, E ++ H, resV rfl (.cons rfl .nil), Sub.autoD, a7, c7, E, rfl, V, rfl⟩)
set_option maxRecDepth 100000 in
set_option maxHeartbeats 400000 in
theorem copy0_s (b : Nat) (sl : Value) (G : SHeap) : AC Try.prog W0 21 [selfP b] ((b, .cells (bldC (.pointer none) (sl)).toArray 43 (0, 0)) :: G) (fun _ H' => H' = (b, .cells (bldC (selfP b) (sl)).toArray 43 (0, 0)) :: G) := by
  refine ac_of Try.func21 rfl rfl rfl ?_
  refine aw_seq_region ?_
  refine sr_mv ?_
  refine sr_rd (x_nilCheck rfl) ?_
  refine sr_rd (x_fieldAddr fd43_0 rfl) ?_
  refine sr_rd (x_load ag41 rfl (cells_ext mauto Ext.auto)) ?_
  refine sr_rd (x_eqnil Try.underlying41 rfl rfl) ?_
  refine sr_nil ?_
  refine aw_kp [0, 6] ?_
  refine aw_true rfl ?_
  refine aw_region ?_
  refine sr_mv ?_
  refine sr_mv ?_
  refine sr_rd (x_toUnsafe (cs := bldC (.pointer none) sl) Try.underlying41 Try.underlying52 sz43 (by decide) rfl mauto (show 0 < 2 by decide)) ?_
  refine sr_rd (x_extern (fn := Try.f22) (v := selfP b) rfl rfl rfl Try.func22 (by kernel_rfl) (by kernel_rfl) exn22 exf22 (fun _ => rd_noEscape)) ?_
  refine sr_rd (x_fromUnsafe (cs := bldC (.pointer none) sl) Try.underlying52 Try.underlying41 sz43 rfl mauto liesB) ?_
  refine sr_rd (x_nilCheck rfl) ?_
  refine sr_rd (x_fieldAddr fd43_0 rfl) ?_
  refine sr_x0 rfl (wtd_none rfl) (x_store sz41 rfl rfl rfl rfl rfl Repl.auto Spl.auto) ?_
  refine sr_nil ?_
  show ∃ v H2, ResV _ _ _ _ _ _ v ∧ Sub H2 _ ∧ _
  exact ⟨_, ((b, .cells (bldC (selfP b) (sl)).toArray 43 (0, 0)) :: G), resV rfl .nil, Sub.autoP, rfl⟩
set_option maxRecDepth 100000 in
set_option maxHeartbeats 400000 in
theorem copy1_s (b : Nat) (sl : Value) (G : SHeap) : AC Try.prog W0 21 [selfP b] ((b, .cells (bldC (selfP b) (sl)).toArray 43 (0, 0)) :: G) (fun _ H' => H' = (b, .cells (bldC (selfP b) (sl)).toArray 43 (0, 0)) :: G) := by
  refine ac_of Try.func21 rfl rfl rfl ?_
  refine aw_seq_region ?_
  refine sr_mv ?_
  refine sr_rd (x_nilCheck rfl) ?_
  refine sr_rd (x_fieldAddr fd43_0 rfl) ?_
  refine sr_rd (x_load ag41 rfl (cells_ext mauto Ext.auto)) ?_
  refine sr_rd (x_eqnil Try.underlying41 rfl rfl) ?_
  refine sr_nil ?_
  refine aw_kp [0, 6] ?_
  refine aw_false rfl ?_
  refine aw_seq_region ?_
  refine sr_mv ?_
  refine sr_rd (x_nilCheck rfl) ?_
  refine sr_rd (x_fieldAddr fd43_0 rfl) ?_
  refine sr_rd (x_load ag41 rfl (cells_ext mauto Ext.auto)) ?_
  refine sr_mv ?_
  refine sr_rd (x_nePtrSame Try.underlying41 sz43 (by decide) rfl rfl) ?_
  refine sr_nil ?_
  refine aw_kp [19] ?_
  refine aw_false rfl ?_
  refine aw_skip ?_
  show ∃ v H2, ResV _ _ _ _ _ _ v ∧ Sub H2 _ ∧ _
  exact ⟨_, ((b, .cells (bldC (selfP b) (sl)).toArray 43 (0, 0)) :: G), resV rfl .nil, Sub.autoP, rfl⟩
theorem copy_s (b : Nat) (a sl : Value) (G : SHeap) (ha : a = .pointer none ∨ a = selfP b) : AC Try.prog W0 21 [selfP b] ((b, .cells (bldC (a) (sl)).toArray 43 (0, 0)) :: G) (fun _ H' => H' = (b, .cells (bldC (selfP b) (sl)).toArray 43 (0, 0)) :: G) := by
  rcases ha with rfl | rfl
  · exact copy0_s b sl G
  · exact copy1_s b sl G
set_option maxRecDepth 100000 in
set_option maxHeartbeats 400000 in
theorem write_s (b : Nat) (a sl : Value) (l m : List UInt8) (E G : SHeap) (ha : a = .pointer none ∨ a = selfP b) (V : OwnVec 1 5 sl l.length (byC l) E) (hb : l.length + m.length ≤ 100000000) : AC Try.prog W0 18 [selfP b, .string (bs m)] (E ++ ((b, .cells (bldC (a) (sl)).toArray 43 (0, 0)) :: G)) (fun _ H' => ∃ a2 c2 E2, OwnVec 1 5 (.slice a2 (l ++ m).length c2) (l ++ m).length (byC (l ++ m)) E2 ∧ H' = E2 ++ ((b, .cells (bldC (selfP b) (.slice a2 (l ++ m).length c2)).toArray 43 (0, 0)) :: G)) := by
  refine ac_of Try.func18 rfl rfl rfl ?_
  refine aw_seq_region ?_
  refine sr_as ?_
  refine sr_as ?_
  refine sr_nil ?_
  refine aw_kp [0, 1, 4, 5] ?_
  refine aw_seq_region ?_
  refine sr_mv ?_
  refine sr_d rfl (wtd_none rfl) rfl (opS_call rfl rfl rfl rfl cl21 (AC.sub Sub.autoP (copy_s b a sl (E ++ G) ha))) ?_
  rintro _ _ rfl
  refine sr_nil ?_
  refine aw_kp [0, 1, 4, 5] ?_
  refine aw_seq_region ?_
  refine sr_mv ?_
  refine sr_mv ?_
  refine sr_rd (x_nilCheck rfl) ?_
  refine sr_rd (x_fieldAddr fd43_1 rfl) ?_
  refine sr_rd (x_load ag34 rfl (cells_ext mauto Ext.auto)) ?_
  refine sr_mv ?_
  refine sr_d rfl (wtd_none rfl) rfl (opS_appendS (G := (b, .cells (bldC (selfP b) (sl)).toArray 43 (0, 0)) :: G) (l := m) Try.underlying34 Try.underlying9 sz5 zr5 by5 rfl rfl V Sub.autoP (by omega)) ?_
  rintro v14 _ ⟨E14, hV14, rfl⟩
  obtain ⟨a14, cap14, rfl⟩ := hV14.isSl
  refine sr_rd (x_nilCheck rfl) ?_
  refine sr_rd (x_fieldAddr fd43_1 rfl) ?_
  refine sr_x0 rfl (wtd_none rfl) (x_store sz34 rfl rfl rfl rfl rfl Repl.auto Spl.auto) ?_
  refine sr_nil ?_
  refine aw_kp [1, 4, 5] ?_
  refine aw_seq_region ?_
  refine sr_mv ?_
  refine sr_rd (x_lenB Try.underlying9 rfl) ?_
  refine sr_as ?_
  refine sr_as ?_
  refine sr_nil ?_
  refine aw_kp [4, 5] ?_
  refine aw_ret ?_
  show ∃ v H2, ResV _ _ _ _ _ _ v ∧ Sub H2 _ ∧ _
  exact ⟨_, (E14 ++ ((b, .cells (bldC (selfP b) (.slice a14 (l.length + m.length) cap14)).toArray 43 (0, 0)) :: G)), resV rfl (.cons rfl (.cons rfl .nil)), Sub.autoP, ⟨a14, cap14, E14, by rw [byC_app, List.length_append]; exact hV14, by rw [List.length_append]⟩⟩
set_option maxRecDepth 100000 in
set_option maxHeartbeats 400000 in
theorem string_s (b : Nat) (a : Value) (sa : Option Addr) (cap : Nat) (l : List UInt8) (E G : SHeap) (V : OwnVec 1 5 (.slice sa l.length cap) l.length (byC l) E) (h0 : l.length = 0 → Value.slice sa l.length cap = .slice none 0 0) (hb : l.length ≤ 100000000) : AC Try.prog W0 19 [selfP b] (E ++ ((b, .cells (bldC (a) (.slice sa l.length cap)).toArray 43 (0, 0)) :: G)) (fun v H' => v = .string (bs l) ∧ H' = (b, .cells (bldC (a) (.slice sa l.length cap)).toArray 43 (0, 0)) :: G) := by
  refine ac_of Try.func19 rfl rfl rfl ?_
  refine aw_seq_region ?_
  refine sr_as ?_
  refine sr_nil ?_
  refine aw_kp [0, 2] ?_
  refine aw_seq_dr ⟨_, 12, 14, [[], [0], [0, 1], [0, 1, 2], [0, 1, 2, 3], [], [5], [5, 6], [5, 6, 7], [5, 6, 7, 8], [0, 1, 2, 3, 4, 5, 6, 7, 8, 9], [0, 1, 2, 3, 4, 5, 6, 7, 8, 9, 10]], [.light, .light, .light, .mem, .light, .light, .light, .light, .mem, .light, .eff, .light]⟩ (by kernel_rfl) rfl rfl mix ?_
  refine dr_l (x_move rfl) ?_
  refine dr_l (x_nilCheck rfl) ?_
  refine dr_l (x_fieldAddr fd43_1 rfl) ?_
  refine dr_mem0 rfl rfl (wtd_none rfl) (x_load ag34 rfl (cells_ext mauto Ext.auto)) ?_
  refine dr_l (x_sliceData V h0 rfl) ?_
  refine dr_l (x_move rfl) ?_
  refine dr_l (x_nilCheck rfl) ?_
  refine dr_l (x_fieldAddr fd43_1 rfl) ?_
  refine dr_mem0 rfl rfl (wtd_none rfl) (x_load ag34 rfl (cells_ext mauto Ext.auto)) ?_
  refine dr_l (x_lenSlice Try.underlying34 rfl) ?_
  refine dr_effE rfl rfl (wtd_none rfl) (opSF_unsafeStr (G := (b, .cells (bldC (a) (.slice sa l.length cap)).toArray 43 (0, 0)) :: G) Try.underlying51 cells5 V h0 rfl rfl Sub.autoP (by omega)) (unsafeStr_fresh (E := E) Sub.autoP) ?_
  rintro _ _ ⟨rfl, rfl⟩
  refine dr_l (x_assign rfl) ?_
  refine dr_nil0 ?_
  refine aw_kp [2] ?_
  refine aw_ret ?_
  show ∃ v H2, ResV _ _ _ _ _ _ v ∧ Sub H2 _ ∧ _
  exact ⟨_, ((b, .cells (bldC (a) (.slice sa l.length cap)).toArray 43 (0, 0)) :: G), resV rfl (.cons rfl .nil), Sub.autoP, ⟨rfl, rfl⟩⟩
set_option maxRecDepth 100000 in
set_option maxHeartbeats 1000000 in
theorem rows_s (c : Chart) (n : Int) (a : Option Addr) (cap : Nat) (xs : List Job) (H : SHeap) (hs : ∀ G, SlV W0 G 10 Job.cells a cap xs) (hwf : ∀ j ∈ xs, j.Wf) : AC Try.prog W0 10 [c.v, .int .i64 n, .slice a xs.length cap] H (fun v H' => v = .string (bs (rowsB c xs (min (max n 0) 64).toNat)) ∧ H' = H) := by
  refine ac_of Try.func10 rfl rfl rfl ?_
  refine aw_seq_region ?_
  refine sr_new rfl (wtd_none rfl) rfl (x_box rfl rfl) ?_
  intro r0_0 hr0_0 gr0_0
  refine sr_as ?_
  refine sr_nil ?_
  refine aw_kp [1, 2, 3, 6] ?_
  refine aw_seq_region ?_
  refine sr_new rfl (wtd_none rfl) rfl (x_alloc zr43 rfl) ?_
  intro r1_0 hr1_0 gr1_0
  refine sr_nil ?_
  refine aw_kp [1, 2, 3, 6, 7] ?_
  refine aw_seq ?_
  refine aw_seq_region ?_
  refine sr_mv ?_
  refine sr_d rfl (wtd_none rfl) rfl (opS_call rfl rfl rfl rfl cl17 (clip_s n _)) ?_
  rintro _ _ ⟨rfl, rfl⟩
  obtain ⟨M, hM⟩ : ∃ M : Nat, min (max n 0) 64 = (M : Int) := ⟨(min (max n 0) 64).toNat, by omega⟩
  rw [hM]
  have hMe : (min (max n 0) 64).toNat = M := by omega
  refine sr_mv ?_
  refine sr_nil ?_
  refine aw_kp [2, 3, 6, 7, 10, 11] ?_
  refine aw_block ?_
  refine aw_loop (ι := BldG) (fun s => s.k ≤ M ∧ s.l = rowsB c xs s.k ∧ (s.a = .pointer none ∨ s.a = selfP r1_0) ∧ OwnVec 1 5 s.sl s.l.length (byC s.l) s.E ∧ (s.l = [] → s.sl = .slice none 0 0)) (fun s => [(2, .slice a xs.length cap), (3, .pointer (some ⟨r0_0, 0, none⟩)), (6, .string (bs [])), (7, selfP r1_0), (10, .int .i64 M), (11, .int .i64 s.k)]) (fun s => s.E ++ ((r1_0, .cells (bldC (s.a) (s.sl)).toArray 43 (0, 0)) :: (r0_0, .cells c.cells.toArray 23 (0, 0)) :: H)) (fun s => M - s.k) ⟨0, [], .pointer none, .slice none 0 0, []⟩ (⟨Nat.zero_le _, rfl, .inl rfl, .nil, fun _ => rfl⟩) KeepF.auto Sub.autoP ?_
  intro s hs9
  obtain ⟨k, l, ad, sl, E⟩ := s
  dsimp only at hs9 ⊢
  obtain ⟨hk, rfl, ha, V, hn⟩ := hs9
  have hll := rowsB_len (c := c) (xs := xs) k
  refine aw_seq_region ?_
  refine sr_c (x_lt rfl rfl) (fun h1 => ?_) (fun h1 => ?_)
  · refine sr_nil ?_
    refine aw_kp [2, 3, 6, 7, 10, 11, 12] ?_
    refine aw_seq ?_
    refine aw_true rfl ?_
    refine aw_skip ?_
    show AW _ _ _ _ _ _ _
    refine aw_seq ?_
    refine aw_block ?_
    refine aw_seq_region ?_
    refine sr_mv ?_
    refine sr_as ?_
    refine sr_nil ?_
    refine aw_kp [2, 3, 6, 7, 8, 10, 11, 12, 13] ?_
    refine aw_region ?_
    refine sr_rd (x_loadN ag23 sz23 rfl (cells_ext mauto Ext.auto) rfl) ?_
    refine sr_mv ?_
    refine sr_mv ?_
    refine sr_d rfl (wtd_none rfl) rfl (opS_call rfl rfl rfl rfl cl7 (row_s c k a cap xs _ (hs _) hwf)) ?_
    rintro _ H9 ⟨rfl, rfl⟩
    have hrl := rowS_len (c := c) (n := k) (xs := xs)
    have hen : (rowS c k xs ++ [10]).length = (rowS c k xs).length + 1 := by rw [List.length_append]; rfl
    refine sr_rd (x_catB rfl rfl (by simp only [List.length_cons, List.length_nil]; omega)) ?_
    refine sr_d rfl (wtd_none rfl) rfl (opS_call rfl rfl rfl rfl cl18 (AC.sub Sub.autoP (write_s r1_0 ad sl (rowsB c xs k) (rowS c k xs ++ [10]) E ((r0_0, .cells c.cells.toArray 23 (0, 0)) :: H) ha V (by omega)))) ?_
    rintro _ _ ⟨a2, c2, E2, V2, rfl⟩
    refine sr_nil ?_
    show AW _ _ _ _ _ _ _
    refine aw_region ?_
    refine sr_rd (x_add' rfl rfl (i64w (by omega) (by omega))) ?_
    refine sr_mv ?_
    refine sr_nil ?_
    show ∃ s', _ ∧ _ ∧ _ ∧ _
    exact ⟨⟨k + 1, rowsB c xs k ++ (rowS c k xs ++ [10]), selfP r1_0, .slice a2 (rowsB c xs k ++ (rowS c k xs ++ [10])).length c2, E2⟩, ⟨by dsimp only; omega, rfl, .inr rfl, V2, fun q => absurd (congrArg List.length q) (by dsimp only; rw [List.length_append, List.length_nil]; omega)⟩, by dsimp only; omega, KeepF.auto, Sub.autoP⟩
  · refine sr_nil ?_
    refine aw_kp [2, 3, 6, 7, 10, 11, 12] ?_
    refine aw_seq ?_
    refine aw_false rfl ?_
    refine aw_exit ?_
    show AW _ _ _ _ _ _ _
    refine aw_seq_region ?_
    obtain ⟨a3, c3, rfl⟩ := V.isSl
    refine sr_d rfl (wtd_none rfl) rfl (opS_call rfl rfl rfl rfl cl19 (AC.sub Sub.autoP (string_s r1_0 ad a3 c3 (rowsB c xs k) E H V (fun q => hn (List.length_eq_zero_iff.1 q)) (by omega)))) ?_
    rintro _ _ ⟨rfl, rfl⟩
    refine sr_as ?_
    refine sr_nil ?_
    refine aw_kp [6] ?_
    refine aw_ret ?_
    show ∃ v H2, ResV _ _ _ _ _ _ v ∧ Sub H2 _ ∧ _
    exact ⟨_, H, resV rfl (.cons rfl .nil), Sub.autoP, ⟨congrArg (fun l => Value.string (bs l)) (by rw [show k = M by omega]; rfl), rfl⟩⟩
set_option maxRecDepth 100000 in
set_option maxHeartbeats 400000 in
theorem awake30_s (H : SHeap) : AC Try.prog W0 11 [] H (fun v H' => v = .bool true ∧ H' = H) := by
  refine ac_of Try.func11 rfl rfl rfl ?_
  refine aw_seq_region ?_
  refine sr_as ?_
  refine sr_nil ?_
  refine aw_kp [0] ?_
  refine aw_seq_region ?_
  refine sr_rd (x_build zr23 rfl fl23 Parts.auto Fill.auto) ?_
  refine sr_new rfl (wtd_none rfl) rfl (x_alloc zr23 rfl) ?_
  intro r1_1 hr1_1 gr1_1
  refine sr_x0 rfl (wtd_none rfl) (x_store sz23 rfl rfl rfl rfl rfl Repl.auto Spl.auto) ?_
  refine sr_nil ?_
  refine aw_kp [0, 1] ?_
  refine aw_seq_region ?_
  refine sr_rd (x_loadN ag23 sz23 rfl (cells_ext mauto Ext.auto) rfl) ?_
  refine sr_rd (x_build zr37 rfl fl37 Parts.auto Fill.auto) ?_
  refine sr_new rfl (wtd_none rfl) rfl (x_buildSlice Try.underlying24 sz37 zr37 rfl rfl rfl rfl Parts.auto Fill.auto) ?_
  intro r2_2 hr2_2 gr2_2
  refine sr_d rfl (wtd_none rfl) rfl (opS_call rfl rfl rfl rfl cl7 (row_s ⟨0, 1, 5⟩ 0 _ 1 [⟨1, 0, 0, 0, 0, 0, 2, 4, 0, 1⟩] _ (slv_own (post := []) (fun _ => rfl) mauto) (by intro j hj; simp at hj; subst hj; unfold Job.Wf; decide))) ?_
  rintro _ H9 ⟨rfl, rfl⟩
  rw [show rowS ⟨0, 1, 5⟩ 0 [⟨1, 0, 0, 0, 0, 0, 2, 4, 0, 1⟩] = [46, 46, 98, 98, 46] from by decide +kernel]
  refine sr_c (x_eqB rfl rfl) (fun h1 => ?_) (fun h1 => absurd (by rfl) h1)
  refine sr_as ?_
  refine sr_nil ?_
  refine aw_kp [0] ?_
  refine aw_ret ?_
  show ∃ v H2, ResV _ _ _ _ _ _ v ∧ Sub H2 _ ∧ _
  exact ⟨_, H, resV rfl (.cons rfl .nil), Sub.autoP, ⟨rfl, rfl⟩⟩
end
end Go.Proofs.Ytbcajgkaepihfaa
