/- The numbers of parts. -/
import Derived.Test.YtbcajgkaepihfaaDoorPdmc
import Derived.Test.YtbcajgkaepihfaaDoorStrAsc
namespace Go.Proofs.YtbcajgkaepihfaaDoor
open Go.Proofs.YtbcajgkaepihfaaDoor.Sym
open Go.RowKit (Below)
set_option linter.unusedVariables false
set_option linter.unusedSimpArgs false
structure Part where
  from_ : Int
  to_ : Int
  step : Int
@[reducible] def Part.cells (j : Part) : List Value := [.int .i64 j.from_, .int .i64 j.to_, .int .i64 j.step]
@[reducible] def Part.v (j : Part) : Value := .agg (Part.cells j).toArray
def Part.Wf (j : Part) : Prop := IntKind.min .i64 ≤ j.from_ ∧ j.from_ ≤ IntKind.max .i64 ∧ IntKind.min .i64 ≤ j.to_ ∧ j.to_ ≤ IntKind.max .i64 ∧ IntKind.min .i64 ≤ j.step ∧ j.step ≤ IntKind.max .i64
abbrev PRight (p : Part) : Prop := (0 ≤ p.from_ ∧ p.from_ ≤ p.to_) ∧ p.to_ ≤ 9999 ∧ (1 ≤ p.step ∧ p.step ≤ 9999)
@[reducible] def zeroP : Part := ⟨0, 0, 0⟩
theorem eqC_part {a b : Part} : eqC a.cells b.cells = true ↔ a = b := by
  obtain ⟨a1, a2, a3⟩ := a
  obtain ⟨b1, b2, b3⟩ := b
  simp [eqC, sEq]
def WfP (p : Part) : Prop := (-9223372036854775808 ≤ p.from_ ∧ p.from_ ≤ 9223372036854775807) ∧ (-9223372036854775808 ≤ p.to_ ∧ p.to_ ≤ 9223372036854775807) ∧ (-9223372036854775808 ≤ p.step ∧ p.step ≤ 9223372036854775807)
theorem Part.Wf.w {p : Part} (h : p.Wf) : WfP p := by
  unfold Part.Wf at h
  rw [i64_min, i64_max] at h
  unfold WfP; omega
theorem right_wf {p : Part} (h : PRight p) : WfP p := by unfold PRight at h; unfold WfP; omega
/-! texts -/
theorem num_no {n : Int} {c : UInt8} (h : c ≠ 45 ∧ ¬ isD c) : c ∉ numB n := fun q => (numB_mem q).elim h.1 h.2
theorem num_noM {n : Int} (h : 0 ≤ n) : (45 : UInt8) ∉ numB n := fun q => by
  unfold numB at q
  rw [if_neg (by omega)] at q
  exact absurd (dg_all _ _ q) (by decide)
def numP (s : List UInt8) : Option Int := match readN s with
  | some n => if 0 ≤ n ∧ n ≤ 9999 then some n else none
  | none => none
theorem numP_y {s : List UInt8} {n : Int} (h : readN s = some n) (h1 : 0 ≤ n ∧ n ≤ 9999) : numP s = some n := by unfold numP; rw [h]; exact if_pos h1
theorem numP_n {s : List UInt8} {n : Int} (h : readN s = some n) (h1 : ¬ (0 ≤ n ∧ n ≤ 9999)) : numP s = none := by unfold numP; rw [h]; exact if_neg h1
theorem numP_0 {s : List UInt8} (h : readN s = none) : numP s = none := by unfold numP; rw [h]
theorem numP_inv {s : List UInt8} {n : Int} (h : numP s = some n) : numB n = s ∧ 0 ≤ n ∧ n ≤ 9999 := by
  cases hr : readN s with
  | none => rw [numP_0 hr] at h; cases h
  | some m =>
    by_cases q : 0 ≤ m ∧ m ≤ 9999
    · rw [numP_y hr q] at h
      cases h
      exact ⟨(read_inv hr).1.symm, q⟩
    · rw [numP_n hr q] at h; cases h
theorem numP_num {n : Int} (h : 0 ≤ n ∧ n ≤ 9999) : numP (numB n) = some n := numP_y (read_num (by omega) (by omega)) h
def cutB (c : UInt8) : List UInt8 → Option (List UInt8 × List UInt8)
  | [] => none
  | x :: l => if x = c then some ([], l) else match cutB c l with
    | none => none
    | some (w, r) => some (x :: w, r)
theorem cutB_find {c : UInt8} : ∀ {w r : List UInt8}, c ∉ w → cutB c (w ++ c :: r) = some (w, r)
  | [], r, _ => if_pos rfl
  | x :: w, r, h => by
    rw [List.mem_cons, not_or] at h
    rw [List.cons_append]
    conv => lhs; unfold cutB
    rw [if_neg (fun e => h.1 e.symm), cutB_find h.2]
theorem cutB_none {c : UInt8} : ∀ {l : List UInt8}, c ∉ l → cutB c l = none
  | [], _ => rfl
  | x :: l, h => by
    rw [List.mem_cons, not_or] at h
    show (if x = c then _ else _) = _
    rw [if_neg (fun e => h.1 e.symm), cutB_none h.2]
theorem cutB_some {c : UInt8} : ∀ {l w r : List UInt8}, cutB c l = some (w, r) → l = w ++ c :: r ∧ c ∉ w := by
  intro l w r h
  by_cases q : c ∈ l
  · obtain ⟨w2, r2, rfl, h2⟩ := find_ex q
    rw [cutB_find h2] at h
    cases h
    exact ⟨rfl, h2⟩
  · rw [cutB_none q] at h; cases h
theorem cutB_non {c : UInt8} {l : List UInt8} (h : cutB c l = none) : c ∉ l := fun q => by
  obtain ⟨w, r, rfl, h2⟩ := find_ex q
  rw [cutB_find h2] at h; cases h
def mkP (a b c : Int) : Option Part := if PRight ⟨a, b, c⟩ then some ⟨a, b, c⟩ else none
def stepP (a b : Int) : Option (List UInt8) → Option Part
  | none => mkP a b 1
  | some s => match numP s with
    | none => none
    | some c => if c = 1 then none else mkP a b c
def toP (a : Int) (st : Option (List UInt8)) : Option (List UInt8) → Option Part
  | none => stepP a a st
  | some t => match numP t with
    | none => none
    | some b => if b = a then none else stepP a b st
def fromP (f : List UInt8) (t st : Option (List UInt8)) : Option Part := match numP f with
  | none => none
  | some a => toP a st t
def partB (w : List UInt8) : Option Part := match cutB 58 w with
  | none => (match cutB 45 w with
    | none => fromP w none none
    | some (f, t) => fromP f (some t) none)
  | some (r, s) => (match cutB 45 r with
    | none => fromP r none (some s)
    | some (f, t) => fromP f (some t) (some s))
section
variable {a b c : Int} {f t s : List UInt8} {t' st : Option (List UInt8)}
theorem mkP_y (h : PRight ⟨a, b, c⟩) : mkP a b c = some ⟨a, b, c⟩ := if_pos h
theorem mkP_n (h : ¬ PRight ⟨a, b, c⟩) : mkP a b c = none := if_neg h
theorem stepP_bad (h : numP s = none) : stepP a b (some s) = none := by unfold stepP; dsimp only; rw [h]
theorem stepP_eq (h : numP s = some c) (e : ¬ c ≠ 1) : stepP a b (some s) = none := by unfold stepP; dsimp only; rw [h]; exact if_pos (by omega)
theorem stepP_ok (h : numP s = some c) (e : c ≠ 1) : stepP a b (some s) = mkP a b c := by unfold stepP; dsimp only; rw [h]; exact if_neg e
theorem toP_bad (h : numP t = none) : toP a st (some t) = none := by unfold toP; dsimp only; rw [h]
theorem toP_eq (h : numP t = some b) (e : ¬ b ≠ a) : toP a st (some t) = none := by unfold toP; dsimp only; rw [h]; exact if_pos (by omega)
theorem toP_ok (h : numP t = some b) (e : b ≠ a) : toP a st (some t) = stepP a b st := by unfold toP; dsimp only; rw [h]; exact if_neg e
theorem fromP_bad (h : numP f = none) : fromP f t' st = none := by unfold fromP; rw [h]
theorem fromP_ok (h : numP f = some a) : fromP f t' st = toP a st t' := by unfold fromP; rw [h]
end
def pTxt (p : Part) : List UInt8 := numB p.from_ ++ ((if p.to_ ≠ p.from_ then 45 :: numB p.to_ else []) ++ (if p.step ≠ 1 then 58 :: numB p.step else []))
theorem pTxt_len {p : Part} (h : WfP p) : (pTxt p).length ≤ 62 := by
  have h1 := numB_len h.1.1 h.1.2
  have h2 := numB_len h.2.1.1 h.2.1.2
  have h3 := numB_len h.2.2.1 h.2.2.2
  unfold pTxt
  rw [List.length_append, List.length_append]
  split <;> split <;> simp only [List.length_cons, List.length_nil] <;> omega
theorem pTxt_no {p : Part} : (44 : UInt8) ∉ pTxt p := by
  have q : ∀ n : Int, (44 : UInt8) ∉ numB n := fun n => num_no (by decide)
  unfold pTxt
  rw [List.mem_append, List.mem_append, not_or, not_or]
  refine ⟨q _, ?_, ?_⟩
  · split
    · rw [List.mem_cons, not_or]; exact ⟨by decide, q _⟩
    · simp
  · split
    · rw [List.mem_cons, not_or]; exact ⟨by decide, q _⟩
    · simp
theorem stepP_txt {p : Part} (h : PRight p) : stepP p.from_ p.to_ (if p.step ≠ 1 then some (numB p.step) else none) = some p := by
  by_cases q : p.step ≠ 1
  · rw [if_pos q, stepP_ok (numP_num (by unfold PRight at h; omega)) q]; exact mkP_y h
  · rw [if_neg q]
    show mkP p.from_ p.to_ 1 = _
    have e : p.step = 1 := by omega
    have : (⟨p.from_, p.to_, 1⟩ : Part) = p := by rw [← e]
    unfold mkP
    rw [this, if_pos h]
theorem partB_txt {p : Part} (h : PRight p) : partB (pTxt p) = some p := by
  have hb := h
  unfold PRight at hb
  have n1 : ∀ n : Int, (58 : UInt8) ∉ numB n := fun n => num_no (by decide)
  have n2 : (45 : UInt8) ∉ numB p.from_ := num_noM (by omega)
  have hf : ∀ t st, fromP (numB p.from_) t st = toP p.from_ st t := fun t st => fromP_ok (numP_num (by omega))
  have hs := stepP_txt h
  have key : ∀ (m : List UInt8) (st : Option (List UInt8)), (58 : UInt8) ∉ m → stepP p.from_ p.to_ st = some p →
      (m = numB p.from_ ++ (if p.to_ ≠ p.from_ then 45 :: numB p.to_ else [])) → (match cutB 45 m with | none => fromP m none st | some (f, t) => fromP f (some t) st) = some p := by
    intro m st hm hst hme
    by_cases q : p.to_ ≠ p.from_
    · rw [if_pos q] at hme
      rw [hme, cutB_find n2]
      show fromP (numB p.from_) (some (numB p.to_)) st = _
      rw [hf, toP_ok (numP_num (by omega)) q, hst]
    · rw [if_neg q, List.append_nil] at hme
      rw [hme, cutB_none n2]
      show fromP (numB p.from_) none st = _
      rw [hf]
      show stepP p.from_ p.from_ st = _
      rw [show stepP p.from_ p.from_ st = stepP p.from_ p.to_ st by rw [show p.to_ = p.from_ by omega]]
      exact hst
  have hm : (58 : UInt8) ∉ numB p.from_ ++ (if p.to_ ≠ p.from_ then 45 :: numB p.to_ else []) := by
    rw [List.mem_append, not_or]
    refine ⟨n1 _, ?_⟩
    split
    · rw [List.mem_cons, not_or]; exact ⟨by decide, n1 _⟩
    · simp
  unfold partB
  by_cases q : p.step ≠ 1
  · rw [if_pos q] at hs
    have e : pTxt p = (numB p.from_ ++ (if p.to_ ≠ p.from_ then 45 :: numB p.to_ else [])) ++ 58 :: numB p.step := by unfold pTxt; rw [if_pos q, List.append_assoc]
    rw [e, cutB_find hm]
    exact key _ _ hm hs rfl
  · rw [if_neg q] at hs
    have e : pTxt p = numB p.from_ ++ (if p.to_ ≠ p.from_ then 45 :: numB p.to_ else []) := by unfold pTxt; rw [if_neg q, List.append_nil]
    rw [e, cutB_none hm]
    exact key _ _ hm hs rfl
theorem mkP_inv {a b c : Int} {p : Part} (h : mkP a b c = some p) : PRight p ∧ p = ⟨a, b, c⟩ := by
  unfold mkP at h
  split at h
  · next q => cases h; exact ⟨q, rfl⟩
  · cases h
def stT : Option (List UInt8) → List UInt8
  | none => []
  | some s => 58 :: s
def toT : Option (List UInt8) → List UInt8
  | none => []
  | some s => 45 :: s
theorem stepP_inv {a b : Int} {st : Option (List UInt8)} {p : Part} (h : stepP a b st = some p) : PRight p ∧ p.from_ = a ∧ p.to_ = b ∧ (if p.step ≠ 1 then 58 :: numB p.step else []) = stT st := by
  cases st with
  | none =>
    obtain ⟨h1, rfl⟩ := mkP_inv (show mkP a b 1 = some p from h)
    exact ⟨h1, rfl, rfl, rfl⟩
  | some s =>
    cases hn : numP s with
    | none => rw [stepP_bad hn] at h; cases h
    | some c =>
      by_cases q : c ≠ 1
      · rw [stepP_ok hn q] at h
        obtain ⟨h1, rfl⟩ := mkP_inv h
        exact ⟨h1, rfl, rfl, by dsimp only; rw [if_pos q, (numP_inv hn).1]; rfl⟩
      · rw [stepP_eq hn q] at h; cases h
theorem fromP_inv {f : List UInt8} {t st : Option (List UInt8)} {p : Part} (h : fromP f t st = some p) : PRight p ∧ pTxt p = f ++ (toT t ++ stT st) := by
  cases hn : numP f with
  | none => rw [fromP_bad hn] at h; cases h
  | some a =>
    rw [fromP_ok hn] at h
    cases t with
    | none =>
      obtain ⟨h1, h2, h3, h4⟩ := stepP_inv (show stepP a a st = some p from h)
      refine ⟨h1, ?_⟩
      unfold pTxt
      rw [h4, h2, h3, if_neg (by omega), (numP_inv hn).1]; rfl
    | some t =>
      cases hm : numP t with
      | none => rw [toP_bad hm] at h; cases h
      | some b =>
        by_cases q : b ≠ a
        · rw [toP_ok hm q] at h
          obtain ⟨h1, h2, h3, h4⟩ := stepP_inv h
          refine ⟨h1, ?_⟩
          unfold pTxt
          rw [h4, h2, h3, if_pos q, (numP_inv hn).1, (numP_inv hm).1]; rfl
        · rw [toP_eq hm q] at h; cases h
section
variable {w r s f t : List UInt8}
theorem partB_00 (h1 : (58 : UInt8) ∉ w) (h2 : (45 : UInt8) ∉ w) : partB w = fromP w none none := by unfold partB; rw [cutB_none h1]; dsimp only; rw [cutB_none h2]
theorem partB_01 (h1 : (58 : UInt8) ∉ f ++ 45 :: t) (h2 : (45 : UInt8) ∉ f) : partB (f ++ 45 :: t) = fromP f (some t) none := by unfold partB; rw [cutB_none h1]; dsimp only; rw [cutB_find h2]
theorem partB_10 (h1 : (58 : UInt8) ∉ r) (h2 : (45 : UInt8) ∉ r) : partB (r ++ 58 :: s) = fromP r none (some s) := by unfold partB; rw [cutB_find h1]; dsimp only; rw [cutB_none h2]
theorem partB_11 (h1 : (58 : UInt8) ∉ f ++ 45 :: t) (h2 : (45 : UInt8) ∉ f) : partB ((f ++ 45 :: t) ++ 58 :: s) = fromP f (some t) (some s) := by unfold partB; rw [cutB_find h1]; dsimp only; rw [cutB_find h2]
end
theorem partB_inv {w : List UInt8} {p : Part} (h : partB w = some p) : PRight p ∧ pTxt p = w := by
  cases h1 : cutB 58 w with
  | none =>
    cases h2 : cutB 45 w with
    | none =>
      rw [partB_00 (cutB_non h1) (cutB_non h2)] at h
      obtain ⟨q1, q2⟩ := fromP_inv h
      exact ⟨q1, by rw [q2]; simp [toT, stT]⟩
    | some x =>
      obtain ⟨f, t⟩ := x
      obtain ⟨rfl, hf⟩ := cutB_some h2
      rw [partB_01 (cutB_non h1) hf] at h
      obtain ⟨q1, q2⟩ := fromP_inv h
      exact ⟨q1, by rw [q2]; simp [toT, stT]⟩
  | some y =>
    obtain ⟨r, s⟩ := y
    obtain ⟨rfl, hr⟩ := cutB_some h1
    cases h2 : cutB 45 r with
    | none =>
      rw [partB_10 hr (cutB_non h2)] at h
      obtain ⟨q1, q2⟩ := fromP_inv h
      exact ⟨q1, by rw [q2]; simp [toT, stT]⟩
    | some x =>
      obtain ⟨f, t⟩ := x
      obtain ⟨rfl, hf⟩ := cutB_some h2
      rw [partB_11 hr hf] at h
      obtain ⟨q1, q2⟩ := fromP_inv h
      exact ⟨q1, by rw [q2]; simp [toT, stT]⟩
/-! parts' texts -/
theorem joinW_snoc {c : UInt8} {w : List UInt8} : ∀ {ws : List (List UInt8)}, ws ≠ [] → joinW c (ws ++ [w]) = (joinW c ws ++ [c]) ++ w
  | [], h => absurd rfl h
  | [v], _ => by simp [joinW]
  | v :: u :: ws, _ => by
    have h := joinW_snoc (c := c) (w := w) (ws := u :: ws) (by simp)
    rw [List.cons_append, joinW_cons (w := v) (ws := u :: ws ++ [w]) (by simp), h, joinW_cons (w := v) (ws := u :: ws) (by simp)]; simp
def txtP (l : List Part) : List UInt8 := joinW 44 (l.map pTxt)
theorem txtP_s {l : List Part} {k : Nat} {x : Part} (h : l[k]? = some x) (h0 : 0 < k) : txtP (l.take (k + 1)) = (txtP (l.take k) ++ [44]) ++ pTxt x := by
  unfold txtP
  rw [takeS h, List.map_append]
  have hk := get_lt h
  exact joinW_snoc (by
    intro q
    have := congrArg List.length q
    rw [List.length_map, List.length_take, List.length_nil] at this
    omega)
theorem txtP_0 {l : List Part} {k : Nat} {x : Part} (h : l[k]? = some x) (h0 : ¬ 0 < k) : txtP (l.take (k + 1)) = txtP (l.take k) ++ pTxt x := by
  obtain rfl : k = 0 := by omega
  unfold txtP
  rw [takeS h]; rfl
theorem txtP_len : ∀ {l : List Part}, (∀ x ∈ l, WfP x) → (txtP l).length ≤ 63 * l.length
  | [], _ => by simp [txtP, joinW]
  | [v], h => by have := pTxt_len (h v (by simp)); simp [txtP, joinW]; omega
  | v :: u :: l, h => by
    have h1 := pTxt_len (h v (by simp))
    have h2 := txtP_len (l := u :: l) fun w hw => h w (List.mem_cons_of_mem _ hw)
    unfold txtP at h2 ⊢
    rw [List.map_cons, joinW_cons (by simp), List.length_append, List.length_cons, List.length_cons]
    omega
theorem spl_txtP {l : List Part} (h : l ≠ []) : spl 44 (txtP l) = l.map pTxt := spl_join (by simpa using h) (by
  intro w hw
  rw [List.mem_map] at hw
  obtain ⟨x, _, rfl⟩ := hw
  exact pTxt_no)
def rdP (acc : List Part) : List (List UInt8) → List Part × Int
  | [] => (acc, 0)
  | w :: ws => match partB w with
    | none => ([], 4)
    | some p => rdP (acc ++ [p]) ws
def parseP (s : List UInt8) : List Part × Int := if 4096 < s.length then ([], 3) else rdP [] (spl 44 s)
section
variable {acc : List Part} {w : List UInt8} {ws : List (List UInt8)}
theorem rdP_bad (h : partB w = none) : rdP acc (w :: ws) = ([], 4) := by unfold rdP; rw [h]
theorem rdP_ok {p : Part} (h : partB w = some p) : rdP acc (w :: ws) = rdP (acc ++ [p]) ws := by
  conv => lhs; unfold rdP
  rw [h]
end
theorem rdP_txt : ∀ (l acc : List Part), (∀ p ∈ l, PRight p) → rdP acc (l.map pTxt) = (acc ++ l, 0)
  | [], acc, _ => by rw [List.append_nil]; rfl
  | p :: l, acc, h => by rw [List.map_cons, rdP_ok (partB_txt (h p List.mem_cons_self)), rdP_txt l _ (fun x hx => h x (List.mem_cons_of_mem _ hx)), List.append_assoc]; rfl
theorem rdP_inv : ∀ (ws : List (List UInt8)) (acc : List Part), (rdP acc ws = ([], 4)) ∨ ∃ ps, rdP acc ws = (acc ++ ps, 0) ∧ (∀ p ∈ ps, PRight p) ∧ ps.map pTxt = ws
  | [], acc => .inr ⟨[], by rw [List.append_nil]; rfl, by simp, rfl⟩
  | w :: ws, acc => by
    cases h : partB w with
    | none => exact .inl (rdP_bad h)
    | some p =>
      obtain ⟨q1, q2⟩ := partB_inv h
      rw [rdP_ok h]
      rcases rdP_inv ws (acc ++ [p]) with h1 | ⟨ps, h1, h2, h3⟩
      · exact .inl h1
      · refine .inr ⟨p :: ps, by rw [h1, List.append_assoc]; rfl, fun x hx => ?_, by rw [List.map_cons, q2, h3]⟩
        rw [List.mem_cons] at hx
        rcases hx with rfl | hx
        · exact q1
        · exact h2 x hx
theorem parseP_txt {l : List Part} (h : l ≠ []) (hr : ∀ p ∈ l, PRight p) (hl : (txtP l).length ≤ 4096) : parseP (txtP l) = (l, 0) := by
  unfold parseP
  rw [if_neg (by omega), spl_txtP h, rdP_txt l [] hr]; rfl
theorem parseP_long {s : List UInt8} (h : 4096 < s.length) : parseP s = ([], 3) := if_pos h
theorem parseP_go {s : List UInt8} (h : ¬ 4096 < s.length) : parseP s = rdP [] (spl 44 s) := if_neg h
theorem parseP_cases {s : List UInt8} (h : s.length ≤ 100) : (parseP s = ([], 4) ∧ ∀ l : List Part, l ≠ [] → (∀ p ∈ l, PRight p) → txtP l ≠ s) ∨ ∃ ps, parseP s = (ps, 0) ∧ ps ≠ [] ∧ (∀ p ∈ ps, PRight p) ∧ txtP ps = s := by
  rw [parseP_go (by omega)]
  rcases rdP_inv (spl 44 s) [] with h1 | ⟨ps, h1, h2, h3⟩
  · refine .inl ⟨h1, fun l h4 h5 h6 => ?_⟩
    rw [← h6, spl_txtP h4, rdP_txt l [] h5] at h1
    exact absurd (congrArg Prod.snd h1) (by simp)
  · refine .inr ⟨ps, h1, fun e => ?_, h2, ?_⟩
    · subst e; exact spl_ne 44 s h3.symm
    · unfold txtP; rw [h3, join_spl]
/-! numbers -/
def manyI (p : Part) : Int := if PRight p then (p.to_ - p.from_) / p.step + 1 else 0
theorem many_n {p : Part} (h : ¬ PRight p) : manyI p = 0 := if_neg h
theorem many_y {p : Part} (h : PRight p) : manyI p = (p.to_ - p.from_) / p.step + 1 := if_pos h
theorem quo_bd {p : Part} (h : PRight p) : 0 ≤ (p.to_ - p.from_) / p.step ∧ (p.to_ - p.from_) / p.step ≤ 9999 := by
  unfold PRight at h
  have h1 : 0 ≤ (p.to_ - p.from_) / p.step := Int.ediv_nonneg (by omega) (by omega)
  have h2 : (p.to_ - p.from_) / p.step ≤ p.to_ - p.from_ := Int.ediv_le_self _ (by omega)
  omega
theorem quo_t {p : Part} (h : PRight p) : IntKind.i64.wrap ((p.to_ - p.from_).tdiv p.step) = (p.to_ - p.from_) / p.step := by
  have hb := quo_bd h
  unfold PRight at h
  rw [Int.tdiv_eq_ediv_of_nonneg (by omega), i64w (by omega) (by omega)]
theorem many_bd (p : Part) : 0 ≤ manyI p ∧ manyI p ≤ 10000 := by
  by_cases h : PRight p
  · rw [many_y h]; have := quo_bd h; omega
  · rw [many_n h]; omega
def partT (p : Part) (j : Nat) : List Int := (List.range j).map fun (i : Nat) => p.from_ + (i : Int) * p.step
theorem partT_len {p : Part} {j : Nat} : (partT p j).length = j := by unfold partT; simp
theorem partT_succ (p : Part) (j : Nat) : partT p (j + 1) = partT p j ++ [p.from_ + (j : Int) * p.step] := by
  unfold partT; rw [List.range_succ, List.map_append]; rfl
def partL (p : Part) : List Int := partT p (manyI p).toNat
theorem partT_end {p : Part} {j : Nat} (h : PRight p) (h1 : p.to_ < p.from_ + (j : Int) * p.step) (h2 : p.from_ + (j : Int) * p.step ≤ p.to_ + p.step) : partT p j = partL p := by
  have hp := h
  unfold PRight at hp
  have hj : 1 ≤ j := by
    rcases Nat.eq_zero_or_pos j with e | e
    · subst e; simp at h1; omega
    · exact e
  have e : (p.to_ - p.from_) / p.step = (j : Int) - 1 := by
    have q1 : ((j : Int) - 1) * p.step = (j : Int) * p.step - p.step := by rw [Int.sub_mul, Int.one_mul]
    apply Int.le_antisymm
    · have : (p.to_ - p.from_) / p.step < (j : Int) := by rw [Int.ediv_lt_iff_lt_mul (by omega)]; omega
      omega
    · rw [Int.le_ediv_iff_mul_le (by omega), q1]; omega
  unfold partL
  rw [many_y h, e, show ((j : Int) - 1 + 1).toNat = j by omega]
def numG (acc : List Int) : List Part → Sum (List Int) Int
  | [] => .inl acc
  | p :: ps => if ¬ PRight p then .inr 5 else if 1000 < manyI p ∨ 16000 < (acc.length : Int) + manyI p then .inr 6 else numG (acc ++ partL p) ps
section
variable {acc : List Int} {p : Part} {ps : List Part}
theorem numG_bad (h : ¬ PRight p) : numG acc (p :: ps) = .inr 5 := if_pos h
theorem numG_full (h : PRight p) (h2 : 1000 < manyI p ∨ 16000 < (acc.length : Int) + manyI p) : numG acc (p :: ps) = .inr 6 := by
  conv => lhs; unfold numG
  rw [if_neg (fun q => q h), if_pos h2]
theorem numG_ok (h : PRight p) (h2 : ¬ (1000 < manyI p ∨ 16000 < (acc.length : Int) + manyI p)) : numG acc (p :: ps) = numG (acc ++ partL p) ps := by
  conv => lhs; unfold numG
  rw [if_neg (fun q => q h), if_neg h2]
end
def NumO (o : Sum (List Int) Int) (ys : List Int) (e : Int) : Prop := match o with
  | .inr e' => ys = [] ∧ e = e'
  | .inl xs => ∃ zs, Tms xs zs ∧ ((1000 < zs.length ∧ ys = [] ∧ e = 6) ∨ (zs.length ≤ 1000 ∧ ys = zs ∧ e = 0))
def NumR (l : List Part) (ys : List Int) (e : Int) : Prop := NumO (numG [] l) ys e
theorem NumR.uniq {l : List Part} {ys zs : List Int} {e d : Int} (h : NumR l ys e) (k : NumR l zs d) : ys = zs ∧ e = d := by
  unfold NumR at h k
  cases hg : numG [] l with
  | inr c =>
    rw [hg] at h k
    exact ⟨h.1.trans k.1.symm, h.2.trans k.2.symm⟩
  | inl xs =>
    rw [hg] at h k
    obtain ⟨z1, t1, h1⟩ := h
    obtain ⟨z2, t2, k1⟩ := k
    obtain rfl := t1.uniq t2
    rcases h1 with ⟨a1, a2, a3⟩ | ⟨a1, a2, a3⟩ <;> rcases k1 with ⟨b1, b2, b3⟩ | ⟨b1, b2, b3⟩
    · exact ⟨a2.trans b2.symm, a3.trans b3.symm⟩
    · omega
    · omega
    · exact ⟨a2.trans b2.symm, a3.trans b3.symm⟩
theorem jstep_le {p : Part} {j : Nat} (h : PRight p) (h1 : p.from_ + (j : Int) * p.step ≤ p.to_) : j ≤ 9999 := by
  unfold PRight at h
  have h2 : (j : Int) * 1 ≤ (j : Int) * p.step := Int.mul_le_mul_of_nonneg_left (by omega) (by omega)
  omega
structure NuG where
  k : Nat
  acc : List Int
  sl : Value
  E : SHeap
structure InG where
  j : Nat
  sl : Value
  E : SHeap
structure PpG where
  k : Nat
  acc : List Part
  sl : Value
  E : SHeap
theorem drop_at {α : Type} {xs : List α} {k : Nat} {x : α} (h : xs[k]? = some x) : xs.drop k = x :: xs.drop (k + 1) := by
  have hk := get_lt h
  have e : xs[k] = x := by rw [List.getElem_eq_iff]; exact h
  rw [← e]; exact List.drop_eq_getElem_cons hk
theorem spl_mem_len {c : UInt8} {l : List UInt8} : ∀ w ∈ spl c l, w.length ≤ l.length := by
  refine spl_ind (c := c) (p := fun l => ∀ w ∈ spl c l, w.length ≤ l.length) (fun l h => by rw [spl_none h]; simp) (fun w r hw ih => ?_) l
  rw [spl_find hw]
  intro x hx
  rw [List.mem_cons] at hx
  rw [List.length_append, List.length_cons]
  rcases hx with rfl | hx
  · omega
  · have := ih x hx; omega
theorem awk_num {ys : List Int} {e : Int} (h : NumR [⟨1, 9, 4⟩, ⟨20, 20, 1⟩] ys e) : ys = [1, 5, 9, 20] ∧ e = 0 := by
  have hg : numG [] [⟨1, 9, 4⟩, ⟨20, 20, 1⟩] = .inl [1, 5, 9, 20] := by decide +kernel
  unfold NumR at h
  rw [hg] at h
  obtain ⟨z, t, h1⟩ := h
  have h2 : Tms [1, 5, 9, 20] [1, 5, 9, 20] := ⟨by decide, fun t => Iff.rfl⟩
  obtain rfl := t.uniq h2
  rcases h1 with ⟨a1, _⟩ | ⟨_, a2, a3⟩
  · exact absurd a1 (by decide)
  · exact ⟨a2, a3⟩
theorem ag67 : aggOf Tryd.prog 67 = some true := by kernel_rfl
theorem by3 : bytesOf Tryd.prog 3 = some 8 := by kernel_rfl
theorem cl40 : Callable Tryd.prog 40 := ⟨Tryd.f40, Tryd.func40, by kernel_rfl, by kernel_rfl⟩
theorem cl41 : Callable Tryd.prog 41 := ⟨Tryd.f41, Tryd.func41, by kernel_rfl, by kernel_rfl⟩
theorem cl67 : Callable Tryd.prog 67 := ⟨Tryd.f67, Tryd.func67, by kernel_rfl, by kernel_rfl⟩
theorem cl68 : Callable Tryd.prog 68 := ⟨Tryd.f68, Tryd.func68, by kernel_rfl, by kernel_rfl⟩
theorem fd67_0 : fldOf Tryd.prog 67 0 = some (0, 3, 1) := by kernel_rfl
theorem fd67_1 : fldOf Tryd.prog 67 1 = some (1, 3, 1) := by kernel_rfl
theorem fd67_2 : fldOf Tryd.prog 67 2 = some (2, 3, 1) := by kernel_rfl
theorem sz67 : szOf Tryd.prog 67 = some 3 := by kernel_rfl
theorem zr67 : zeroOf Tryd.prog 67 = some (.agg #[.int .i64 0, .int .i64 0, .int .i64 0]) := by kernel_rfl
section
variable {W0 : World}
set_option maxRecDepth 100000 in
set_option maxHeartbeats 1000000 in
theorem lpright_s (p : Part) (H : SHeap) : AC Tryd.prog W0 39 [p.v] H (fun v H' => v = .bool (decide (PRight p)) ∧ H' = H) := by
  refine ac_of Tryd.func39 rfl rfl rfl ?_
  refine aw_seq_region ?_
  refine sr_new rfl (wtd_none rfl) rfl (x_box rfl rfl) ?_
  intro r0_0 hr0_0 gr0_0
  refine sr_as ?_
  refine sr_nil ?_
  refine aw_kp [1, 2] ?_
  refine aw_seq_region ?_
  refine sr_rd (x_fieldAddr fd67_0 rfl) ?_
  refine sr_rd (x_load ag3 rfl (cells_ext mauto Ext.auto)) ?_
  refine sr_c (x_ge rfl rfl) (fun h1 => ?_) (fun h1 => ?_)
  · refine sr_mv ?_
    refine sr_ry (x_fieldAddr fd67_0 rfl) ?_
    refine sr_ry (x_load ag3 rfl (cells_ext mauto Ext.auto)) ?_
    refine sr_ry (x_fieldAddr fd67_1 rfl) ?_
    refine sr_ry (x_load ag3 rfl (cells_ext mauto Ext.auto)) ?_
    refine sr_cy (x_le rfl rfl) (fun h2 => ?_) (fun h2 => ?_)
    · refine sr_rd (x_pick_t rfl rfl rfl) ?_
      refine sr_mv ?_
      refine sr_ry (x_fieldAddr fd67_1 rfl) ?_
      refine sr_ry (x_load ag3 rfl (cells_ext mauto Ext.auto)) ?_
      refine sr_cy (x_le rfl rfl) (fun h3 => ?_) (fun h3 => ?_)
      · refine sr_rd (x_pick_t rfl rfl rfl) ?_
        refine sr_mv ?_
        refine sr_ry (x_fieldAddr fd67_2 rfl) ?_
        refine sr_ry (x_load ag3 rfl (cells_ext mauto Ext.auto)) ?_
        refine sr_cy (x_ge rfl rfl) (fun h4 => ?_) (fun h4 => ?_)
        · refine sr_rd (x_pick_t rfl rfl rfl) ?_
          refine sr_mv ?_
          refine sr_ry (x_fieldAddr fd67_2 rfl) ?_
          refine sr_ry (x_load ag3 rfl (cells_ext mauto Ext.auto)) ?_
          refine sr_cy (x_le rfl rfl) (fun h5 => ?_) (fun h5 => ?_)
          · refine sr_rd (x_pick_t rfl rfl rfl) ?_
            refine sr_as ?_
            refine sr_nil ?_
            refine aw_kp [2] ?_
            refine aw_ret ?_
            show ∃ v H2, ResV _ _ _ _ _ _ v ∧ Sub H2 _ ∧ _
            exact ⟨_, H, resV rfl (.cons rfl .nil), Sub.autoP, ⟨congrArg Value.bool (by first | exact (decide_eq_true (p := PRight p) (by unfold PRight; omega)).symm | exact (decide_eq_false (p := PRight p) (by unfold PRight; omega)).symm), rfl⟩⟩
          · refine sr_rd (x_pick_t rfl rfl rfl) ?_
            refine sr_as ?_
            refine sr_nil ?_
            refine aw_kp [2] ?_
            refine aw_ret ?_
            show ∃ v H2, ResV _ _ _ _ _ _ v ∧ Sub H2 _ ∧ _
            exact ⟨_, H, resV rfl (.cons rfl .nil), Sub.autoP, ⟨congrArg Value.bool (by first | exact (decide_eq_true (p := PRight p) (by unfold PRight; omega)).symm | exact (decide_eq_false (p := PRight p) (by unfold PRight; omega)).symm), rfl⟩⟩
        · refine sr_rd (x_pick_t rfl rfl rfl) ?_
          refine sr_mv ?_
          refine sr_sk ?_
          refine sr_sk ?_
          refine sr_sk ?_
          refine sr_rd (x_pick_f rfl rfl rfl) ?_
          refine sr_as ?_
          refine sr_nil ?_
          refine aw_kp [2] ?_
          refine aw_ret ?_
          show ∃ v H2, ResV _ _ _ _ _ _ v ∧ Sub H2 _ ∧ _
          exact ⟨_, H, resV rfl (.cons rfl .nil), Sub.autoP, ⟨congrArg Value.bool (by first | exact (decide_eq_true (p := PRight p) (by unfold PRight; omega)).symm | exact (decide_eq_false (p := PRight p) (by unfold PRight; omega)).symm), rfl⟩⟩
      · refine sr_rd (x_pick_t rfl rfl rfl) ?_
        refine sr_mv ?_
        refine sr_sk ?_
        refine sr_sk ?_
        refine sr_sk ?_
        refine sr_rd (x_pick_f rfl rfl rfl) ?_
        refine sr_mv ?_
        refine sr_sk ?_
        refine sr_sk ?_
        refine sr_sk ?_
        refine sr_rd (x_pick_f rfl rfl rfl) ?_
        refine sr_as ?_
        refine sr_nil ?_
        refine aw_kp [2] ?_
        refine aw_ret ?_
        show ∃ v H2, ResV _ _ _ _ _ _ v ∧ Sub H2 _ ∧ _
        exact ⟨_, H, resV rfl (.cons rfl .nil), Sub.autoP, ⟨congrArg Value.bool (by first | exact (decide_eq_true (p := PRight p) (by unfold PRight; omega)).symm | exact (decide_eq_false (p := PRight p) (by unfold PRight; omega)).symm), rfl⟩⟩
    · refine sr_rd (x_pick_t rfl rfl rfl) ?_
      refine sr_mv ?_
      refine sr_sk ?_
      refine sr_sk ?_
      refine sr_sk ?_
      refine sr_rd (x_pick_f rfl rfl rfl) ?_
      refine sr_mv ?_
      refine sr_sk ?_
      refine sr_sk ?_
      refine sr_sk ?_
      refine sr_rd (x_pick_f rfl rfl rfl) ?_
      refine sr_mv ?_
      refine sr_sk ?_
      refine sr_sk ?_
      refine sr_sk ?_
      refine sr_rd (x_pick_f rfl rfl rfl) ?_
      refine sr_as ?_
      refine sr_nil ?_
      refine aw_kp [2] ?_
      refine aw_ret ?_
      show ∃ v H2, ResV _ _ _ _ _ _ v ∧ Sub H2 _ ∧ _
      exact ⟨_, H, resV rfl (.cons rfl .nil), Sub.autoP, ⟨congrArg Value.bool (by first | exact (decide_eq_true (p := PRight p) (by unfold PRight; omega)).symm | exact (decide_eq_false (p := PRight p) (by unfold PRight; omega)).symm), rfl⟩⟩
  · refine sr_mv ?_
    refine sr_sk ?_
    refine sr_sk ?_
    refine sr_sk ?_
    refine sr_sk ?_
    refine sr_sk ?_
    refine sr_rd (x_pick_f rfl rfl rfl) ?_
    refine sr_mv ?_
    refine sr_sk ?_
    refine sr_sk ?_
    refine sr_sk ?_
    refine sr_rd (x_pick_f rfl rfl rfl) ?_
    refine sr_mv ?_
    refine sr_sk ?_
    refine sr_sk ?_
    refine sr_sk ?_
    refine sr_rd (x_pick_f rfl rfl rfl) ?_
    refine sr_mv ?_
    refine sr_sk ?_
    refine sr_sk ?_
    refine sr_sk ?_
    refine sr_rd (x_pick_f rfl rfl rfl) ?_
    refine sr_as ?_
    refine sr_nil ?_
    refine aw_kp [2] ?_
    refine aw_ret ?_
    show ∃ v H2, ResV _ _ _ _ _ _ v ∧ Sub H2 _ ∧ _
    exact ⟨_, H, resV rfl (.cons rfl .nil), Sub.autoP, ⟨congrArg Value.bool (by first | exact (decide_eq_true (p := PRight p) (by unfold PRight; omega)).symm | exact (decide_eq_false (p := PRight p) (by unfold PRight; omega)).symm), rfl⟩⟩
set_option maxRecDepth 100000 in
set_option maxHeartbeats 1000000 in
theorem pright_s (p : Part) (H : SHeap) : AC Tryd.prog W0 40 [p.v] H (fun v H' => v = .bool (decide (PRight p)) ∧ H' = H) := by
  refine ac_of Tryd.func40 rfl rfl rfl ?_
  refine aw_seq_region ?_
  refine sr_new rfl (wtd_none rfl) rfl (x_box rfl rfl) ?_
  intro r0_0 hr0_0 gr0_0
  refine sr_as ?_
  refine sr_nil ?_
  refine aw_kp [1, 2] ?_
  refine aw_seq_region ?_
  refine sr_rd (x_fieldAddr fd67_0 rfl) ?_
  refine sr_rd (x_load ag3 rfl (cells_ext mauto Ext.auto)) ?_
  refine sr_c (x_ge rfl rfl) (fun h1 => ?_) (fun h1 => ?_)
  · refine sr_mv ?_
    refine sr_ry (x_fieldAddr fd67_0 rfl) ?_
    refine sr_ry (x_load ag3 rfl (cells_ext mauto Ext.auto)) ?_
    refine sr_ry (x_fieldAddr fd67_1 rfl) ?_
    refine sr_ry (x_load ag3 rfl (cells_ext mauto Ext.auto)) ?_
    refine sr_cy (x_le rfl rfl) (fun h2 => ?_) (fun h2 => ?_)
    · refine sr_rd (x_pick_t rfl rfl rfl) ?_
      refine sr_mv ?_
      refine sr_ry (x_fieldAddr fd67_1 rfl) ?_
      refine sr_ry (x_load ag3 rfl (cells_ext mauto Ext.auto)) ?_
      refine sr_cy (x_le rfl rfl) (fun h3 => ?_) (fun h3 => ?_)
      · refine sr_rd (x_pick_t rfl rfl rfl) ?_
        refine sr_mv ?_
        refine sr_ry (x_fieldAddr fd67_2 rfl) ?_
        refine sr_ry (x_load ag3 rfl (cells_ext mauto Ext.auto)) ?_
        refine sr_cy (x_ge rfl rfl) (fun h4 => ?_) (fun h4 => ?_)
        · refine sr_rd (x_pick_t rfl rfl rfl) ?_
          refine sr_mv ?_
          refine sr_ry (x_fieldAddr fd67_2 rfl) ?_
          refine sr_ry (x_load ag3 rfl (cells_ext mauto Ext.auto)) ?_
          refine sr_cy (x_le rfl rfl) (fun h5 => ?_) (fun h5 => ?_)
          · refine sr_rd (x_pick_t rfl rfl rfl) ?_
            refine sr_as ?_
            refine sr_nil ?_
            refine aw_kp [2] ?_
            refine aw_ret ?_
            show ∃ v H2, ResV _ _ _ _ _ _ v ∧ Sub H2 _ ∧ _
            exact ⟨_, H, resV rfl (.cons rfl .nil), Sub.autoP, ⟨congrArg Value.bool (by first | exact (decide_eq_true (p := PRight p) (by unfold PRight; omega)).symm | exact (decide_eq_false (p := PRight p) (by unfold PRight; omega)).symm), rfl⟩⟩
          · refine sr_rd (x_pick_t rfl rfl rfl) ?_
            refine sr_as ?_
            refine sr_nil ?_
            refine aw_kp [2] ?_
            refine aw_ret ?_
            show ∃ v H2, ResV _ _ _ _ _ _ v ∧ Sub H2 _ ∧ _
            exact ⟨_, H, resV rfl (.cons rfl .nil), Sub.autoP, ⟨congrArg Value.bool (by first | exact (decide_eq_true (p := PRight p) (by unfold PRight; omega)).symm | exact (decide_eq_false (p := PRight p) (by unfold PRight; omega)).symm), rfl⟩⟩
        · refine sr_rd (x_pick_t rfl rfl rfl) ?_
          refine sr_mv ?_
          refine sr_sk ?_
          refine sr_sk ?_
          refine sr_sk ?_
          refine sr_rd (x_pick_f rfl rfl rfl) ?_
          refine sr_as ?_
          refine sr_nil ?_
          refine aw_kp [2] ?_
          refine aw_ret ?_
          show ∃ v H2, ResV _ _ _ _ _ _ v ∧ Sub H2 _ ∧ _
          exact ⟨_, H, resV rfl (.cons rfl .nil), Sub.autoP, ⟨congrArg Value.bool (by first | exact (decide_eq_true (p := PRight p) (by unfold PRight; omega)).symm | exact (decide_eq_false (p := PRight p) (by unfold PRight; omega)).symm), rfl⟩⟩
      · refine sr_rd (x_pick_t rfl rfl rfl) ?_
        refine sr_mv ?_
        refine sr_sk ?_
        refine sr_sk ?_
        refine sr_sk ?_
        refine sr_rd (x_pick_f rfl rfl rfl) ?_
        refine sr_mv ?_
        refine sr_sk ?_
        refine sr_sk ?_
        refine sr_sk ?_
        refine sr_rd (x_pick_f rfl rfl rfl) ?_
        refine sr_as ?_
        refine sr_nil ?_
        refine aw_kp [2] ?_
        refine aw_ret ?_
        show ∃ v H2, ResV _ _ _ _ _ _ v ∧ Sub H2 _ ∧ _
        exact ⟨_, H, resV rfl (.cons rfl .nil), Sub.autoP, ⟨congrArg Value.bool (by first | exact (decide_eq_true (p := PRight p) (by unfold PRight; omega)).symm | exact (decide_eq_false (p := PRight p) (by unfold PRight; omega)).symm), rfl⟩⟩
    · refine sr_rd (x_pick_t rfl rfl rfl) ?_
      refine sr_mv ?_
      refine sr_sk ?_
      refine sr_sk ?_
      refine sr_sk ?_
      refine sr_rd (x_pick_f rfl rfl rfl) ?_
      refine sr_mv ?_
      refine sr_sk ?_
      refine sr_sk ?_
      refine sr_sk ?_
      refine sr_rd (x_pick_f rfl rfl rfl) ?_
      refine sr_mv ?_
      refine sr_sk ?_
      refine sr_sk ?_
      refine sr_sk ?_
      refine sr_rd (x_pick_f rfl rfl rfl) ?_
      refine sr_as ?_
      refine sr_nil ?_
      refine aw_kp [2] ?_
      refine aw_ret ?_
      show ∃ v H2, ResV _ _ _ _ _ _ v ∧ Sub H2 _ ∧ _
      exact ⟨_, H, resV rfl (.cons rfl .nil), Sub.autoP, ⟨congrArg Value.bool (by first | exact (decide_eq_true (p := PRight p) (by unfold PRight; omega)).symm | exact (decide_eq_false (p := PRight p) (by unfold PRight; omega)).symm), rfl⟩⟩
  · refine sr_mv ?_
    refine sr_sk ?_
    refine sr_sk ?_
    refine sr_sk ?_
    refine sr_sk ?_
    refine sr_sk ?_
    refine sr_rd (x_pick_f rfl rfl rfl) ?_
    refine sr_mv ?_
    refine sr_sk ?_
    refine sr_sk ?_
    refine sr_sk ?_
    refine sr_rd (x_pick_f rfl rfl rfl) ?_
    refine sr_mv ?_
    refine sr_sk ?_
    refine sr_sk ?_
    refine sr_sk ?_
    refine sr_rd (x_pick_f rfl rfl rfl) ?_
    refine sr_mv ?_
    refine sr_sk ?_
    refine sr_sk ?_
    refine sr_sk ?_
    refine sr_rd (x_pick_f rfl rfl rfl) ?_
    refine sr_as ?_
    refine sr_nil ?_
    refine aw_kp [2] ?_
    refine aw_ret ?_
    show ∃ v H2, ResV _ _ _ _ _ _ v ∧ Sub H2 _ ∧ _
    exact ⟨_, H, resV rfl (.cons rfl .nil), Sub.autoP, ⟨congrArg Value.bool (by first | exact (decide_eq_true (p := PRight p) (by unfold PRight; omega)).symm | exact (decide_eq_false (p := PRight p) (by unfold PRight; omega)).symm), rfl⟩⟩
set_option maxRecDepth 100000 in
set_option maxHeartbeats 400000 in
theorem fewp_s (a : Option Addr) (cap : Nat) (xs : List Part) (H : SHeap) (hle : xs.length ≤ cap) (hcb : cap ≤ 9223372036854775807) : AC Tryd.prog W0 38 [.slice a xs.length cap] H (fun v H' => v = .slice a (xs.take 20).length cap ∧ H' = H) := by
  refine ac_of Tryd.func38 rfl rfl rfl ?_
  refine aw_seq_region ?_
  refine sr_as ?_
  refine sr_nil ?_
  refine aw_kp [0, 2] ?_
  refine aw_seq ?_
  refine aw_seq_region ?_
  refine sr_mv ?_
  refine sr_rd (x_lenSlice Tryd.underlying62 rfl) ?_
  refine sr_c (x_gt rfl rfl) (fun h1 => ?_) (fun h1 => ?_)
  · refine sr_nil ?_
    refine aw_kp [0, 2, 5] ?_
    refine aw_true rfl ?_
    refine aw_seq_region ?_
    refine sr_mv ?_
    refine sr_rd (x_sliceHi Tryd.underlying62 sz67 rfl rfl (by omega) (by omega)) ?_
    refine sr_as ?_
    refine sr_nil ?_
    refine aw_kp [0, 2] ?_
    refine aw_ret ?_
    show ∃ v H2, ResV _ _ _ _ _ _ v ∧ Sub H2 _ ∧ _
    exact ⟨_, H, resV rfl (.cons rfl .nil), (by repeat (first | exact Sub.refl _ | apply Sub.drop)), ⟨by simp only [pack, List.length_take]; congr 1; omega, rfl⟩⟩
  · refine sr_nil ?_
    refine aw_kp [0, 2, 5] ?_
    refine aw_false rfl ?_
    refine aw_skip ?_
    show AW _ _ _ _ _ _ _
    refine aw_seq_region ?_
    refine sr_mv ?_
    refine sr_as ?_
    refine sr_nil ?_
    refine aw_kp [2] ?_
    refine aw_ret ?_
    show ∃ v H2, ResV _ _ _ _ _ _ v ∧ Sub H2 _ ∧ _
    exact ⟨_, H, resV rfl (.cons rfl .nil), (by repeat (first | exact Sub.refl _ | apply Sub.drop)), ⟨by simp only [pack, List.length_take]; congr 1; omega, rfl⟩⟩
set_option maxRecDepth 100000 in
set_option maxHeartbeats 400000 in
theorem many_s (p : Part) (H : SHeap) : AC Tryd.prog W0 41 [p.v] H (fun v H' => v = .int .i64 (manyI p) ∧ H' = H) := by
  refine ac_of Tryd.func41 rfl rfl rfl ?_
  refine aw_seq_region ?_
  refine sr_new rfl (wtd_none rfl) rfl (x_box rfl rfl) ?_
  intro r0_0 hr0_0 gr0_0
  refine sr_as ?_
  refine sr_nil ?_
  refine aw_kp [1, 2] ?_
  refine aw_seq ?_
  refine aw_seq_region ?_
  refine sr_rd (x_loadN ag67 sz67 rfl (cells_ext mauto Ext.auto) rfl) ?_
  refine sr_d rfl (wtd_none rfl) rfl (opS_call rfl rfl rfl rfl cl40 (pright_s p _)) ?_
  rintro _ H9 ⟨rfl, rfl⟩
  generalize hd : decide (PRight p) = d1
  cases d1
  · refine sr_rd (x_not rfl) ?_
    refine sr_nil ?_
    refine aw_kp [1, 2, 5] ?_
    refine aw_true rfl ?_
    refine aw_seq_region ?_
    refine sr_as ?_
    refine sr_nil ?_
    refine aw_kp [1, 2] ?_
    refine aw_ret ?_
    show ∃ v H2, ResV _ _ _ _ _ _ v ∧ Sub H2 _ ∧ _
    exact ⟨_, H, resV rfl (.cons rfl .nil), Sub.autoP, (by first | exact ⟨congrArg (Value.int .i64) (many_y hR).symm, rfl⟩ | exact ⟨congrArg (Value.int .i64) (many_n (of_decide_eq_false hd)).symm, rfl⟩)⟩
  · refine sr_rd (x_not rfl) ?_
    refine sr_nil ?_
    refine aw_kp [1, 2, 5] ?_
    refine aw_false rfl ?_
    refine aw_skip ?_
    show AW _ _ _ _ _ _ _
    refine aw_seq_region ?_
    have hR : PRight p := of_decide_eq_true hd
    have hqb := quo_bd hR
    have hR2 := hR
    unfold PRight at hR2
    refine sr_rd (x_fieldAddr fd67_1 rfl) ?_
    refine sr_rd (x_load ag3 rfl (cells_ext mauto Ext.auto)) ?_
    refine sr_rd (x_fieldAddr fd67_0 rfl) ?_
    refine sr_rd (x_load ag3 rfl (cells_ext mauto Ext.auto)) ?_
    refine sr_rd (x_sub' rfl rfl (i64w (by omega) (by omega))) ?_
    refine sr_rd (x_fieldAddr fd67_2 rfl) ?_
    refine sr_rd (x_load ag3 rfl (cells_ext mauto Ext.auto)) ?_
    refine sr_rd (x_quo' (c := (p.to_ - p.from_) / p.step) rfl rfl (by omega) (quo_t hR)) ?_
    refine sr_rd (x_add' rfl rfl (i64w (by omega) (by omega))) ?_
    refine sr_as ?_
    refine sr_nil ?_
    refine aw_kp [2] ?_
    refine aw_ret ?_
    show ∃ v H2, ResV _ _ _ _ _ _ v ∧ Sub H2 _ ∧ _
    exact ⟨_, H, resV rfl (.cons rfl .nil), Sub.autoP, (by first | exact ⟨congrArg (Value.int .i64) (many_y hR).symm, rfl⟩ | exact ⟨congrArg (Value.int .i64) (many_n (of_decide_eq_false hd)).symm, rfl⟩)⟩
set_option maxRecDepth 100000 in
set_option maxHeartbeats 2000000 in
theorem numbers_s (sa : Option Addr) (scap : Nat) (l : List Part) (H : SHeap) (hs : SlV W0 H 3 Part.cells sa scap l) : AC Tryd.prog W0 42 [.slice sa l.length scap] H (fun v H' => ∃ ys e a cap E, v = .tuple #[.slice a ys.length cap, .int .i64 e] ∧ NumR l ys e ∧ OffVec 1 3 (.slice a ys.length cap) ys.length (ys.flatMap intC) E ∧ H' = E ++ H) := by
  have hle := hs.le
  have hcb := hs.capb
  refine ac_of Tryd.func42 rfl rfl rfl ?_
  refine aw_seq_region ?_
  refine sr_as ?_
  refine sr_as ?_
  refine sr_nil ?_
  refine aw_kp [0, 2, 3] ?_
  refine aw_seq_region ?_
  refine sr_as ?_
  refine sr_nil ?_
  refine aw_kp [0, 2, 3, 4] ?_
  refine aw_seq ?_
  refine aw_seq_region ?_
  refine sr_mv ?_
  refine sr_rd (x_lenSlice Tryd.underlying62 rfl) ?_
  refine sr_mv ?_
  refine sr_nil ?_
  refine aw_kp [2, 3, 4, 8, 9, 10] ?_
  refine aw_block ?_
  refine aw_loop (ι := NuG) (fun s => s.k ≤ l.length ∧ numG [] l = numG s.acc (l.drop s.k) ∧ s.acc.length ≤ 16000 ∧ OwnVec 1 3 s.sl s.acc.length ((s.acc).flatMap intC) s.E) (fun s => [(2, .slice none 0 0), (3, .int .i64 0), (4, s.sl), (8, .slice sa l.length scap), (9, .int .i64 l.length), (10, .int .i64 s.k)]) (fun s => s.E ++ H) (fun s => l.length - s.k) ⟨0, [], .slice none 0 0, []⟩ (⟨Nat.zero_le _, rfl, Nat.zero_le _, .nil⟩) KeepF.auto Sub.autoP ?_
  intro s hs9
  obtain ⟨k, acc, sl, E⟩ := s
  dsimp only at hs9 ⊢
  obtain ⟨hk, hgo, hal, V⟩ := hs9
  obtain ⟨a1, c1, rfl⟩ := V.isSl
  refine aw_seq_region ?_
  refine sr_c (x_lt rfl rfl) (fun h1 => ?_) (fun h1 => ?_)
  · refine sr_nil ?_
    refine aw_kp [2, 3, 4, 8, 9, 10, 11] ?_
    refine aw_seq ?_
    refine aw_true rfl ?_
    refine aw_skip ?_
    show AW _ _ _ _ _ _ _
    refine aw_seq ?_
    refine aw_block ?_
    refine aw_seq_region ?_
    obtain ⟨x, hx⟩ := get_ex (show k < l.length by omega)
    obtain ⟨bx, ox, hax, hcx⟩ := hs.at_ k _ hx
    refine sr_rd (x_indexAddrN k Tryd.underlying62 sz67 rfl hax rfl (by omega) (by omega)) ?_
    refine sr_rd (x_loadN ag67 sz67 rfl (Cells.mono hcx Sub.autoR) rfl) ?_
    refine sr_new rfl (wtd_none rfl) rfl (x_alloc zr67 rfl) ?_
    intro r4_2 hr4_2 gr4_2
    refine sr_x0 rfl (wtd_none rfl) (x_store sz67 rfl rfl rfl rfl rfl Repl.auto Spl.auto) ?_
    refine sr_nil ?_
    refine aw_kp [2, 3, 4, 6, 8, 9, 10, 11, 12, 13] ?_
    refine aw_seq ?_
    refine aw_seq_region ?_
    refine sr_rd (x_loadN ag67 sz67 rfl (cells_ext mauto Ext.auto) rfl) ?_
    refine sr_d rfl (wtd_none rfl) rfl (opS_call rfl rfl rfl rfl cl40 (pright_s x _)) ?_
    rintro _ H9 ⟨rfl, rfl⟩
    generalize hd : decide (PRight x) = d1
    cases d1
    · refine sr_rd (x_not rfl) ?_
      refine sr_nil ?_
      refine aw_kp [2, 3, 4, 6, 8, 9, 10, 11, 12, 13, 14, 15, 16] ?_
      refine aw_true rfl ?_
      refine aw_seq_region ?_
      refine sr_as ?_
      refine sr_as ?_
      refine sr_nil ?_
      refine aw_kp [2, 3, 4, 6, 8, 9, 10, 11, 12, 13, 14, 15, 16] ?_
      refine aw_ret ?_
      show ∃ v H2, ResV _ _ _ _ _ _ v ∧ Sub H2 _ ∧ _
      (exact ⟨_, H, resV rfl (.cons rfl (.cons rfl .nil)), Sub.autoP, [], 5, none, 0, [], rfl, (by unfold NumR; rw [hgo, drop_at hx, numG_bad (of_decide_eq_false hd)]; exact ⟨rfl, rfl⟩), .nil, rfl⟩)
    · refine sr_rd (x_not rfl) ?_
      refine sr_nil ?_
      refine aw_kp [2, 3, 4, 6, 8, 9, 10, 11, 12, 13, 14, 15, 16] ?_
      refine aw_false rfl ?_
      refine aw_skip ?_
      show AW _ _ _ _ _ _ _
      refine aw_seq ?_
      refine aw_seq_region ?_
      refine sr_rd (x_loadN ag67 sz67 rfl (cells_ext mauto Ext.auto) rfl) ?_
      refine sr_d rfl (wtd_none rfl) rfl (opS_call rfl rfl rfl rfl cl41 (many_s x _)) ?_
      rintro _ H9 ⟨rfl, rfl⟩
      have hmb := many_bd x
      have hR : PRight x := of_decide_eq_true hd
      refine sr_c (x_gt rfl rfl) (fun h2 => ?_) (fun h2 => ?_)
      · refine sr_mv ?_
        refine sr_sk ?_
        refine sr_sk ?_
        refine sr_sk ?_
        refine sr_sk ?_
        refine sr_sk ?_
        refine sr_sk ?_
        refine sr_rd (x_pick_t rfl rfl rfl) ?_
        refine sr_nil ?_
        refine aw_kp [2, 3, 4, 6, 8, 9, 10, 11, 12, 13, 14, 15, 16, 17, 18, 19, 20, 21, 22, 23, 24, 25, 26, 27] ?_
        refine aw_true rfl ?_
        refine aw_seq_region ?_
        refine sr_as ?_
        refine sr_as ?_
        refine sr_nil ?_
        refine aw_kp [2, 3, 4, 6, 8, 9, 10, 11, 12, 13, 14, 15, 16, 17, 18, 19, 20, 21, 22, 23, 24, 25, 26, 27] ?_
        refine aw_ret ?_
        show ∃ v H2, ResV _ _ _ _ _ _ v ∧ Sub H2 _ ∧ _
        (exact ⟨_, H, resV rfl (.cons rfl (.cons rfl .nil)), Sub.autoP, [], 6, none, 0, [], rfl, (by unfold NumR; rw [hgo, drop_at hx, numG_full hR (by first | exact .inl (by omega) | exact .inr (by omega))]; exact ⟨rfl, rfl⟩), .nil, rfl⟩)
      · refine sr_mv ?_
        refine sr_ry (x_move rfl) ?_
        refine sr_ry (x_lenSlice Tryd.underlying69 rfl) ?_
        refine sr_ry (x_loadN ag67 sz67 rfl (cells_ext mauto Ext.auto) rfl) ?_
        refine sr_d rfl (wtd_yes rfl rfl rfl) rfl (opS_call rfl rfl rfl rfl cl41 (many_s x _)) ?_
        rintro _ H9 ⟨rfl, rfl⟩
        refine sr_ry (x_add' rfl rfl (i64w (by omega) (by omega))) ?_
        refine sr_cy (x_gt rfl rfl) (fun h3 => ?_) (fun h3 => ?_)
        · refine sr_rd (x_pick_f rfl rfl rfl) ?_
          refine sr_nil ?_
          refine aw_kp [2, 3, 4, 6, 8, 9, 10, 11, 12, 13, 14, 15, 16, 17, 18, 19, 20, 21, 22, 23, 24, 25, 26, 27] ?_
          refine aw_true rfl ?_
          refine aw_seq_region ?_
          refine sr_as ?_
          refine sr_as ?_
          refine sr_nil ?_
          refine aw_kp [2, 3, 4, 6, 8, 9, 10, 11, 12, 13, 14, 15, 16, 17, 18, 19, 20, 21, 22, 23, 24, 25, 26, 27] ?_
          refine aw_ret ?_
          show ∃ v H2, ResV _ _ _ _ _ _ v ∧ Sub H2 _ ∧ _
          (exact ⟨_, H, resV rfl (.cons rfl (.cons rfl .nil)), Sub.autoP, [], 6, none, 0, [], rfl, (by unfold NumR; rw [hgo, drop_at hx, numG_full hR (by first | exact .inl (by omega) | exact .inr (by omega))]; exact ⟨rfl, rfl⟩), .nil, rfl⟩)
        · refine sr_rd (x_pick_f rfl rfl rfl) ?_
          refine sr_nil ?_
          refine aw_kp [2, 3, 4, 6, 8, 9, 10, 11, 12, 13, 14, 15, 16, 17, 18, 19, 20, 21, 22, 23, 24, 25, 26, 27] ?_
          refine aw_false rfl ?_
          refine aw_skip ?_
          show AW _ _ _ _ _ _ _
          refine aw_seq_region ?_
          have hR2 := hR
          unfold PRight at hR2
          refine sr_rd (x_fieldAddr fd67_0 rfl) ?_
          refine sr_rd (x_load ag3 rfl (cells_ext mauto Ext.auto)) ?_
          refine sr_as ?_
          refine sr_nil ?_
          refine aw_kp [2, 3, 4, 6, 7, 8, 9, 10, 11, 12, 13, 14, 15, 16, 17, 18, 19, 20, 21, 22, 23, 24, 25, 26, 27, 28, 29] ?_
          refine aw_block ?_
          refine aw_keep (keep_cons (t := 2) rfl (keep_cons (t := 3) rfl (keep_cons (t := 4) rfl (keep_cons (t := 8) rfl (keep_cons (t := 9) rfl (keep_cons (t := 10) rfl (keep_cons (t := 6) rfl (keep_cons (t := 7) (v := .int .i64 (x.from_ + ((0 : Nat) : Int) * x.step)) (congrArg (fun z => some (Value.int .i64 z)) (by simp)) keep_nil)))))))) ?_
          refine aw_loop (ι := InG) (fun s => s.j ≤ 10001 ∧ 0 ≤ (s.j : Int) * x.step ∧ x.from_ + (s.j : Int) * x.step ≤ x.to_ + x.step ∧ OwnVec 1 3 s.sl (acc ++ partT x s.j).length ((acc ++ partT x s.j).flatMap intC) s.E) (fun s => [(2, .slice none 0 0), (3, .int .i64 0), (4, s.sl), (8, .slice sa l.length scap), (9, .int .i64 l.length), (10, .int .i64 k), (6, .pointer (some ⟨r4_2, 0, none⟩)), (7, .int .i64 (x.from_ + (s.j : Int) * x.step))]) (fun s => s.E ++ ((r4_2, .cells (Part.cells x).toArray 67 (0, 0)) :: H)) (fun s => (x.to_ + 1 - (x.from_ + (s.j : Int) * x.step)).toNat) ⟨0, .slice a1 acc.length c1, E⟩ (⟨Nat.zero_le _, by simp, by dsimp only; rw [show ((0 : Nat) : Int) * x.step = 0 by simp]; omega, (by show OwnVec 1 3 _ (acc ++ []).length ((acc ++ []).flatMap intC) E; rw [List.append_nil]; exact V)⟩) KeepF.auto Sub.autoP ?_
          intro t ht9
          obtain ⟨j, sl2, EI⟩ := t
          dsimp only at ht9 ⊢
          obtain ⟨hj1, hj2, hj3, VI⟩ := ht9
          obtain ⟨a3, c3, rfl⟩ := VI.isSl
          refine aw_seq ?_
          refine aw_seq_region ?_
          refine sr_mv ?_
          refine sr_rd (x_fieldAddr fd67_1 rfl) ?_
          refine sr_rd (x_load ag3 rfl (cells_ext mauto Ext.auto)) ?_
          refine sr_c (x_le rfl rfl) (fun h4 => ?_) (fun h4 => ?_)
          · refine sr_nil ?_
            refine aw_kp [2, 3, 4, 6, 7, 8, 9, 10, 30, 31, 32, 33] ?_
            refine aw_true rfl ?_
            refine aw_skip ?_
            show AW _ _ _ _ _ _ _
            refine aw_seq ?_
            refine aw_block ?_
            refine aw_region ?_
            have hpl := partT_len (p := x) (j := j)
            have hpl2 : (acc ++ partT x j).length = acc.length + j := by rw [List.length_append, partT_len]
            have hjl := jstep_le hR (by assumption)
            refine sr_mv ?_
            refine sr_mv ?_
            refine sr_new rfl (wtd_none rfl) rfl (x_buildSlice Tryd.underlying69 sz3 zr3 rfl rfl rfl rfl Parts.auto Fill.auto) ?_
            intro r12_2 hr12_2 gr12_2
            refine sr_d rfl (wtd_none rfl) rfl (opS_append (G := (r4_2, .cells (Part.cells x).toArray 67 (0, 0)) :: H) (N := (intC (x.from_ + (j : Int) * x.step))) (m := 1) Tryd.underlying69 sz3 zr3 rfl by3 rfl rfl VI Sub.autoP (.inr ⟨_, _, rfl, (cells_ext mauto Ext.auto)⟩) (rfl) rfl (by omega) (by omega)) ?_
            rintro v41 _ ⟨E41, hV41, rfl⟩
            obtain ⟨a41, cap41, rfl⟩ := hV41.isSl
            refine sr_as ?_
            refine sr_nil ?_
            show AW _ _ _ _ _ _ _
            refine aw_region ?_
            refine sr_mv ?_
            refine sr_rd (x_fieldAddr fd67_2 rfl) ?_
            refine sr_rd (x_load ag3 rfl (cells_ext mauto Ext.auto)) ?_
            refine sr_rd (x_cast (u := .int .i64 (x.from_ + ((j + 1 : Nat) : Int) * x.step)) (x_add' rfl rfl (i64w (by omega) (by omega))) (congrArg (Value.int .i64) (by rw [Int.natCast_succ, Int.add_mul, Int.one_mul, Int.add_assoc]))) ?_
            refine sr_as ?_
            refine sr_nil ?_
            show ∃ s', _ ∧ _ ∧ _ ∧ _
            exact ⟨⟨j + 1, .slice a41 ((acc ++ partT x j).length + 1) cap41, E41⟩, ⟨(by dsimp only; omega), (by dsimp only; rw [Int.natCast_succ, Int.add_mul, Int.one_mul]; omega), (by dsimp only; rw [Int.natCast_succ, Int.add_mul, Int.one_mul]; omega), (by dsimp only; rw [partT_succ, ← List.append_assoc]; have h9 := hV41.snocS; generalize acc ++ partT x j = Y at h9 ⊢; rw [List.length_append] at h9 ⊢; exact h9)⟩, (by dsimp only; rw [Int.natCast_succ, Int.add_mul, Int.one_mul]; omega), KeepF.auto, Sub.autoP⟩
          · refine sr_nil ?_
            refine aw_kp [2, 3, 4, 6, 7, 8, 9, 10, 30, 31, 32, 33] ?_
            refine aw_false rfl ?_
            refine aw_exit ?_
            show AW _ _ _ _ _ _ _
            refine aw_region ?_
            have hend : partT x j = partL x := partT_end hR (by omega) (by omega)
            refine sr_rd (x_add' rfl rfl (i64w (by omega) (by omega))) ?_
            refine sr_mv ?_
            refine sr_nil ?_
            show ∃ s', _ ∧ _ ∧ _ ∧ _
            exact ⟨⟨k + 1, acc ++ partT x j, _, EI⟩, ⟨by dsimp only; omega, (by dsimp only; rw [hgo, drop_at hx, numG_ok hR (by omega), hend]), (by dsimp only; rw [hend] at *; unfold partL; rw [List.length_append, partT_len]; omega), VI⟩, by dsimp only; omega, KeepF.auto, Sub.autoP⟩
  · refine sr_nil ?_
    refine aw_kp [2, 3, 4, 8, 9, 10, 11] ?_
    refine aw_seq ?_
    refine aw_false rfl ?_
    refine aw_exit ?_
    show AW _ _ _ _ _ _ _
    refine aw_seq_region ?_
    rw [List.drop_eq_nil_of_le (show l.length ≤ k by omega)] at hgo
    have hgo : numG [] l = .inl acc := hgo
    refine sr_mv ?_
    refine sr_d rfl (wtd_none rfl) rfl (opS_call rfl rfl rfl rfl cl67 (mV_s a1 c1 acc.length acc E H V rfl (by omega))) ?_
    rintro _ _ ⟨W9, E9, ⟨hp9, hs9⟩, rfl, V9, rfl⟩
    refine sr_nil ?_
    refine aw_kp [2, 3, 4] ?_
    refine aw_seq_region ?_
    refine sr_mv ?_
    refine sr_d rfl (wtd_none rfl) rfl (opS_call rfl rfl rfl rfl cl68 (mCpt_s a1 acc.length c1 W9 E9 H V9.off hp9.length_eq (by omega))) ?_
    rintro _ _ ⟨k2, E2, rfl, rfl, V2, rfl⟩
    have hT := srt_tms0 hp9 (sri_pw hs9 hp9.length_eq)
    have hTl := hT.len
    generalize cpt eqI W9 = X at V2 hT hTl ⊢
    refine sr_as ?_
    refine sr_nil ?_
    refine aw_kp [2, 3, 4] ?_
    refine aw_seq ?_
    refine aw_seq_region ?_
    refine sr_mv ?_
    refine sr_rd (x_lenSlice Tryd.underlying69 rfl) ?_
    refine sr_c (x_gt rfl rfl) (fun h5 => ?_) (fun h5 => ?_)
    · refine sr_nil ?_
      refine aw_kp [2, 3, 4, 49] ?_
      refine aw_true rfl ?_
      refine aw_seq_region ?_
      refine sr_as ?_
      refine sr_as ?_
      refine sr_nil ?_
      refine aw_kp [2, 3, 4] ?_
      refine aw_ret ?_
      show ∃ v H2, ResV _ _ _ _ _ _ v ∧ Sub H2 _ ∧ _
      (exact ⟨_, H, resV rfl (.cons rfl (.cons rfl .nil)), Sub.autoP, [], 6, none, 0, [], rfl, (by unfold NumR; rw [hgo]; exact ⟨_, hT, .inl ⟨by omega, rfl, rfl⟩⟩), .nil, rfl⟩)
    · refine sr_nil ?_
      refine aw_kp [2, 3, 4, 49] ?_
      refine aw_false rfl ?_
      refine aw_skip ?_
      show AW _ _ _ _ _ _ _
      refine aw_seq_region ?_
      refine sr_mv ?_
      refine sr_as ?_
      refine sr_as ?_
      refine sr_nil ?_
      refine aw_kp [2, 3] ?_
      refine aw_ret ?_
      show ∃ v H2, ResV _ _ _ _ _ _ v ∧ Sub H2 _ ∧ _
      (exact ⟨_, E2 ++ H, resV rfl (.cons rfl (.cons rfl .nil)), Sub.autoP, X, 0, a1, c1, E2, rfl, (by unfold NumR; rw [hgo]; exact ⟨_, hT, .inr ⟨by omega, rfl, rfl⟩⟩), V2, rfl⟩)
end
end Go.Proofs.YtbcajgkaepihfaaDoor
