/- Requests as lines: any, and read again. -/
import Derived.Test.YtbcajgkaepihfaaDoorSdc
namespace Go.Proofs.YtbcajgkaepihfaaDoor
open Go.Proofs.YtbcajgkaepihfaaDoor.Sym
open Go.RowKit (Below)
set_option linter.unusedVariables false
set_option linter.unusedSimpArgs false
def cleanR (r : Req) : Req :=
  if r.kind = 1 then ⟨r.kind, 0, r.user, r.width, r.limit, r.prio, r.held, 0, 0⟩
  else if 2 ≤ r.kind ∧ r.kind ≤ 6 then ⟨r.kind, r.id, 0, 0, 0, 0, false, 0, 0⟩
  else if r.kind = 7 ∨ r.kind = 8 then ⟨r.kind, 0, 0, 0, 0, 0, false, r.node, 0⟩
  else if r.kind = 9 then ⟨r.kind, 0, 0, 0, 0, 0, false, 0, r.by_⟩
  else ⟨r.kind, 0, 0, 0, 0, 0, false, 0, 0⟩
theorem clean_1 {r : Req} (h : r.kind = 1) : cleanR r = ⟨r.kind, 0, r.user, r.width, r.limit, r.prio, r.held, 0, 0⟩ := if_pos h
theorem clean_id {r : Req} (h : 2 ≤ r.kind ∧ r.kind ≤ 6) : cleanR r = ⟨r.kind, r.id, 0, 0, 0, 0, false, 0, 0⟩ := by unfold cleanR; rw [if_neg (by omega), if_pos h]
theorem clean_nd {r : Req} (h : r.kind = 7 ∨ r.kind = 8) : cleanR r = ⟨r.kind, 0, 0, 0, 0, 0, false, r.node, 0⟩ := by unfold cleanR; rw [if_neg (by omega), if_neg (by omega), if_pos h]
theorem clean_by {r : Req} (h : r.kind = 9) : cleanR r = ⟨r.kind, 0, 0, 0, 0, 0, false, 0, r.by_⟩ := by unfold cleanR; rw [if_neg (by omega), if_neg (by omega), if_neg (by omega), if_pos h]
theorem clean_no {r : Req} (h : ¬ (1 ≤ r.kind ∧ r.kind ≤ 9)) : cleanR r = ⟨r.kind, 0, 0, 0, 0, 0, false, 0, 0⟩ := by unfold cleanR; rw [if_neg (by omega), if_neg (by omega), if_neg (by omega), if_neg (by omega)]
theorem eqC_req {a b : Req} : eqC a.cells b.cells = true ↔ a = b := by
  obtain ⟨a1, a2, a3, a4, a5, a6, a7, a8, a9⟩ := a
  obtain ⟨b1, b2, b3, b4, b5, b6, b7, b8, b9⟩ := b
  simp [eqC, sEq]
def GoodR (r : Req) : Prop := (1 ≤ r.kind ∧ r.kind ≤ 13) ∧ cleanR r = r
instance (r : Req) : Decidable (cleanR r = r) := decidable_of_iff _ eqC_req
instance (r : Req) : Decidable (GoodR r) := inferInstanceAs (Decidable (_ ∧ _))
def lineW (r : Req) : List UInt8 := wordB r.kind ++ (fldB r).flatMap (fun x => 32 :: numB x)
def lineB (r : Req) : List UInt8 := if GoodR r then lineW r else []
def WfR (r : Req) : Prop := (-9223372036854775808 ≤ r.id ∧ r.id ≤ 9223372036854775807) ∧ (-9223372036854775808 ≤ r.user ∧ r.user ≤ 9223372036854775807) ∧ (-9223372036854775808 ≤ r.width ∧ r.width ≤ 9223372036854775807) ∧ (-9223372036854775808 ≤ r.limit ∧ r.limit ≤ 9223372036854775807) ∧ (-9223372036854775808 ≤ r.prio ∧ r.prio ≤ 9223372036854775807) ∧ (-9223372036854775808 ≤ r.node ∧ r.node ≤ 9223372036854775807) ∧ (-9223372036854775808 ≤ r.by_ ∧ r.by_ ≤ 9223372036854775807)
theorem Req.Wf.w {r : Req} (h : r.Wf) : WfR r := by
  unfold Req.Wf at h
  rw [i64_min, i64_max] at h
  unfold WfR; omega
theorem fld_1 {r : Req} (h : r.kind = 1) : fldB r = [r.user, r.width, r.limit, r.prio, if r.held = true then 1 else 0] := if_pos h
theorem fld_id {r : Req} (h : 2 ≤ r.kind ∧ r.kind ≤ 6) : fldB r = [r.id] := by unfold fldB; rw [if_neg (by omega), if_pos h]
theorem fld_nd {r : Req} (h : r.kind = 7 ∨ r.kind = 8) : fldB r = [r.node] := by unfold fldB; rw [if_neg (by omega), if_neg (by omega), if_pos h]
theorem fld_by {r : Req} (h : r.kind = 9) : fldB r = [r.by_] := by unfold fldB; rw [if_neg (by omega), if_neg (by omega), if_neg (by omega), if_pos h]
theorem fld_no {r : Req} (h : ¬ (1 ≤ r.kind ∧ r.kind ≤ 9)) : fldB r = [] := by unfold fldB; rw [if_neg (by omega), if_neg (by omega), if_neg (by omega), if_neg (by omega)]
theorem fld_wf {r : Req} (h : WfR r) : ∀ x ∈ fldB r, -9223372036854775808 ≤ x ∧ x ≤ 9223372036854775807 := by
  obtain ⟨h1, h2, h3, h4, h5, h6, h7⟩ := h
  intro x hx
  unfold fldB at hx
  split at hx
  · simp only [List.mem_cons, List.mem_nil_iff, or_false] at hx
    rcases hx with rfl | rfl | rfl | rfl | rfl
    · exact h2
    · exact h3
    · exact h4
    · exact h5
    · split <;> omega
  · split at hx
    · simp only [List.mem_cons, List.mem_nil_iff, or_false] at hx
      rw [hx]; exact h1
    · split at hx
      · simp only [List.mem_cons, List.mem_nil_iff, or_false] at hx
        rw [hx]; exact h6
      · split at hx
        · simp only [List.mem_cons, List.mem_nil_iff, or_false] at hx
          rw [hx]; exact h7
        · cases hx
theorem numB_0 : numB 0 = [48] := by unfold numB; rw [if_neg (by decide)]; show dg 0 = _; rw [dg_lt (by decide)]; rfl
theorem numB_1 : numB 1 = [49] := by unfold numB; rw [if_neg (by decide)]; show dg 1 = _; rw [dg_lt (by decide)]; rfl
theorem word_len (k : Int) : (wordB k).length ≤ 8 := by
  unfold wordB
  split
  · next h =>
    obtain ⟨n, rfl⟩ := Int.eq_ofNat_of_zero_le (show 0 ≤ k by omega)
    have : ∀ n : Fin 14, (wordsL.getD n.val []).length ≤ 8 := by decide
    exact this ⟨n, by omega⟩
  · simp
theorem join_line (w : List UInt8) : ∀ ls : List (List UInt8), joinW 32 (w :: ls) = w ++ ls.flatMap (fun x => 32 :: x)
  | [] => by simp [joinW]
  | x :: ls => by
    rw [joinW_cons (by simp), join_line x ls, List.flatMap_cons]; simp
theorem line_join (r : Req) : lineW r = joinW 32 (wordB r.kind :: (fldB r).map numB) := by
  rw [join_line]; unfold lineW
  rw [List.flatMap_map]
theorem word_no {k : Int} : (32 : UInt8) ∉ wordB k := by
  unfold wordB
  split
  · next h =>
    obtain ⟨n, rfl⟩ := Int.eq_ofNat_of_zero_le (show 0 ≤ k by omega)
    have : ∀ n : Fin 14, (32 : UInt8) ∉ wordsL.getD n.val [] := by decide
    exact this ⟨n, by omega⟩
  · simp
theorem num_no {n : Int} {c : UInt8} (h : c ≠ 45 ∧ ¬ isD c) : c ∉ numB n := fun q => (numB_mem q).elim h.1 h.2
theorem spl_line (r : Req) : spl 32 (lineW r) = wordB r.kind :: (fldB r).map numB := by
  rw [line_join, spl_join (by simp)]
  intro w hw
  rw [List.mem_cons] at hw
  rcases hw with rfl | hw
  · exact word_no
  · rw [List.mem_map] at hw
    obtain ⟨x, _, rfl⟩ := hw
    exact num_no (by decide)
theorem kindOf_word {k : Int} (h : 1 ≤ k ∧ k ≤ 13) : kindOf (wordB k) = k := by
  obtain ⟨n, rfl⟩ := Int.eq_ofNat_of_zero_le (show 0 ≤ k by omega)
  have : ∀ n : Fin 14, n.val = 0 ∨ kindOf (wordB (n.val : Int)) = (n.val : Int) := by decide
  exact (this ⟨n, by omega⟩).resolve_left (by simp; omega)
theorem kindTo_spec (w : List UInt8) : ∀ k : Nat, kindTo w k ≠ 0 → wordB (kindTo w k) = w
  | 0, h => absurd rfl h
  | k + 1, h => by
    unfold kindTo at h ⊢
    split
    · assumption
    · next hn => rw [if_neg hn] at h; exact kindTo_spec w k h
theorem mk_fld {r : Req} (h : cleanR r = r) : mkR r.kind (fldB r) = some r := by
  have hl := fld_len r
  by_cases h1 : r.kind = 1
  · rw [fld_1 h1] at hl ⊢
    rw [clean_1 h1] at h
    obtain ⟨r1, r2, r3, r4, r5, r6, r7, r8, r9⟩ := r
    simp only [Req.mk.injEq, true_and] at h
    obtain ⟨e1, e2, e3⟩ := h
    dsimp only at *
    subst e1; subst e2; subst e3
    cases r7
    · rw [mk_1f hl h1 rfl]; rfl
    · rw [mk_1t hl h1 rfl]; rfl
  · by_cases h2 : 2 ≤ r.kind ∧ r.kind ≤ 6
    · rw [fld_id h2] at hl ⊢
      rw [mk_id hl h2]
      rw [clean_id h2] at h
      exact congrArg some h
    · by_cases h3 : r.kind = 7 ∨ r.kind = 8
      · rw [fld_nd h3] at hl ⊢
        rw [mk_nd hl h3]
        rw [clean_nd h3] at h
        exact congrArg some h
      · by_cases h4 : r.kind = 9
        · rw [fld_by h4] at hl ⊢
          rw [mk_by hl h4]
          rw [clean_by h4] at h
          exact congrArg some h
        · rw [fld_no (by omega)] at hl ⊢
          rw [mk_no hl (by omega)]
          rw [clean_no (by omega)] at h
          exact congrArg some h
theorem list5 {ls : List Int} (h : ls.length = 5) : ls = [ls.getD 0 0, ls.getD 1 0, ls.getD 2 0, ls.getD 3 0, ls.getD 4 0] := by
  match ls, h with
  | [a, b, c, d, e], _ => rfl
theorem list1 {ls : List Int} (h : ls.length = 1) : ls = [ls.getD 0 0] := by
  match ls, h with
  | [a], _ => rfl
theorem mk_inv {k : Int} {ls : List Int} {r : Req} (h : mkR k ls = some r) : r.kind = k ∧ fldB r = ls ∧ cleanR r = r := by
  by_cases hl : ls.length = fldN k
  · by_cases h1 : k = 1
    · have h5 : ls.length = 5 := by rw [hl]; exact if_pos h1
      have e := list5 h5
      by_cases q1 : ls.getD 4 0 = 1
      · rw [mk_1t hl h1 q1] at h
        cases h
        refine ⟨rfl, ?_, clean_1 h1⟩
        rw [fld_1 h1]
        dsimp only
        rw [if_pos rfl]
        conv => rhs; rw [e, q1]
      · by_cases q0 : ls.getD 4 0 = 0
        · rw [mk_1f hl h1 q0] at h
          cases h
          refine ⟨rfl, ?_, clean_1 h1⟩
          rw [fld_1 h1]
          dsimp only
          rw [if_neg (by decide)]
          conv => rhs; rw [e, q0]
        · rw [mk_1n hl h1 (by omega)] at h; cases h
    · by_cases h2 : 2 ≤ k ∧ k ≤ 6
      · rw [mk_id hl h2] at h
        cases h
        refine ⟨rfl, ?_, clean_id h2⟩
        rw [fld_id h2]
        exact (list1 (by rw [hl]; unfold fldN; rw [if_neg h1, if_pos (by omega)])).symm
      · by_cases h3 : k = 7 ∨ k = 8
        · rw [mk_nd hl h3] at h
          cases h
          refine ⟨rfl, ?_, clean_nd h3⟩
          rw [fld_nd h3]
          exact (list1 (by rw [hl]; unfold fldN; rw [if_neg h1, if_pos (by omega)])).symm
        · by_cases h4 : k = 9
          · rw [mk_by hl h4] at h
            cases h
            refine ⟨rfl, ?_, clean_by h4⟩
            rw [fld_by h4]
            exact (list1 (by rw [hl]; unfold fldN; rw [if_neg h1, if_pos (by omega)])).symm
          · rw [mk_no hl (by omega)] at h
            cases h
            refine ⟨rfl, ?_, clean_no (r := ⟨k, 0, 0, 0, 0, 0, false, 0, 0⟩) (by dsimp only; omega)⟩
            rw [fld_no (r := ⟨k, 0, 0, 0, 0, 0, false, 0, 0⟩) (by dsimp only; omega)]
            have : ls.length = 0 := by rw [hl]; unfold fldN; rw [if_neg h1, if_neg (by omega)]
            exact (List.length_eq_zero_iff.1 this).symm
  · rw [mk_len hl] at h; cases h
theorem parse_line {r : Req} (hg : GoodR r) (hw : WfR r) : parseB (lineW r) = some r := by
  unfold parseB
  rw [spl_line, parseW_rd (by rw [kindOf_word hg.1]; have := hg.1; omega), rdAll_num (fld_wf hw), kindOf_word hg.1]
  exact mk_fld hg.2
theorem parse_inv {l : List UInt8} {r : Req} (h : parseB l = some r) : GoodR r ∧ lineW r = l ∧ ∀ x ∈ fldB r, -9223372036854775808 ≤ x ∧ x ≤ 9223372036854775807 := by
  unfold parseB at h
  have hj := join_spl 32 l
  cases hs : spl 32 l with
  | nil => exact absurd hs (spl_ne 32 l)
  | cons w ws =>
    rw [hs] at h hj
    by_cases h0 : kindOf w = 0
    · rw [parseW_k0 h0] at h; cases h
    · rw [parseW_rd h0] at h
      cases hr : rdAll ws with
      | none => rw [hr] at h; cases h
      | some ls =>
        rw [hr] at h
        obtain ⟨q1, q2, q3⟩ := mk_inv h
        obtain ⟨q4, q5⟩ := rdAll_inv hr
        have hk := kindTo_rng w 13
        have hk2 : kindOf w = kindTo w 13 := rfl
        refine ⟨⟨by omega, q3⟩, ?_, by rw [q2]; exact q5⟩
        rw [line_join, q1, q2, ← q4, show wordB (kindOf w) = w from kindTo_spec w 13 h0]
        exact hj
theorem line_ne {r : Req} (h : GoodR r) : lineW r ≠ [] := by
  obtain ⟨n, hn⟩ := Int.eq_ofNat_of_zero_le (show 0 ≤ r.kind by have := h.1; omega)
  have : ∀ n : Fin 14, n.val = 0 ∨ wordB (n.val : Int) ≠ [] := by decide
  have h2 := (this ⟨n, by have := h.1; omega⟩).resolve_left (by have := h.1; simp; omega)
  unfold lineW
  rw [hn]
  intro q
  exact h2 (List.append_eq_nil_iff.1 q).1
theorem line_len {r : Req} (hw : ∀ x ∈ fldB r, -9223372036854775808 ≤ x ∧ x ≤ 9223372036854775807) : (lineW r).length ≤ 200 := by
  have h1 := word_len r.kind
  have h2 : ∀ ls : List Int, (∀ x ∈ ls, -9223372036854775808 ≤ x ∧ x ≤ 9223372036854775807) → (ls.flatMap fun x => 32 :: numB x).length ≤ 21 * ls.length := by
    intro ls
    induction ls with
    | nil => intro _; simp
    | cons x ls ih =>
      intro h
      have hx := h x List.mem_cons_self
      have h3 := numB_len hx.1 hx.2
      have h4 := ih fun y hy => h y (List.mem_cons_of_mem _ hy)
      rw [List.flatMap_cons, List.length_append, List.length_cons, List.length_cons]
      omega
  have h3 := h2 (fldB r) hw
  have h4 := fld_len r
  have h5 : fldN r.kind ≤ 5 := by unfold fldN; split <;> (try split) <;> omega
  unfold lineW
  rw [List.length_append]
  omega
theorem flat_num_len : ∀ {ls : List Int}, (∀ x ∈ ls, -9223372036854775808 ≤ x ∧ x ≤ 9223372036854775807) → (ls.flatMap fun x => 32 :: numB x).length ≤ 21 * ls.length
  | [], _ => by simp
  | x :: ls, h => by
    have hx := h x List.mem_cons_self
    have h3 := numB_len hx.1 hx.2
    have h4 := flat_num_len fun y hy => h y (List.mem_cons_of_mem _ hy)
    rw [List.flatMap_cons, List.length_append, List.length_cons, List.length_cons]
    omega
theorem lineB_g {r : Req} (h : GoodR r) : lineB r = lineW r := if_pos h
theorem lineB_n {r : Req} (h : ¬ GoodR r) : lineB r = [] := if_neg h
theorem flat_snoc {ls : List Int} {k : Nat} {x : Int} (h : ls[k]? = some x) (w : List UInt8) : w ++ ((ls.take (k + 1)).flatMap fun x => 32 :: numB x) = (w ++ ((ls.take k).flatMap fun x => 32 :: numB x)) ++ ([32] ++ numB x) := by
  rw [takeS h, List.flatMap_append]; simp
theorem eqC_t {a b : Req} (h : ¬ eqC a.cells b.cells = false) : a = b := eqC_req.1 (by simpa using h)
theorem wf_of {r : Req} (h : cleanR r = r) (hb : ∀ x ∈ fldB r, -9223372036854775808 ≤ x ∧ x ≤ 9223372036854775807) : WfR r := by
  have e1 := congrArg Req.id h
  have e2 := congrArg Req.user h
  have e3 := congrArg Req.width h
  have e4 := congrArg Req.limit h
  have e5 := congrArg Req.prio h
  have e6 := congrArg Req.node h
  have e7 := congrArg Req.by_ h
  unfold WfR
  by_cases h1 : r.kind = 1
  · rw [clean_1 h1] at e1 e2 e3 e4 e5 e6 e7
    rw [fld_1 h1] at hb
    have b1 := hb r.user (by simp)
    have b2 := hb r.width (by simp)
    have b3 := hb r.limit (by simp)
    have b4 := hb r.prio (by simp)
    dsimp only at *
    omega
  · by_cases h2 : 2 ≤ r.kind ∧ r.kind ≤ 6
    · rw [clean_id h2] at e1 e2 e3 e4 e5 e6 e7
      rw [fld_id h2] at hb
      have b1 := hb r.id (by simp)
      dsimp only at *
      omega
    · by_cases h3 : r.kind = 7 ∨ r.kind = 8
      · rw [clean_nd h3] at e1 e2 e3 e4 e5 e6 e7
        rw [fld_nd h3] at hb
        have b1 := hb r.node (by simp)
        dsimp only at *
        omega
      · by_cases h4 : r.kind = 9
        · rw [clean_by h4] at e1 e2 e3 e4 e5 e6 e7
          rw [fld_by h4] at hb
          have b1 := hb r.by_ (by simp)
          dsimp only at *
          omega
        · rw [clean_no (by omega)] at e1 e2 e3 e4 e5 e6 e7
          dsimp only at *
          omega
theorem parse_none {l : List UInt8} {r : Req} (h : parseB l = none) (hl : ¬ l = []) (hw : WfR r) : l ≠ lineB r := fun e => by
  by_cases hg : GoodR r
  · rw [e, lineB_g hg, parse_line hg hw] at h; cases h
  · rw [lineB_n hg] at e; exact hl e
theorem lineB_len {r : Req} (hw : ∀ x ∈ fldB r, -9223372036854775808 ≤ x ∧ x ≤ 9223372036854775807) : (lineB r).length ≤ 200 := by
  unfold lineB
  split
  · exact line_len hw
  · simp
theorem cl27 : Callable Tryd.prog 27 := ⟨Tryd.f27, Tryd.func27, by kernel_rfl, by kernel_rfl⟩
theorem cl28 : Callable Tryd.prog 28 := ⟨Tryd.f28, Tryd.func28, by kernel_rfl, by kernel_rfl⟩
theorem cl56 : Callable Tryd.prog 56 := ⟨Tryd.f56, Tryd.func56, by kernel_rfl, by kernel_rfl⟩
theorem cl62 : Callable Tryd.prog 62 := ⟨Tryd.f62, Tryd.func62, by kernel_rfl, by kernel_rfl⟩
section
variable {W0 : World}
set_option maxRecDepth 100000 in
set_option maxHeartbeats 1000000 in
theorem clean_s (r : Req) (H : SHeap) : AC Tryd.prog W0 56 [r.v] H (fun v H' => v = (cleanR r).v ∧ H' = H) := by
  refine ac_of Tryd.func56 rfl rfl rfl ?_
  refine aw_seq_region ?_
  refine sr_new rfl (wtd_none rfl) rfl (x_box rfl rfl) ?_
  intro r0_0 hr0_0 gr0_0
  refine sr_new rfl (wtd_none rfl) rfl (x_alloc zr35 rfl) ?_
  intro r0_1 hr0_1 gr0_1
  refine sr_nil ?_
  refine aw_kp [1, 2] ?_
  refine aw_seq_region ?_
  refine sr_rd (x_fieldAddr fd35_0 rfl) ?_
  refine sr_rd (x_load ag3 rfl (cells_ext mauto Ext.auto)) ?_
  refine sr_rd (x_build zr35 rfl fl35 Parts.auto Fill.auto) ?_
  refine sr_new rfl (wtd_none rfl) rfl (x_alloc zr35 rfl) ?_
  intro r1_3 hr1_3 gr1_3
  refine sr_x0 rfl (wtd_none rfl) (x_store sz35 rfl rfl rfl rfl rfl Repl.auto Spl.auto) ?_
  refine sr_nil ?_
  refine aw_kp [1, 2, 3] ?_
  refine aw_seq ?_
  refine aw_seq_region ?_
  refine sr_rd (x_fieldAddr fd35_0 rfl) ?_
  refine sr_rd (x_load ag3 rfl (cells_ext mauto Ext.auto)) ?_
  refine sr_nil ?_
  refine aw_kp [1, 2, 3, 8] ?_
  refine aw_block ?_
  refine aw_seq_region ?_
  refine sr_c (x_eq rfl rfl) (fun h1 => ?_) (fun h1 => ?_)
  · refine sr_as ?_
    refine sr_nil ?_
    refine aw_kp [1, 2, 3, 8, 9] ?_
    refine aw_true rfl ?_
    refine aw_drX (G := (r1_3, .cells (Req.cells (⟨r.kind, 0, 0, 0, 0, 0, false, 0, 0⟩)).toArray 35 (0, 0)) :: (r0_1, .cells (Req.cells (zeroR)).toArray 35 (0, 0)) :: []) (X := (r0_0, .cells (Req.cells (r)).toArray 35 (0, 0)) :: H) ⟨_, 20, 47, [[], [0], [], [2], [], [4], [], [6], [], [8], [0, 1], [0, 1, 10], [0, 1, 2, 3, 10, 11], [0, 1, 2, 3, 10, 11, 12], [0, 1, 2, 3, 4, 5, 10, 11, 12, 13], [0, 1, 2, 3, 4, 5, 10, 11, 12, 13, 14], [0, 1, 2, 3, 4, 5, 6, 7, 10, 11, 12, 13, 14, 15], [0, 1, 2, 3, 4, 5, 6, 7, 10, 11, 12, 13, 14, 15, 16], [0, 1, 2, 3, 4, 5, 6, 7, 8, 9, 10, 11, 12, 13, 14, 15, 16, 17], [0, 1, 2, 3, 4, 5, 6, 7, 8, 9, 10, 11, 12, 13, 14, 15, 16, 17, 18]], [.light, .light, .light, .light, .light, .light, .light, .light, .light, .light, .light, .eff, .light, .eff, .light, .eff, .light, .eff, .light, .eff]⟩ (by kernel_rfl) rfl rfl mix Sub.autoP ?_
    refine dr_l (x_fieldAddr fd35_2 rfl) ?_
    refine dr_fix rfl rfl (wtd_none rfl) (x_load ag3 rfl (cells_ext mauto Ext.auto)) ?_
    refine dr_l (x_fieldAddr fd35_3 rfl) ?_
    refine dr_fix rfl rfl (wtd_none rfl) (x_load ag3 rfl (cells_ext mauto Ext.auto)) ?_
    refine dr_l (x_fieldAddr fd35_4 rfl) ?_
    refine dr_fix rfl rfl (wtd_none rfl) (x_load ag2 rfl (cells_ext mauto Ext.auto)) ?_
    refine dr_l (x_fieldAddr fd35_5 rfl) ?_
    refine dr_fix rfl rfl (wtd_none rfl) (x_load ag3 rfl (cells_ext mauto Ext.auto)) ?_
    refine dr_l (x_fieldAddr fd35_6 rfl) ?_
    refine dr_fix rfl rfl (wtd_none rfl) (x_load ag4 rfl (cells_ext mauto Ext.auto)) ?_
    refine dr_l (x_fieldAddr fd35_2 rfl) ?_
    refine dr_store0 rfl rfl (wtd_none rfl) (x_store sz3 rfl rfl rfl rfl rfl Repl.auto Spl.auto) (by first | rfl | simp [keys_append, keys_cons]) ?_
    refine dr_l (x_fieldAddr fd35_3 rfl) ?_
    refine dr_store0 rfl rfl (wtd_none rfl) (x_store sz3 rfl rfl rfl rfl rfl Repl.auto Spl.auto) (by first | rfl | simp [keys_append, keys_cons]) ?_
    refine dr_l (x_fieldAddr fd35_4 rfl) ?_
    refine dr_store0 rfl rfl (wtd_none rfl) (x_store sz2 rfl rfl rfl rfl rfl Repl.auto Spl.auto) (by first | rfl | simp [keys_append, keys_cons]) ?_
    refine dr_l (x_fieldAddr fd35_5 rfl) ?_
    refine dr_store0 rfl rfl (wtd_none rfl) (x_store sz3 rfl rfl rfl rfl rfl Repl.auto Spl.auto) (by first | rfl | simp [keys_append, keys_cons]) ?_
    refine dr_l (x_fieldAddr fd35_6 rfl) ?_
    refine dr_store0 rfl rfl (wtd_none rfl) (x_store sz4 rfl rfl rfl rfl rfl Repl.auto Spl.auto) (by first | rfl | simp [keys_append, keys_cons]) ?_
    refine dr_nilX ?_
    show AW _ _ _ _ _ _ _
    refine aw_seq_region ?_
    refine sr_rd (x_loadN ag35 sz35 rfl (cells_ext mauto Ext.auto) rfl) ?_
    refine sr_x0 rfl (wtd_none rfl) (x_store sz35 rfl rfl rfl rfl rfl Repl.auto Spl.auto) ?_
    refine sr_nil ?_
    refine aw_kp [2] ?_
    refine aw_ret ?_
    show ∃ v H2, ResV _ _ _ _ _ _ v ∧ Sub H2 _ ∧ _
    exact ⟨_, H, resV rfl (.cons (⟨_, rfl, fun hw => rd_loadVarN ag35 sz35 hw (cells_ext mauto Ext.auto) rfl⟩) .nil), Sub.autoP, ⟨congrArg Req.v (clean_1 (by omega)).symm, rfl⟩⟩
  · refine sr_as ?_
    refine sr_nil ?_
    refine aw_kp [1, 2, 3, 8, 9] ?_
    refine aw_false rfl ?_
    refine aw_seq ?_
    refine aw_seq_region ?_
    refine sr_c (x_eq rfl rfl) (fun h2 => ?_) (fun h2 => ?_)
    · refine sr_as ?_
      refine sr_nil ?_
      refine aw_kp [1, 2, 3, 8, 26] ?_
      refine aw_true rfl ?_
      refine aw_skip ?_
      show AW _ _ _ _ _ _ _
      refine aw_true rfl ?_
      refine aw_region ?_
      refine sr_rd (x_fieldAddr fd35_1 rfl) ?_
      refine sr_rd (x_load ag3 rfl (cells_ext mauto Ext.auto)) ?_
      refine sr_rd (x_fieldAddr fd35_1 rfl) ?_
      refine sr_x0 rfl (wtd_none rfl) (x_store sz3 rfl rfl rfl rfl rfl Repl.auto Spl.auto) ?_
      refine sr_nil ?_
      show AW _ _ _ _ _ _ _
      refine aw_seq_region ?_
      refine sr_rd (x_loadN ag35 sz35 rfl (cells_ext mauto Ext.auto) rfl) ?_
      refine sr_x0 rfl (wtd_none rfl) (x_store sz35 rfl rfl rfl rfl rfl Repl.auto Spl.auto) ?_
      refine sr_nil ?_
      refine aw_kp [2] ?_
      refine aw_ret ?_
      show ∃ v H2, ResV _ _ _ _ _ _ v ∧ Sub H2 _ ∧ _
      exact ⟨_, H, resV rfl (.cons (⟨_, rfl, fun hw => rd_loadVarN ag35 sz35 hw (cells_ext mauto Ext.auto) rfl⟩) .nil), Sub.autoP, ⟨congrArg Req.v (clean_id (by omega)).symm, rfl⟩⟩
    · refine sr_as ?_
      refine sr_nil ?_
      refine aw_kp [1, 2, 3, 8, 26] ?_
      refine aw_false rfl ?_
      refine aw_seq_region ?_
      refine sr_c (x_eq rfl rfl) (fun h3 => ?_) (fun h3 => ?_)
      · refine sr_as ?_
        refine sr_nil ?_
        refine aw_kp [1, 2, 3, 8, 26] ?_
        refine aw_true rfl ?_
        refine aw_skip ?_
        show AW _ _ _ _ _ _ _
        refine aw_true rfl ?_
        refine aw_region ?_
        refine sr_rd (x_fieldAddr fd35_1 rfl) ?_
        refine sr_rd (x_load ag3 rfl (cells_ext mauto Ext.auto)) ?_
        refine sr_rd (x_fieldAddr fd35_1 rfl) ?_
        refine sr_x0 rfl (wtd_none rfl) (x_store sz3 rfl rfl rfl rfl rfl Repl.auto Spl.auto) ?_
        refine sr_nil ?_
        show AW _ _ _ _ _ _ _
        refine aw_seq_region ?_
        refine sr_rd (x_loadN ag35 sz35 rfl (cells_ext mauto Ext.auto) rfl) ?_
        refine sr_x0 rfl (wtd_none rfl) (x_store sz35 rfl rfl rfl rfl rfl Repl.auto Spl.auto) ?_
        refine sr_nil ?_
        refine aw_kp [2] ?_
        refine aw_ret ?_
        show ∃ v H2, ResV _ _ _ _ _ _ v ∧ Sub H2 _ ∧ _
        exact ⟨_, H, resV rfl (.cons (⟨_, rfl, fun hw => rd_loadVarN ag35 sz35 hw (cells_ext mauto Ext.auto) rfl⟩) .nil), Sub.autoP, ⟨congrArg Req.v (clean_id (by omega)).symm, rfl⟩⟩
      · refine sr_as ?_
        refine sr_nil ?_
        refine aw_kp [1, 2, 3, 8, 26] ?_
        refine aw_false rfl ?_
        refine aw_seq_region ?_
        refine sr_c (x_eq rfl rfl) (fun h4 => ?_) (fun h4 => ?_)
        · refine sr_as ?_
          refine sr_nil ?_
          refine aw_kp [1, 2, 3, 8, 26] ?_
          refine aw_true rfl ?_
          refine aw_skip ?_
          show AW _ _ _ _ _ _ _
          refine aw_true rfl ?_
          refine aw_region ?_
          refine sr_rd (x_fieldAddr fd35_1 rfl) ?_
          refine sr_rd (x_load ag3 rfl (cells_ext mauto Ext.auto)) ?_
          refine sr_rd (x_fieldAddr fd35_1 rfl) ?_
          refine sr_x0 rfl (wtd_none rfl) (x_store sz3 rfl rfl rfl rfl rfl Repl.auto Spl.auto) ?_
          refine sr_nil ?_
          show AW _ _ _ _ _ _ _
          refine aw_seq_region ?_
          refine sr_rd (x_loadN ag35 sz35 rfl (cells_ext mauto Ext.auto) rfl) ?_
          refine sr_x0 rfl (wtd_none rfl) (x_store sz35 rfl rfl rfl rfl rfl Repl.auto Spl.auto) ?_
          refine sr_nil ?_
          refine aw_kp [2] ?_
          refine aw_ret ?_
          show ∃ v H2, ResV _ _ _ _ _ _ v ∧ Sub H2 _ ∧ _
          exact ⟨_, H, resV rfl (.cons (⟨_, rfl, fun hw => rd_loadVarN ag35 sz35 hw (cells_ext mauto Ext.auto) rfl⟩) .nil), Sub.autoP, ⟨congrArg Req.v (clean_id (by omega)).symm, rfl⟩⟩
        · refine sr_as ?_
          refine sr_nil ?_
          refine aw_kp [1, 2, 3, 8, 26] ?_
          refine aw_false rfl ?_
          refine aw_seq_region ?_
          refine sr_c (x_eq rfl rfl) (fun h5 => ?_) (fun h5 => ?_)
          · refine sr_as ?_
            refine sr_nil ?_
            refine aw_kp [1, 2, 3, 8, 26] ?_
            refine aw_true rfl ?_
            refine aw_skip ?_
            show AW _ _ _ _ _ _ _
            refine aw_true rfl ?_
            refine aw_region ?_
            refine sr_rd (x_fieldAddr fd35_1 rfl) ?_
            refine sr_rd (x_load ag3 rfl (cells_ext mauto Ext.auto)) ?_
            refine sr_rd (x_fieldAddr fd35_1 rfl) ?_
            refine sr_x0 rfl (wtd_none rfl) (x_store sz3 rfl rfl rfl rfl rfl Repl.auto Spl.auto) ?_
            refine sr_nil ?_
            show AW _ _ _ _ _ _ _
            refine aw_seq_region ?_
            refine sr_rd (x_loadN ag35 sz35 rfl (cells_ext mauto Ext.auto) rfl) ?_
            refine sr_x0 rfl (wtd_none rfl) (x_store sz35 rfl rfl rfl rfl rfl Repl.auto Spl.auto) ?_
            refine sr_nil ?_
            refine aw_kp [2] ?_
            refine aw_ret ?_
            show ∃ v H2, ResV _ _ _ _ _ _ v ∧ Sub H2 _ ∧ _
            exact ⟨_, H, resV rfl (.cons (⟨_, rfl, fun hw => rd_loadVarN ag35 sz35 hw (cells_ext mauto Ext.auto) rfl⟩) .nil), Sub.autoP, ⟨congrArg Req.v (clean_id (by omega)).symm, rfl⟩⟩
          · refine sr_as ?_
            refine sr_nil ?_
            refine aw_kp [1, 2, 3, 8, 26] ?_
            refine aw_false rfl ?_
            refine aw_region ?_
            refine sr_c (x_eq rfl rfl) (fun h6 => ?_) (fun h6 => ?_)
            · refine sr_as ?_
              refine sr_nil ?_
              show AW _ _ _ _ _ _ _
              refine aw_true rfl ?_
              refine aw_region ?_
              refine sr_rd (x_fieldAddr fd35_1 rfl) ?_
              refine sr_rd (x_load ag3 rfl (cells_ext mauto Ext.auto)) ?_
              refine sr_rd (x_fieldAddr fd35_1 rfl) ?_
              refine sr_x0 rfl (wtd_none rfl) (x_store sz3 rfl rfl rfl rfl rfl Repl.auto Spl.auto) ?_
              refine sr_nil ?_
              show AW _ _ _ _ _ _ _
              refine aw_seq_region ?_
              refine sr_rd (x_loadN ag35 sz35 rfl (cells_ext mauto Ext.auto) rfl) ?_
              refine sr_x0 rfl (wtd_none rfl) (x_store sz35 rfl rfl rfl rfl rfl Repl.auto Spl.auto) ?_
              refine sr_nil ?_
              refine aw_kp [2] ?_
              refine aw_ret ?_
              show ∃ v H2, ResV _ _ _ _ _ _ v ∧ Sub H2 _ ∧ _
              exact ⟨_, H, resV rfl (.cons (⟨_, rfl, fun hw => rd_loadVarN ag35 sz35 hw (cells_ext mauto Ext.auto) rfl⟩) .nil), Sub.autoP, ⟨congrArg Req.v (clean_id (by omega)).symm, rfl⟩⟩
            · refine sr_as ?_
              refine sr_nil ?_
              show AW _ _ _ _ _ _ _
              refine aw_false rfl ?_
              refine aw_seq ?_
              refine aw_seq_region ?_
              refine sr_c (x_eq rfl rfl) (fun h7 => ?_) (fun h7 => ?_)
              · refine sr_as ?_
                refine sr_nil ?_
                refine aw_kp [1, 2, 3, 8, 35] ?_
                refine aw_true rfl ?_
                refine aw_skip ?_
                show AW _ _ _ _ _ _ _
                refine aw_true rfl ?_
                refine aw_region ?_
                refine sr_rd (x_fieldAddr fd35_7 rfl) ?_
                refine sr_rd (x_load ag3 rfl (cells_ext mauto Ext.auto)) ?_
                refine sr_rd (x_fieldAddr fd35_7 rfl) ?_
                refine sr_x0 rfl (wtd_none rfl) (x_store sz3 rfl rfl rfl rfl rfl Repl.auto Spl.auto) ?_
                refine sr_nil ?_
                show AW _ _ _ _ _ _ _
                refine aw_seq_region ?_
                refine sr_rd (x_loadN ag35 sz35 rfl (cells_ext mauto Ext.auto) rfl) ?_
                refine sr_x0 rfl (wtd_none rfl) (x_store sz35 rfl rfl rfl rfl rfl Repl.auto Spl.auto) ?_
                refine sr_nil ?_
                refine aw_kp [2] ?_
                refine aw_ret ?_
                show ∃ v H2, ResV _ _ _ _ _ _ v ∧ Sub H2 _ ∧ _
                exact ⟨_, H, resV rfl (.cons (⟨_, rfl, fun hw => rd_loadVarN ag35 sz35 hw (cells_ext mauto Ext.auto) rfl⟩) .nil), Sub.autoP, ⟨congrArg Req.v (clean_nd (by omega)).symm, rfl⟩⟩
              · refine sr_as ?_
                refine sr_nil ?_
                refine aw_kp [1, 2, 3, 8, 35] ?_
                refine aw_false rfl ?_
                refine aw_region ?_
                refine sr_c (x_eq rfl rfl) (fun h8 => ?_) (fun h8 => ?_)
                · refine sr_as ?_
                  refine sr_nil ?_
                  show AW _ _ _ _ _ _ _
                  refine aw_true rfl ?_
                  refine aw_region ?_
                  refine sr_rd (x_fieldAddr fd35_7 rfl) ?_
                  refine sr_rd (x_load ag3 rfl (cells_ext mauto Ext.auto)) ?_
                  refine sr_rd (x_fieldAddr fd35_7 rfl) ?_
                  refine sr_x0 rfl (wtd_none rfl) (x_store sz3 rfl rfl rfl rfl rfl Repl.auto Spl.auto) ?_
                  refine sr_nil ?_
                  show AW _ _ _ _ _ _ _
                  refine aw_seq_region ?_
                  refine sr_rd (x_loadN ag35 sz35 rfl (cells_ext mauto Ext.auto) rfl) ?_
                  refine sr_x0 rfl (wtd_none rfl) (x_store sz35 rfl rfl rfl rfl rfl Repl.auto Spl.auto) ?_
                  refine sr_nil ?_
                  refine aw_kp [2] ?_
                  refine aw_ret ?_
                  show ∃ v H2, ResV _ _ _ _ _ _ v ∧ Sub H2 _ ∧ _
                  exact ⟨_, H, resV rfl (.cons (⟨_, rfl, fun hw => rd_loadVarN ag35 sz35 hw (cells_ext mauto Ext.auto) rfl⟩) .nil), Sub.autoP, ⟨congrArg Req.v (clean_nd (by omega)).symm, rfl⟩⟩
                · refine sr_as ?_
                  refine sr_nil ?_
                  show AW _ _ _ _ _ _ _
                  refine aw_false rfl ?_
                  refine aw_seq_region ?_
                  refine sr_c (x_eq rfl rfl) (fun h9 => ?_) (fun h9 => ?_)
                  · refine sr_as ?_
                    refine sr_nil ?_
                    refine aw_kp [1, 2, 3, 41] ?_
                    refine aw_true rfl ?_
                    refine aw_region ?_
                    refine sr_rd (x_fieldAddr fd35_8 rfl) ?_
                    refine sr_rd (x_load ag2 rfl (cells_ext mauto Ext.auto)) ?_
                    refine sr_rd (x_fieldAddr fd35_8 rfl) ?_
                    refine sr_x0 rfl (wtd_none rfl) (x_store sz2 rfl rfl rfl rfl rfl Repl.auto Spl.auto) ?_
                    refine sr_nil ?_
                    show AW _ _ _ _ _ _ _
                    refine aw_seq_region ?_
                    refine sr_rd (x_loadN ag35 sz35 rfl (cells_ext mauto Ext.auto) rfl) ?_
                    refine sr_x0 rfl (wtd_none rfl) (x_store sz35 rfl rfl rfl rfl rfl Repl.auto Spl.auto) ?_
                    refine sr_nil ?_
                    refine aw_kp [2] ?_
                    refine aw_ret ?_
                    show ∃ v H2, ResV _ _ _ _ _ _ v ∧ Sub H2 _ ∧ _
                    exact ⟨_, H, resV rfl (.cons (⟨_, rfl, fun hw => rd_loadVarN ag35 sz35 hw (cells_ext mauto Ext.auto) rfl⟩) .nil), Sub.autoP, ⟨congrArg Req.v (clean_by (by omega)).symm, rfl⟩⟩
                  · refine sr_as ?_
                    refine sr_nil ?_
                    refine aw_kp [1, 2, 3, 41] ?_
                    refine aw_false rfl ?_
                    refine aw_skip ?_
                    show AW _ _ _ _ _ _ _
                    refine aw_seq_region ?_
                    refine sr_rd (x_loadN ag35 sz35 rfl (cells_ext mauto Ext.auto) rfl) ?_
                    refine sr_x0 rfl (wtd_none rfl) (x_store sz35 rfl rfl rfl rfl rfl Repl.auto Spl.auto) ?_
                    refine sr_nil ?_
                    refine aw_kp [2] ?_
                    refine aw_ret ?_
                    show ∃ v H2, ResV _ _ _ _ _ _ v ∧ Sub H2 _ ∧ _
                    exact ⟨_, H, resV rfl (.cons (⟨_, rfl, fun hw => rd_loadVarN ag35 sz35 hw (cells_ext mauto Ext.auto) rfl⟩) .nil), Sub.autoP, ⟨congrArg Req.v (clean_no (by omega)).symm, rfl⟩⟩
set_option maxRecDepth 100000 in
set_option maxHeartbeats 400000 in
theorem right_s (r : Req) (H : SHeap) : AC Tryd.prog W0 62 [r.v] H (fun v H' => v = .bool (decide (GoodR r)) ∧ H' = H) := by
  refine ac_of Tryd.func62 rfl rfl rfl ?_
  refine aw_seq_region ?_
  refine sr_new rfl (wtd_none rfl) rfl (x_box rfl rfl) ?_
  intro r0_0 hr0_0 gr0_0
  refine sr_as ?_
  refine sr_nil ?_
  refine aw_kp [1, 2] ?_
  refine aw_seq_dr ⟨_, 10, 12, [[], [0], [0, 1], [0, 1, 2], [0, 1, 2, 3], [0, 1, 2, 3, 4], [0, 1, 2, 3], [0, 1, 2, 3, 4, 5, 6], [0, 1, 2, 3, 4, 5, 6, 7], [0, 1, 2, 3, 4, 5, 6, 7, 8]], [.light, .mem, .call, .light, .mem, .call, .mem, .light, .light, .light]⟩ (by kernel_rfl) rfl rfl mix ?_
  refine dr_l (x_fieldAddr fd35_0 rfl) ?_
  refine dr_mem0 rfl rfl (wtd_none rfl) (x_load ag3 rfl (cells_ext mauto Ext.auto)) ?_
  refine dr_callq0 rfl rfl (wtd_none rfl) (opS_F rfl rfl rfl rfl cl76 ((is_s r.kind _))) (⟨_, rfl⟩) ?_
  rintro _ rfl
  generalize hd : decide (1 ≤ r.kind ∧ r.kind ≤ 13) = d1
  cases d1
  · refine dr_l (x_move rfl) ?_
    refine dr_sk ?_
    refine dr_sk ?_
    refine dr_sk ?_
    refine dr_sk ?_
    refine dr_l (x_pick_f rfl rfl rfl) ?_
    refine dr_l (x_assign rfl) ?_
    refine dr_nil0 ?_
    refine aw_kp [2] ?_
    refine aw_ret ?_
    show ∃ v H2, ResV _ _ _ _ _ _ v ∧ Sub H2 _ ∧ _
    exact ⟨_, H, resV rfl (.cons rfl .nil), Sub.autoP, ⟨congrArg Value.bool (by first | exact (decide_eq_true (p := GoodR r) ⟨of_decide_eq_true hd, eqC_req.1 (by assumption)⟩).symm | exact (decide_eq_false (p := GoodR r) (fun h => of_decide_eq_false hd h.1)).symm | exact (decide_eq_false (p := GoodR r) (fun h => absurd (eqC_req.2 h.2) (by assumption))).symm), rfl⟩⟩
  · refine dr_l (x_move rfl) ?_
    refine dr_mem0 rfl rfl (wtd_yes rfl rfl rfl) (x_loadN ag35 sz35 rfl (cells_ext mauto Ext.auto) rfl) ?_
    refine dr_callq0 rfl rfl (wtd_yes rfl rfl rfl) (opS_F rfl rfl rfl rfl cl56 ((clean_s r _))) (⟨_, rfl⟩) ?_
    rintro _ rfl
    refine dr_mem0 rfl rfl (wtd_yes rfl rfl rfl) (x_loadN ag35 sz35 rfl (cells_ext mauto Ext.auto) rfl) ?_
    refine dr_cmp rfl rfl (wtd_yes rfl rfl rfl) (x_eqStruct Tryd.underlying35 ks35 rfl rfl rfl rfl rfl) (fun h1 => ?_) (fun h1 => ?_)
    · refine dr_l (x_pick_t rfl rfl rfl) ?_
      refine dr_l (x_assign rfl) ?_
      refine dr_nil0 ?_
      refine aw_kp [2] ?_
      refine aw_ret ?_
      show ∃ v H2, ResV _ _ _ _ _ _ v ∧ Sub H2 _ ∧ _
      exact ⟨_, H, resV rfl (.cons rfl .nil), Sub.autoP, ⟨congrArg Value.bool (by first | exact (decide_eq_true (p := GoodR r) ⟨of_decide_eq_true hd, eqC_req.1 (by assumption)⟩).symm | exact (decide_eq_false (p := GoodR r) (fun h => of_decide_eq_false hd h.1)).symm | exact (decide_eq_false (p := GoodR r) (fun h => absurd (eqC_req.2 h.2) (by assumption))).symm), rfl⟩⟩
    · refine dr_l (x_pick_t rfl rfl rfl) ?_
      refine dr_l (x_assign rfl) ?_
      refine dr_nil0 ?_
      refine aw_kp [2] ?_
      refine aw_ret ?_
      show ∃ v H2, ResV _ _ _ _ _ _ v ∧ Sub H2 _ ∧ _
      exact ⟨_, H, resV rfl (.cons rfl .nil), Sub.autoP, ⟨congrArg Value.bool (by first | exact (decide_eq_true (p := GoodR r) ⟨of_decide_eq_true hd, eqC_req.1 (by assumption)⟩).symm | exact (decide_eq_false (p := GoodR r) (fun h => of_decide_eq_false hd h.1)).symm | exact (decide_eq_false (p := GoodR r) (fun h => absurd (eqC_req.2 h.2) (by assumption))).symm), rfl⟩⟩
set_option maxRecDepth 100000 in
set_option maxHeartbeats 2000000 in
theorem line_s (r : Req) (hw : WfR r) (H : SHeap) : AC Tryd.prog W0 24 [r.v] H (fun v H' => v = .string (bs (lineB r)) ∧ H' = H) := by
  have hwl := word_len r.kind
  have q0 := numB_len hw.1.1 hw.1.2
  have q1 := numB_len hw.2.1.1 hw.2.1.2
  have q2 := numB_len hw.2.2.1.1 hw.2.2.1.2
  have q3 := numB_len hw.2.2.2.1.1 hw.2.2.2.1.2
  have q4 := numB_len hw.2.2.2.2.1.1 hw.2.2.2.2.1.2
  have q5 := numB_len hw.2.2.2.2.2.1.1 hw.2.2.2.2.2.1.2
  have q6 := numB_len hw.2.2.2.2.2.2.1 hw.2.2.2.2.2.2.2
  refine ac_of Tryd.func24 rfl rfl rfl ?_
  refine aw_seq_region ?_
  refine sr_new rfl (wtd_none rfl) rfl (x_box rfl rfl) ?_
  intro r0_0 hr0_0 gr0_0
  refine sr_as ?_
  refine sr_nil ?_
  refine aw_kp [1, 2] ?_
  refine aw_seq_region ?_
  refine sr_new rfl (wtd_none rfl) rfl (x_buildSlice Tryd.underlying49 sz9 zr9 rfl rfl rfl rfl Parts.auto Fill.auto) ?_
  intro r1_0 hr1_0 gr1_0
  refine sr_as ?_
  refine sr_nil ?_
  refine aw_kp [1, 2, 3] ?_
  refine aw_seq ?_
  refine aw_seq_dr ⟨_, 14, 86, [[], [0], [0, 1], [0, 1, 2], [0, 1, 2, 3], [0, 1, 2, 3, 4], [0, 1, 2, 3, 4, 5], [0, 1, 2, 3, 4, 5, 6], [0, 1, 2, 3, 4, 5, 6, 7], [0, 1, 2, 3, 4, 5, 6, 7, 8], [0, 1, 2, 3, 4, 5, 6, 7, 8, 9], [0, 1, 2, 3, 4, 5, 6, 7, 8], [0, 1, 2, 3, 4, 5, 6, 7, 8, 9, 10, 11], [0, 1, 2, 3, 4, 5, 6, 7, 8, 9, 10, 11, 12]], [.light, .mem, .light, .light, .light, .mem, .light, .light, .light, .mem, .call, .mem, .light, .light]⟩ (by kernel_rfl) rfl rfl mix ?_
  refine dr_l (x_fieldAddr fd35_0 rfl) ?_
  refine dr_mem0 rfl rfl (wtd_none rfl) (x_load ag3 rfl (cells_ext mauto Ext.auto)) ?_
  refine dr_cmp rfl rfl (wtd_none rfl) (x_lt rfl rfl) (fun h1 => ?_) (fun h1 => ?_)
  · refine dr_l (x_move rfl) ?_
    refine dr_sk ?_
    refine dr_sk ?_
    refine dr_sk ?_
    refine dr_l (x_pick_t rfl rfl rfl) ?_
    refine dr_l (x_move rfl) ?_
    refine dr_sk ?_
    refine dr_sk ?_
    refine dr_sk ?_
    refine dr_sk ?_
    refine dr_l (x_pick_t rfl rfl rfl) ?_
    refine dr_nil0 ?_
    refine aw_kp [1, 2, 3, 20] ?_
    refine aw_true rfl ?_
    refine aw_seq_region ?_
    refine sr_as ?_
    refine sr_nil ?_
    refine aw_kp [1, 2, 3] ?_
    refine aw_ret ?_
    show ∃ v H2, ResV _ _ _ _ _ _ v ∧ Sub H2 _ ∧ _
    exact ⟨_, H, resV rfl (.cons rfl .nil), Sub.autoP, ⟨congrArg (fun l => Value.string (bs l)) (lineB_n (fun h => by have := h.1; omega)).symm, rfl⟩⟩
  · refine dr_l (x_move rfl) ?_
    refine dr_y (x_fieldAddr fd35_0 rfl) ?_
    refine dr_mem0 rfl rfl (wtd_yes rfl rfl rfl) (x_load ag3 rfl (cells_ext mauto Ext.auto)) ?_
    refine dr_cmp rfl rfl (wtd_yes rfl rfl rfl) (x_gt rfl rfl) (fun h2 => ?_) (fun h2 => ?_)
    · refine dr_l (x_pick_f rfl rfl rfl) ?_
      refine dr_l (x_move rfl) ?_
      refine dr_sk ?_
      refine dr_sk ?_
      refine dr_sk ?_
      refine dr_sk ?_
      refine dr_l (x_pick_t rfl rfl rfl) ?_
      refine dr_nil0 ?_
      refine aw_kp [1, 2, 3, 20] ?_
      refine aw_true rfl ?_
      refine aw_seq_region ?_
      refine sr_as ?_
      refine sr_nil ?_
      refine aw_kp [1, 2, 3] ?_
      refine aw_ret ?_
      show ∃ v H2, ResV _ _ _ _ _ _ v ∧ Sub H2 _ ∧ _
      exact ⟨_, H, resV rfl (.cons rfl .nil), Sub.autoP, ⟨congrArg (fun l => Value.string (bs l)) (lineB_n (fun h => by have := h.1; omega)).symm, rfl⟩⟩
    · refine dr_l (x_pick_f rfl rfl rfl) ?_
      refine dr_l (x_move rfl) ?_
      refine dr_mem0 rfl rfl (wtd_yes rfl rfl rfl) (x_loadN ag35 sz35 rfl (cells_ext mauto Ext.auto) rfl) ?_
      refine dr_callq0 rfl rfl (wtd_yes rfl rfl rfl) (opS_F rfl rfl rfl rfl cl56 ((clean_s r _))) (⟨_, rfl⟩) ?_
      rintro _ rfl
      refine dr_mem0 rfl rfl (wtd_yes rfl rfl rfl) (x_loadN ag35 sz35 rfl (cells_ext mauto Ext.auto) rfl) ?_
      refine dr_cmp rfl rfl (wtd_yes rfl rfl rfl) (x_neStruct Tryd.underlying35 ks35 rfl rfl rfl rfl rfl) (fun h3 => ?_) (fun h3 => ?_)
      · refine dr_l (x_pick_f rfl rfl rfl) ?_
        refine dr_nil0 ?_
        refine aw_kp [1, 2, 3, 20] ?_
        refine aw_true rfl ?_
        refine aw_seq_region ?_
        refine sr_as ?_
        refine sr_nil ?_
        refine aw_kp [1, 2, 3] ?_
        refine aw_ret ?_
        show ∃ v H2, ResV _ _ _ _ _ _ v ∧ Sub H2 _ ∧ _
        exact ⟨_, H, resV rfl (.cons rfl .nil), Sub.autoP, ⟨congrArg (fun l => Value.string (bs l)) (lineB_n (fun h => by have h9 : eqC (cleanR r).cells r.cells = false := (by assumption); rw [eqC_req.2 h.2] at h9; cases h9)).symm, rfl⟩⟩
      · refine dr_l (x_pick_f rfl rfl rfl) ?_
        refine dr_nil0 ?_
        refine aw_kp [1, 2, 3, 20] ?_
        refine aw_false rfl ?_
        refine aw_skip ?_
        show AW _ _ _ _ _ _ _
        refine aw_seq_region ?_
        have hg : GoodR r := ⟨by omega, eqC_t (by assumption)⟩
        have hk := hg.1
        refine sr_mv ?_
        refine sr_rd (x_fieldAddr fd35_0 rfl) ?_
        refine sr_rd (x_load ag3 rfl (cells_ext mauto Ext.auto)) ?_
        refine sr_rd (x_indexAddr Tryd.underlying49 sz9 rfl rfl (by omega) (by omega)) ?_
        refine sr_rd (x_load ag9 rfl (cells_get (cells_ext (vs := (wordsL.map fun w => Value.string (bs w))) (n := 14) mauto Ext.auto) _ (by rw [Nat.mul_one]; exact word_get hk.1 hk.2))) ?_
        refine sr_as ?_
        refine sr_nil ?_
        refine aw_kp [1, 2, 4] ?_
        refine aw_seq_region ?_
        refine sr_rd (x_fieldAddr fd35_0 rfl) ?_
        refine sr_rd (x_load ag3 rfl (cells_ext mauto Ext.auto)) ?_
        refine sr_nil ?_
        refine aw_kp [1, 2, 4, 27] ?_
        refine aw_block ?_
        refine aw_seq_region ?_
        refine sr_c (x_eq rfl rfl) (fun h4 => ?_) (fun h4 => ?_)
        · refine sr_as ?_
          refine sr_nil ?_
          refine aw_kp [1, 2, 4, 27, 29] ?_
          refine aw_true rfl ?_
          refine aw_seq_region ?_
          refine sr_as ?_
          refine sr_nil ?_
          refine aw_kp [1, 2, 4, 5] ?_
          refine aw_seq ?_
          refine aw_seq_region ?_
          refine sr_rd (x_fieldAddr fd35_6 rfl) ?_
          refine sr_rd (x_load ag4 rfl (cells_ext mauto Ext.auto)) ?_
          refine sr_nil ?_
          refine aw_kp [1, 2, 4, 5, 32] ?_
          refine aw_cond rfl (fun hb5 => ?_) (fun hb5 => ?_)
          · refine aw_region ?_
            refine sr_as ?_
            refine sr_nil ?_
            show AW _ _ _ _ _ _ _
            refine aw_seq_dr ⟨_, 25, 86, [[], [0], [], [2], [2, 3], [0, 1, 2, 3, 4], [0, 1, 2, 3, 4, 5], [], [7], [2, 3, 4, 7, 8], [0, 1, 2, 3, 4, 5, 6, 7, 8, 9], [0, 1, 2, 3, 4, 5, 6, 7, 8, 9, 10], [], [12], [2, 3, 4, 7, 8, 9, 12, 13], [0, 1, 2, 3, 4, 5, 6, 7, 8, 9, 10, 11, 12, 13, 14], [0, 1, 2, 3, 4, 5, 6, 7, 8, 9, 10, 11, 12, 13, 14, 15], [], [17], [2, 3, 4, 7, 8, 9, 12, 13, 14, 17, 18], [0, 1, 2, 3, 4, 5, 6, 7, 8, 9, 10, 11, 12, 13, 14, 15, 16, 17, 18, 19], [0, 1, 2, 3, 4, 5, 6, 7, 8, 9, 10, 11, 12, 13, 14, 15, 16, 17, 18, 19, 20], [], [0, 1, 2, 3, 4, 5, 6, 7, 8, 9, 10, 11, 12, 13, 14, 15, 16, 17, 18, 19, 20, 21, 22], [0, 1, 2, 3, 4, 5, 6, 7, 8, 9, 10, 11, 12, 13, 14, 15, 16, 17, 18, 19, 20, 21, 22, 23]], [.light, .light, .light, .mem, .call, .light, .light, .light, .mem, .call, .light, .light, .light, .mem, .call, .light, .light, .light, .mem, .call, .light, .light, .light, .light, .light]⟩ (by kernel_rfl) rfl rfl mix ?_
            refine dr_l (x_move rfl) ?_
            refine dr_l (x_catB rfl rfl (by simp only [List.length_append, List.length_cons, List.length_nil]; omega)) ?_
            refine dr_l (x_fieldAddr fd35_2 rfl) ?_
            refine dr_mem0 rfl rfl (wtd_none rfl) (x_load ag3 rfl (cells_ext mauto Ext.auto)) ?_
            refine dr_callq0 rfl rfl (wtd_none rfl) (opS_F rfl rfl rfl rfl cl28 ((lnumber_s r.user hw.2.1 _))) (⟨_, rfl⟩) ?_
            rintro _ rfl
            refine dr_l (x_catB rfl rfl (by simp only [List.length_append, List.length_cons, List.length_nil]; omega)) ?_
            refine dr_l (x_catB rfl rfl (by simp only [List.length_append, List.length_cons, List.length_nil]; omega)) ?_
            refine dr_l (x_fieldAddr fd35_3 rfl) ?_
            refine dr_mem0 rfl rfl (wtd_none rfl) (x_load ag3 rfl (cells_ext mauto Ext.auto)) ?_
            refine dr_callq0 rfl rfl (wtd_none rfl) (opS_F rfl rfl rfl rfl cl28 ((lnumber_s r.width hw.2.2.1 _))) (⟨_, rfl⟩) ?_
            rintro _ rfl
            refine dr_l (x_catB rfl rfl (by simp only [List.length_append, List.length_cons, List.length_nil]; omega)) ?_
            refine dr_l (x_catB rfl rfl (by simp only [List.length_append, List.length_cons, List.length_nil]; omega)) ?_
            refine dr_l (x_fieldAddr fd35_4 rfl) ?_
            refine dr_mem0 rfl rfl (wtd_none rfl) (x_load ag2 rfl (cells_ext mauto Ext.auto)) ?_
            refine dr_callq0 rfl rfl (wtd_none rfl) (opS_F rfl rfl rfl rfl cl28 ((lnumber_s r.limit hw.2.2.2.1 _))) (⟨_, rfl⟩) ?_
            rintro _ rfl
            refine dr_l (x_catB rfl rfl (by simp only [List.length_append, List.length_cons, List.length_nil]; omega)) ?_
            refine dr_l (x_catB rfl rfl (by simp only [List.length_append, List.length_cons, List.length_nil]; omega)) ?_
            refine dr_l (x_fieldAddr fd35_5 rfl) ?_
            refine dr_mem0 rfl rfl (wtd_none rfl) (x_load ag3 rfl (cells_ext mauto Ext.auto)) ?_
            refine dr_callq0 rfl rfl (wtd_none rfl) (opS_F rfl rfl rfl rfl cl28 ((lnumber_s r.prio hw.2.2.2.2.1 _))) (⟨_, rfl⟩) ?_
            rintro _ rfl
            refine dr_l (x_catB rfl rfl (by simp only [List.length_append, List.length_cons, List.length_nil]; omega)) ?_
            refine dr_l (x_catB rfl rfl (by simp only [List.length_append, List.length_cons, List.length_nil]; omega)) ?_
            refine dr_l (x_move rfl) ?_
            refine dr_l (x_catB rfl rfl (by simp only [List.length_append, List.length_cons, List.length_nil]; omega)) ?_
            refine dr_l (x_assign rfl) ?_
            refine dr_nil0 ?_
            refine aw_kp [2] ?_
            refine aw_ret ?_
            show ∃ v H2, ResV _ _ _ _ _ _ v ∧ Sub H2 _ ∧ _
            exact ⟨_, H, resV rfl (.cons rfl .nil), Sub.autoP, ⟨congrArg (fun l => Value.string (bs l)) (by rw [lineB_g hg]; unfold lineW; rw [fld_1 (by omega)]; first | (rw [if_pos (by assumption)]; simp [numB_1]; done) | (rw [if_neg (by simp_all)]; simp [numB_0]; done) | fail), rfl⟩⟩
          · refine aw_skip ?_
            show AW _ _ _ _ _ _ _
            refine aw_seq_dr ⟨_, 25, 86, [[], [0], [], [2], [2, 3], [0, 1, 2, 3, 4], [0, 1, 2, 3, 4, 5], [], [7], [2, 3, 4, 7, 8], [0, 1, 2, 3, 4, 5, 6, 7, 8, 9], [0, 1, 2, 3, 4, 5, 6, 7, 8, 9, 10], [], [12], [2, 3, 4, 7, 8, 9, 12, 13], [0, 1, 2, 3, 4, 5, 6, 7, 8, 9, 10, 11, 12, 13, 14], [0, 1, 2, 3, 4, 5, 6, 7, 8, 9, 10, 11, 12, 13, 14, 15], [], [17], [2, 3, 4, 7, 8, 9, 12, 13, 14, 17, 18], [0, 1, 2, 3, 4, 5, 6, 7, 8, 9, 10, 11, 12, 13, 14, 15, 16, 17, 18, 19], [0, 1, 2, 3, 4, 5, 6, 7, 8, 9, 10, 11, 12, 13, 14, 15, 16, 17, 18, 19, 20], [], [0, 1, 2, 3, 4, 5, 6, 7, 8, 9, 10, 11, 12, 13, 14, 15, 16, 17, 18, 19, 20, 21, 22], [0, 1, 2, 3, 4, 5, 6, 7, 8, 9, 10, 11, 12, 13, 14, 15, 16, 17, 18, 19, 20, 21, 22, 23]], [.light, .light, .light, .mem, .call, .light, .light, .light, .mem, .call, .light, .light, .light, .mem, .call, .light, .light, .light, .mem, .call, .light, .light, .light, .light, .light]⟩ (by kernel_rfl) rfl rfl mix ?_
            refine dr_l (x_move rfl) ?_
            refine dr_l (x_catB rfl rfl (by simp only [List.length_append, List.length_cons, List.length_nil]; omega)) ?_
            refine dr_l (x_fieldAddr fd35_2 rfl) ?_
            refine dr_mem0 rfl rfl (wtd_none rfl) (x_load ag3 rfl (cells_ext mauto Ext.auto)) ?_
            refine dr_callq0 rfl rfl (wtd_none rfl) (opS_F rfl rfl rfl rfl cl28 ((lnumber_s r.user hw.2.1 _))) (⟨_, rfl⟩) ?_
            rintro _ rfl
            refine dr_l (x_catB rfl rfl (by simp only [List.length_append, List.length_cons, List.length_nil]; omega)) ?_
            refine dr_l (x_catB rfl rfl (by simp only [List.length_append, List.length_cons, List.length_nil]; omega)) ?_
            refine dr_l (x_fieldAddr fd35_3 rfl) ?_
            refine dr_mem0 rfl rfl (wtd_none rfl) (x_load ag3 rfl (cells_ext mauto Ext.auto)) ?_
            refine dr_callq0 rfl rfl (wtd_none rfl) (opS_F rfl rfl rfl rfl cl28 ((lnumber_s r.width hw.2.2.1 _))) (⟨_, rfl⟩) ?_
            rintro _ rfl
            refine dr_l (x_catB rfl rfl (by simp only [List.length_append, List.length_cons, List.length_nil]; omega)) ?_
            refine dr_l (x_catB rfl rfl (by simp only [List.length_append, List.length_cons, List.length_nil]; omega)) ?_
            refine dr_l (x_fieldAddr fd35_4 rfl) ?_
            refine dr_mem0 rfl rfl (wtd_none rfl) (x_load ag2 rfl (cells_ext mauto Ext.auto)) ?_
            refine dr_callq0 rfl rfl (wtd_none rfl) (opS_F rfl rfl rfl rfl cl28 ((lnumber_s r.limit hw.2.2.2.1 _))) (⟨_, rfl⟩) ?_
            rintro _ rfl
            refine dr_l (x_catB rfl rfl (by simp only [List.length_append, List.length_cons, List.length_nil]; omega)) ?_
            refine dr_l (x_catB rfl rfl (by simp only [List.length_append, List.length_cons, List.length_nil]; omega)) ?_
            refine dr_l (x_fieldAddr fd35_5 rfl) ?_
            refine dr_mem0 rfl rfl (wtd_none rfl) (x_load ag3 rfl (cells_ext mauto Ext.auto)) ?_
            refine dr_callq0 rfl rfl (wtd_none rfl) (opS_F rfl rfl rfl rfl cl28 ((lnumber_s r.prio hw.2.2.2.2.1 _))) (⟨_, rfl⟩) ?_
            rintro _ rfl
            refine dr_l (x_catB rfl rfl (by simp only [List.length_append, List.length_cons, List.length_nil]; omega)) ?_
            refine dr_l (x_catB rfl rfl (by simp only [List.length_append, List.length_cons, List.length_nil]; omega)) ?_
            refine dr_l (x_move rfl) ?_
            refine dr_l (x_catB rfl rfl (by simp only [List.length_append, List.length_cons, List.length_nil]; omega)) ?_
            refine dr_l (x_assign rfl) ?_
            refine dr_nil0 ?_
            refine aw_kp [2] ?_
            refine aw_ret ?_
            show ∃ v H2, ResV _ _ _ _ _ _ v ∧ Sub H2 _ ∧ _
            exact ⟨_, H, resV rfl (.cons rfl .nil), Sub.autoP, ⟨congrArg (fun l => Value.string (bs l)) (by rw [lineB_g hg]; unfold lineW; rw [fld_1 (by omega)]; first | (rw [if_pos (by assumption)]; simp [numB_1]; done) | (rw [if_neg (by simp_all)]; simp [numB_0]; done) | fail), rfl⟩⟩
        · refine sr_as ?_
          refine sr_nil ?_
          refine aw_kp [1, 2, 4, 27, 29] ?_
          refine aw_false rfl ?_
          refine aw_seq ?_
          refine aw_seq_region ?_
          refine sr_c (x_eq rfl rfl) (fun h6 => ?_) (fun h6 => ?_)
          · refine sr_as ?_
            refine sr_nil ?_
            refine aw_kp [1, 2, 4, 27, 57] ?_
            refine aw_true rfl ?_
            refine aw_skip ?_
            show AW _ _ _ _ _ _ _
            refine aw_true rfl ?_
            refine aw_seq_region ?_
            refine sr_mv ?_
            refine sr_rd (x_catB rfl rfl (by simp only [List.length_append, List.length_cons, List.length_nil]; omega)) ?_
            refine sr_rd (x_fieldAddr fd35_1 rfl) ?_
            refine sr_rd (x_load ag3 rfl (cells_ext mauto Ext.auto)) ?_
            refine sr_d rfl (wtd_none rfl) rfl (opS_call rfl rfl rfl rfl cl28 (lnumber_s r.id hw.1 _)) ?_
            rintro _ H9 ⟨rfl, rfl⟩
            refine sr_rd (x_catB rfl rfl (by simp only [List.length_append, List.length_cons, List.length_nil]; omega)) ?_
            refine sr_as ?_
            refine sr_nil ?_
            refine aw_kp [2] ?_
            refine aw_ret ?_
            show ∃ v H2, ResV _ _ _ _ _ _ v ∧ Sub H2 _ ∧ _
            exact ⟨_, H, resV rfl (.cons rfl .nil), Sub.autoP, ⟨congrArg (fun l => Value.string (bs l)) (by rw [lineB_g hg]; unfold lineW; rw [fld_id (by omega)]; simp), rfl⟩⟩
          · refine sr_as ?_
            refine sr_nil ?_
            refine aw_kp [1, 2, 4, 27, 57] ?_
            refine aw_false rfl ?_
            refine aw_seq_region ?_
            refine sr_c (x_eq rfl rfl) (fun h7 => ?_) (fun h7 => ?_)
            · refine sr_as ?_
              refine sr_nil ?_
              refine aw_kp [1, 2, 4, 27, 57] ?_
              refine aw_true rfl ?_
              refine aw_skip ?_
              show AW _ _ _ _ _ _ _
              refine aw_true rfl ?_
              refine aw_seq_region ?_
              refine sr_mv ?_
              refine sr_rd (x_catB rfl rfl (by simp only [List.length_append, List.length_cons, List.length_nil]; omega)) ?_
              refine sr_rd (x_fieldAddr fd35_1 rfl) ?_
              refine sr_rd (x_load ag3 rfl (cells_ext mauto Ext.auto)) ?_
              refine sr_d rfl (wtd_none rfl) rfl (opS_call rfl rfl rfl rfl cl28 (lnumber_s r.id hw.1 _)) ?_
              rintro _ H9 ⟨rfl, rfl⟩
              refine sr_rd (x_catB rfl rfl (by simp only [List.length_append, List.length_cons, List.length_nil]; omega)) ?_
              refine sr_as ?_
              refine sr_nil ?_
              refine aw_kp [2] ?_
              refine aw_ret ?_
              show ∃ v H2, ResV _ _ _ _ _ _ v ∧ Sub H2 _ ∧ _
              exact ⟨_, H, resV rfl (.cons rfl .nil), Sub.autoP, ⟨congrArg (fun l => Value.string (bs l)) (by rw [lineB_g hg]; unfold lineW; rw [fld_id (by omega)]; simp), rfl⟩⟩
            · refine sr_as ?_
              refine sr_nil ?_
              refine aw_kp [1, 2, 4, 27, 57] ?_
              refine aw_false rfl ?_
              refine aw_seq_region ?_
              refine sr_c (x_eq rfl rfl) (fun h8 => ?_) (fun h8 => ?_)
              · refine sr_as ?_
                refine sr_nil ?_
                refine aw_kp [1, 2, 4, 27, 57] ?_
                refine aw_true rfl ?_
                refine aw_skip ?_
                show AW _ _ _ _ _ _ _
                refine aw_true rfl ?_
                refine aw_seq_region ?_
                refine sr_mv ?_
                refine sr_rd (x_catB rfl rfl (by simp only [List.length_append, List.length_cons, List.length_nil]; omega)) ?_
                refine sr_rd (x_fieldAddr fd35_1 rfl) ?_
                refine sr_rd (x_load ag3 rfl (cells_ext mauto Ext.auto)) ?_
                refine sr_d rfl (wtd_none rfl) rfl (opS_call rfl rfl rfl rfl cl28 (lnumber_s r.id hw.1 _)) ?_
                rintro _ H9 ⟨rfl, rfl⟩
                refine sr_rd (x_catB rfl rfl (by simp only [List.length_append, List.length_cons, List.length_nil]; omega)) ?_
                refine sr_as ?_
                refine sr_nil ?_
                refine aw_kp [2] ?_
                refine aw_ret ?_
                show ∃ v H2, ResV _ _ _ _ _ _ v ∧ Sub H2 _ ∧ _
                exact ⟨_, H, resV rfl (.cons rfl .nil), Sub.autoP, ⟨congrArg (fun l => Value.string (bs l)) (by rw [lineB_g hg]; unfold lineW; rw [fld_id (by omega)]; simp), rfl⟩⟩
              · refine sr_as ?_
                refine sr_nil ?_
                refine aw_kp [1, 2, 4, 27, 57] ?_
                refine aw_false rfl ?_
                refine aw_seq_region ?_
                refine sr_c (x_eq rfl rfl) (fun h9 => ?_) (fun h9 => ?_)
                · refine sr_as ?_
                  refine sr_nil ?_
                  refine aw_kp [1, 2, 4, 27, 57] ?_
                  refine aw_true rfl ?_
                  refine aw_skip ?_
                  show AW _ _ _ _ _ _ _
                  refine aw_true rfl ?_
                  refine aw_seq_region ?_
                  refine sr_mv ?_
                  refine sr_rd (x_catB rfl rfl (by simp only [List.length_append, List.length_cons, List.length_nil]; omega)) ?_
                  refine sr_rd (x_fieldAddr fd35_1 rfl) ?_
                  refine sr_rd (x_load ag3 rfl (cells_ext mauto Ext.auto)) ?_
                  refine sr_d rfl (wtd_none rfl) rfl (opS_call rfl rfl rfl rfl cl28 (lnumber_s r.id hw.1 _)) ?_
                  rintro _ H9 ⟨rfl, rfl⟩
                  refine sr_rd (x_catB rfl rfl (by simp only [List.length_append, List.length_cons, List.length_nil]; omega)) ?_
                  refine sr_as ?_
                  refine sr_nil ?_
                  refine aw_kp [2] ?_
                  refine aw_ret ?_
                  show ∃ v H2, ResV _ _ _ _ _ _ v ∧ Sub H2 _ ∧ _
                  exact ⟨_, H, resV rfl (.cons rfl .nil), Sub.autoP, ⟨congrArg (fun l => Value.string (bs l)) (by rw [lineB_g hg]; unfold lineW; rw [fld_id (by omega)]; simp), rfl⟩⟩
                · refine sr_as ?_
                  refine sr_nil ?_
                  refine aw_kp [1, 2, 4, 27, 57] ?_
                  refine aw_false rfl ?_
                  refine aw_region ?_
                  refine sr_c (x_eq rfl rfl) (fun h10 => ?_) (fun h10 => ?_)
                  · refine sr_as ?_
                    refine sr_nil ?_
                    show AW _ _ _ _ _ _ _
                    refine aw_true rfl ?_
                    refine aw_seq_region ?_
                    refine sr_mv ?_
                    refine sr_rd (x_catB rfl rfl (by simp only [List.length_append, List.length_cons, List.length_nil]; omega)) ?_
                    refine sr_rd (x_fieldAddr fd35_1 rfl) ?_
                    refine sr_rd (x_load ag3 rfl (cells_ext mauto Ext.auto)) ?_
                    refine sr_d rfl (wtd_none rfl) rfl (opS_call rfl rfl rfl rfl cl28 (lnumber_s r.id hw.1 _)) ?_
                    rintro _ H9 ⟨rfl, rfl⟩
                    refine sr_rd (x_catB rfl rfl (by simp only [List.length_append, List.length_cons, List.length_nil]; omega)) ?_
                    refine sr_as ?_
                    refine sr_nil ?_
                    refine aw_kp [2] ?_
                    refine aw_ret ?_
                    show ∃ v H2, ResV _ _ _ _ _ _ v ∧ Sub H2 _ ∧ _
                    exact ⟨_, H, resV rfl (.cons rfl .nil), Sub.autoP, ⟨congrArg (fun l => Value.string (bs l)) (by rw [lineB_g hg]; unfold lineW; rw [fld_id (by omega)]; simp), rfl⟩⟩
                  · refine sr_as ?_
                    refine sr_nil ?_
                    show AW _ _ _ _ _ _ _
                    refine aw_false rfl ?_
                    refine aw_seq ?_
                    refine aw_seq_region ?_
                    refine sr_c (x_eq rfl rfl) (fun h11 => ?_) (fun h11 => ?_)
                    · refine sr_as ?_
                      refine sr_nil ?_
                      refine aw_kp [1, 2, 4, 27, 69] ?_
                      refine aw_true rfl ?_
                      refine aw_skip ?_
                      show AW _ _ _ _ _ _ _
                      refine aw_true rfl ?_
                      refine aw_seq_region ?_
                      refine sr_mv ?_
                      refine sr_rd (x_catB rfl rfl (by simp only [List.length_append, List.length_cons, List.length_nil]; omega)) ?_
                      refine sr_rd (x_fieldAddr fd35_7 rfl) ?_
                      refine sr_rd (x_load ag3 rfl (cells_ext mauto Ext.auto)) ?_
                      refine sr_d rfl (wtd_none rfl) rfl (opS_call rfl rfl rfl rfl cl28 (lnumber_s r.node hw.2.2.2.2.2.1 _)) ?_
                      rintro _ H9 ⟨rfl, rfl⟩
                      refine sr_rd (x_catB rfl rfl (by simp only [List.length_append, List.length_cons, List.length_nil]; omega)) ?_
                      refine sr_as ?_
                      refine sr_nil ?_
                      refine aw_kp [2] ?_
                      refine aw_ret ?_
                      show ∃ v H2, ResV _ _ _ _ _ _ v ∧ Sub H2 _ ∧ _
                      exact ⟨_, H, resV rfl (.cons rfl .nil), Sub.autoP, ⟨congrArg (fun l => Value.string (bs l)) (by rw [lineB_g hg]; unfold lineW; rw [fld_nd (by omega)]; simp), rfl⟩⟩
                    · refine sr_as ?_
                      refine sr_nil ?_
                      refine aw_kp [1, 2, 4, 27, 69] ?_
                      refine aw_false rfl ?_
                      refine aw_region ?_
                      refine sr_c (x_eq rfl rfl) (fun h12 => ?_) (fun h12 => ?_)
                      · refine sr_as ?_
                        refine sr_nil ?_
                        show AW _ _ _ _ _ _ _
                        refine aw_true rfl ?_
                        refine aw_seq_region ?_
                        refine sr_mv ?_
                        refine sr_rd (x_catB rfl rfl (by simp only [List.length_append, List.length_cons, List.length_nil]; omega)) ?_
                        refine sr_rd (x_fieldAddr fd35_7 rfl) ?_
                        refine sr_rd (x_load ag3 rfl (cells_ext mauto Ext.auto)) ?_
                        refine sr_d rfl (wtd_none rfl) rfl (opS_call rfl rfl rfl rfl cl28 (lnumber_s r.node hw.2.2.2.2.2.1 _)) ?_
                        rintro _ H9 ⟨rfl, rfl⟩
                        refine sr_rd (x_catB rfl rfl (by simp only [List.length_append, List.length_cons, List.length_nil]; omega)) ?_
                        refine sr_as ?_
                        refine sr_nil ?_
                        refine aw_kp [2] ?_
                        refine aw_ret ?_
                        show ∃ v H2, ResV _ _ _ _ _ _ v ∧ Sub H2 _ ∧ _
                        exact ⟨_, H, resV rfl (.cons rfl .nil), Sub.autoP, ⟨congrArg (fun l => Value.string (bs l)) (by rw [lineB_g hg]; unfold lineW; rw [fld_nd (by omega)]; simp), rfl⟩⟩
                      · refine sr_as ?_
                        refine sr_nil ?_
                        show AW _ _ _ _ _ _ _
                        refine aw_false rfl ?_
                        refine aw_seq_region ?_
                        refine sr_c (x_eq rfl rfl) (fun h13 => ?_) (fun h13 => ?_)
                        · refine sr_as ?_
                          refine sr_nil ?_
                          refine aw_kp [1, 2, 4, 78] ?_
                          refine aw_true rfl ?_
                          refine aw_seq_region ?_
                          refine sr_mv ?_
                          refine sr_rd (x_catB rfl rfl (by simp only [List.length_append, List.length_cons, List.length_nil]; omega)) ?_
                          refine sr_rd (x_fieldAddr fd35_8 rfl) ?_
                          refine sr_rd (x_load ag2 rfl (cells_ext mauto Ext.auto)) ?_
                          refine sr_d rfl (wtd_none rfl) rfl (opS_call rfl rfl rfl rfl cl28 (lnumber_s r.by_ hw.2.2.2.2.2.2 _)) ?_
                          rintro _ H9 ⟨rfl, rfl⟩
                          refine sr_rd (x_catB rfl rfl (by simp only [List.length_append, List.length_cons, List.length_nil]; omega)) ?_
                          refine sr_as ?_
                          refine sr_nil ?_
                          refine aw_kp [2] ?_
                          refine aw_ret ?_
                          show ∃ v H2, ResV _ _ _ _ _ _ v ∧ Sub H2 _ ∧ _
                          exact ⟨_, H, resV rfl (.cons rfl .nil), Sub.autoP, ⟨congrArg (fun l => Value.string (bs l)) (by rw [lineB_g hg]; unfold lineW; rw [fld_by (by omega)]; simp), rfl⟩⟩
                        · refine sr_as ?_
                          refine sr_nil ?_
                          refine aw_kp [1, 2, 4, 78] ?_
                          refine aw_false rfl ?_
                          refine aw_seq_region ?_
                          refine sr_mv ?_
                          refine sr_as ?_
                          refine sr_nil ?_
                          refine aw_kp [2] ?_
                          refine aw_ret ?_
                          show ∃ v H2, ResV _ _ _ _ _ _ v ∧ Sub H2 _ ∧ _
                          exact ⟨_, H, resV rfl (.cons rfl .nil), Sub.autoP, ⟨congrArg (fun l => Value.string (bs l)) (by rw [lineB_g hg]; unfold lineW; rw [fld_no (by omega)]; simp), rfl⟩⟩
set_option maxRecDepth 100000 in
set_option maxHeartbeats 1000000 in
theorem sline_s (r : Req) (hw : ∀ x ∈ fldB r, -9223372036854775808 ≤ x ∧ x ≤ 9223372036854775807) (H : SHeap) : AC Tryd.prog W0 34 [r.v] H (fun v H' => v = .string (bs (lineB r)) ∧ H' = H) := by
  have hwl := word_len r.kind
  have hfl := fld_len r
  have hf5 : fldN r.kind ≤ 5 := by unfold fldN; split <;> (try split) <;> omega
  refine ac_of Tryd.func34 rfl rfl rfl ?_
  refine aw_seq_region ?_
  refine sr_new rfl (wtd_none rfl) rfl (x_box rfl rfl) ?_
  intro r0_0 hr0_0 gr0_0
  refine sr_as ?_
  refine sr_nil ?_
  refine aw_kp [1, 2] ?_
  refine aw_seq ?_
  refine aw_seq_region ?_
  refine sr_rd (x_loadN ag35 sz35 rfl (cells_ext mauto Ext.auto) rfl) ?_
  refine sr_d rfl (wtd_none rfl) rfl (opS_call rfl rfl rfl rfl cl62 (right_s r _)) ?_
  rintro _ H9 ⟨rfl, rfl⟩
  generalize hd : decide (GoodR r) = d1
  cases d1
  · refine sr_rd (x_not rfl) ?_
    refine sr_nil ?_
    refine aw_kp [1, 2, 8] ?_
    refine aw_true rfl ?_
    refine aw_seq_region ?_
    refine sr_as ?_
    refine sr_nil ?_
    refine aw_kp [1, 2] ?_
    refine aw_ret ?_
    show ∃ v H2, ResV _ _ _ _ _ _ v ∧ Sub H2 _ ∧ _
    exact ⟨_, H, resV rfl (.cons rfl .nil), Sub.autoP, (by first | exact ⟨congrArg (fun l => Value.string (bs l)) (lineB_n (of_decide_eq_false hd)).symm, rfl⟩ | exact ⟨congrArg (fun l => Value.string (bs l)) (by rw [lineB_g (of_decide_eq_true hd), List.take_of_length_le (by omega)]; rfl), rfl⟩)⟩
  · refine sr_rd (x_not rfl) ?_
    refine sr_nil ?_
    refine aw_kp [1, 2, 8] ?_
    refine aw_false rfl ?_
    refine aw_skip ?_
    show AW _ _ _ _ _ _ _
    refine aw_seq_region ?_
    refine sr_rd (x_fieldAddr fd35_0 rfl) ?_
    refine sr_rd (x_load ag3 rfl (cells_ext mauto Ext.auto)) ?_
    refine sr_d rfl (wtd_none rfl) rfl (opS_call rfl rfl rfl rfl cl54 (word_s r.kind _)) ?_
    rintro _ H9 ⟨rfl, rfl⟩
    refine sr_as ?_
    refine sr_nil ?_
    refine aw_kp [1, 2, 3] ?_
    refine aw_seq ?_
    refine aw_seq_region ?_
    refine sr_rd (x_loadN ag35 sz35 rfl (cells_ext mauto Ext.auto) rfl) ?_
    refine sr_d rfl (wtd_none rfl) rfl (opS_call rfl rfl rfl rfl cl63 (fields_s r _)) ?_
    rintro _ _ ⟨aF, cF, EF, rfl, VF, rfl⟩
    have hsV := VF.slv' (W0 := W0) (xs := fldB r) (fun _ => rfl) hfl.symm (Sub.refl _)
    have hle := hsV.le
    have hcb := hsV.capb
    refine sr_rd (x_lenSlice Tryd.underlying50 rfl) ?_
    refine sr_mv ?_
    refine sr_nil ?_
    refine aw_kp [2, 3, 13, 14, 15] ?_
    refine aw_block ?_
    refine aw_keep (keep_cons (t := 2) rfl (keep_cons (t := 3) (v := .string (bs (wordB r.kind ++ (((fldB r).take 0).flatMap fun x => 32 :: numB x)))) (congrArg (fun l => some (Value.string (bs l))) (by simp)) (keep_cons (t := 13) rfl (keep_cons (t := 14) rfl (keep_cons (t := 15) rfl keep_nil))))) ?_
    refine aw_loop (ι := Nat) (fun k => k ≤ fldN r.kind) (fun k => [(2, .string (bs [])), (3, .string (bs (wordB r.kind ++ (((fldB r).take k).flatMap fun x => 32 :: numB x)))), (13, .slice aF (fldN r.kind) cF), (14, .int .i64 (fldN r.kind)), (15, .int .i64 k)]) (fun _ => EF ++ ((r0_0, .cells (Req.cells (r)).toArray 35 (0, 0)) :: H)) (fun k => fldN r.kind - k) 0 (Nat.zero_le _) KeepF.auto Sub.autoP ?_
    intro k hk
    refine aw_seq_region ?_
    refine sr_c (x_lt rfl rfl) (fun h1 => ?_) (fun h1 => ?_)
    · refine sr_nil ?_
      refine aw_kp [2, 3, 13, 14, 15, 16] ?_
      refine aw_seq ?_
      refine aw_true rfl ?_
      refine aw_skip ?_
      show AW _ _ _ _ _ _ _
      refine aw_seq ?_
      refine aw_block ?_
      refine aw_seq_region ?_
      obtain ⟨x, hx⟩ := get_ex (show k < (fldB r).length by omega)
      obtain ⟨bx, ox, hax, hcx⟩ := hsV.at_ k x hx
      have hxl := numB_len (hw x (List.mem_of_getElem? hx)).1 (hw x (List.mem_of_getElem? hx)).2
      have hpl := flat_num_len (ls := (fldB r).take k) (fun y hy => hw y (List.mem_of_mem_take hy))
      rw [List.length_take] at hpl
      refine sr_rd (x_indexAddrN k Tryd.underlying50 sz2 rfl hax rfl (by omega) (by omega)) ?_
      refine sr_rd (x_load ag2 rfl (Cells.mono hcx Sub.autoE)) ?_
      refine sr_as ?_
      refine sr_nil ?_
      refine aw_kp [2, 3, 5, 13, 14, 15, 16, 17, 18] ?_
      refine aw_region ?_
      refine sr_mv ?_
      refine sr_mv ?_
      refine sr_d rfl (wtd_none rfl) rfl (opS_call rfl rfl rfl rfl cl27 (number_s x (hw x (List.mem_of_getElem? hx)) _)) ?_
      rintro _ H9 ⟨rfl, rfl⟩
      refine sr_rd (x_catB rfl rfl (by simp only [List.length_append, List.length_cons, List.length_nil]; omega)) ?_
      refine sr_rd (x_catB rfl rfl (by simp only [List.length_append, List.length_cons, List.length_nil]; omega)) ?_
      refine sr_as ?_
      refine sr_nil ?_
      show AW _ _ _ _ _ _ _
      refine aw_region ?_
      refine sr_rd (x_add' rfl rfl (i64w (by omega) (by omega))) ?_
      refine sr_mv ?_
      refine sr_nil ?_
      show ∃ s', _ ∧ _ ∧ _ ∧ _
      exact ⟨k + 1, by omega, by omega, (by rw [flat_snoc hx]; exact KeepF.auto), Sub.autoP⟩
    · refine sr_nil ?_
      refine aw_kp [2, 3, 13, 14, 15, 16] ?_
      refine aw_seq ?_
      refine aw_false rfl ?_
      refine aw_exit ?_
      show AW _ _ _ _ _ _ _
      refine aw_seq_region ?_
      refine sr_mv ?_
      refine sr_as ?_
      refine sr_nil ?_
      refine aw_kp [2] ?_
      refine aw_ret ?_
      show ∃ v H2, ResV _ _ _ _ _ _ v ∧ Sub H2 _ ∧ _
      exact ⟨_, H, resV rfl (.cons rfl .nil), Sub.autoP, (by first | exact ⟨congrArg (fun l => Value.string (bs l)) (lineB_n (of_decide_eq_false hd)).symm, rfl⟩ | exact ⟨congrArg (fun l => Value.string (bs l)) (by rw [lineB_g (of_decide_eq_true hd), List.take_of_length_le (by omega)]; rfl), rfl⟩)⟩
end
end Go.Proofs.YtbcajgkaepihfaaDoor
