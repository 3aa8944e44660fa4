/- An entry's line, and what is read of lines. -/
import Derived.Test.YtbcajgkaepihfaaDoorSfa
namespace Go.Proofs.YtbcajgkaepihfaaDoor
open Go.Proofs.YtbcajgkaepihfaaDoor.Sym
open Go.RowKit (Below)
set_option linter.unusedVariables false
set_option linter.unusedSimpArgs false
def entL (e : Ent) : List Int := [e.at_, e.run, e.limit, e.width, e.user, e.prio]
def elB (e : Ent) : List UInt8 := joinW 32 ((entL e).map numB)
def EWf (e : Ent) : Prop := ∀ x ∈ entL e, -9223372036854775808 ≤ x ∧ x ≤ 9223372036854775807
theorem ewf_of {e : Ent} (h : ERight e) : EWf e := by
  unfold ERight at h
  intro x hx
  simp only [entL, List.mem_cons, List.mem_nil_iff, or_false] at hx
  rcases hx with rfl | rfl | rfl | rfl | rfl | rfl <;> omega
theorem Ent.Wf.w {e : Ent} (h : e.Wf) : EWf e := by
  unfold Ent.Wf at h
  rw [i64_min, i64_max] at h
  intro x hx
  simp only [entL, List.mem_cons, List.mem_nil_iff, or_false] at hx
  rcases hx with rfl | rfl | rfl | rfl | rfl | rfl <;> omega
theorem ewf_len {e : Ent} (h : EWf e) : (numB e.at_).length ≤ 20 ∧ (numB e.run).length ≤ 20 ∧ (numB e.limit).length ≤ 20 ∧ (numB e.width).length ≤ 20 ∧ (numB e.user).length ≤ 20 ∧ (numB e.prio).length ≤ 20 := by
  have q : ∀ x ∈ entL e, (numB x).length ≤ 20 := fun x hx => numB_len (h x hx).1 (h x hx).2
  exact ⟨q _ (by simp [entL]), q _ (by simp [entL]), q _ (by simp [entL]), q _ (by simp [entL]), q _ (by simp [entL]), q _ (by simp [entL])⟩
theorem el_eq (e : Ent) : elB e = numB e.at_ ++ 32 :: (numB e.run ++ 32 :: (numB e.limit ++ 32 :: (numB e.width ++ 32 :: (numB e.user ++ 32 :: numB e.prio)))) := rfl
theorem el_len {e : Ent} (h : EWf e) : (elB e).length ≤ 125 := by
  have := ewf_len h
  rw [el_eq]
  simp only [List.length_append, List.length_cons]
  omega
theorem eparse_el {e : Ent} (h : ERight e) : eparse (elB e) = some e := by
  have h1 : spl 32 (elB e) = (entL e).map numB := spl_join (by simp [entL]) (by
    intro w hw
    rw [List.mem_map] at hw
    obtain ⟨x, _, rfl⟩ := hw
    exact num_no (by decide))
  unfold eparse
  rw [h1, if_neg (by simp [entL]), rdAll_num (ewf_of h)]
  exact if_pos h
theorem eparse_inv {l : List UInt8} {e : Ent} (h : eparse l = some e) : ERight e ∧ elB e = l := by
  unfold eparse at h
  by_cases h6 : (spl 32 l).length = 6
  · rw [if_neg (fun q => q h6)] at h
    cases hr : rdAll (spl 32 l) with
    | none => rw [hr] at h; cases h
    | some ls =>
      rw [hr] at h
      have h : (if ERight (entOf ls) then some (entOf ls) else none) = some e := h
      split at h
      · next hok =>
        have he : entOf ls = e := by simpa using h
        obtain ⟨q1, q2⟩ := rdAll_inv hr
        have hl : ls.length = 6 := by rw [q1, List.length_map] at h6; exact h6
        obtain ⟨a, b, c, d, f, k, rfl⟩ := list6 hl
        subst he
        refine ⟨hok, ?_⟩
        have hj := join_spl 32 l
        rw [q1] at hj
        exact hj
      · cases h
  · rw [if_pos h6] at h; cases h
theorem el_no {e : Ent} : (10 : UInt8) ∉ elB e := by
  have q : ∀ n : Int, (10 : UInt8) ∉ numB n := fun n => num_no (by decide)
  rw [el_eq]
  simp only [List.mem_append, List.mem_cons, not_or]
  exact ⟨q _, by decide, q _, by decide, q _, by decide, q _, by decide, q _, by decide, q _⟩
theorem el_cons (e : Ent) : ∃ c r, elB e = c :: r ∧ c ≠ 59 := by
  rw [el_eq]
  have hne := numB_ne e.at_
  have hm : ∀ c, c ∈ numB e.at_ → c = 45 ∨ isD c := fun c hc => numB_mem hc
  cases hn : numB e.at_ with
  | nil => exact absurd hn hne
  | cons c r =>
    rw [hn] at hm
    refine ⟨c, _, rfl, fun h => ?_⟩
    rcases hm c List.mem_cons_self with h2 | h2
    · rw [h] at h2; exact absurd h2 (by decide)
    · rw [h] at h2; exact absurd h2 (by decide)
theorem ns_cons {c : UInt8} {r : List UInt8} (h : c ≠ 59) : ¬ skipL (c :: r) := by
  rintro (q | ⟨_, q⟩)
  · cases q
  · have : c = 59 := by simpa using q
    exact h this
theorem sk_cons {r : List UInt8} : skipL (59 :: r) := .inr ⟨by simp, by simp⟩
theorem el_ns {e : Ent} : ¬ skipL (elB e) := by
  obtain ⟨c, r, h1, h2⟩ := el_cons e
  rw [h1]; exact ns_cons h2
def txtE (es : List Ent) : List UInt8 := es.flatMap fun e => elB e ++ [10]
theorem txtE_snoc (es : List Ent) (e : Ent) : txtE (es ++ [e]) = (txtE es ++ elB e) ++ [10] := by unfold txtE; rw [List.flatMap_append]; simp
theorem txtE_len : ∀ {es : List Ent}, (∀ e ∈ es, ERight e) → (txtE es).length ≤ 126 * es.length
  | [], _ => by simp [txtE]
  | e :: es, h => by
    have h1 := el_len (ewf_of (h e List.mem_cons_self))
    have h2 := txtE_len (es := es) fun x hx => h x (List.mem_cons_of_mem _ hx)
    unfold txtE at h2 ⊢
    rw [List.flatMap_cons, List.length_append, List.length_append, List.length_singleton, List.length_cons]; omega
theorem spl_txt {s : List UInt8} : ∀ es : List Ent, spl 10 (txtE es ++ s) = es.map elB ++ spl 10 s
  | [] => rfl
  | e :: es => by
    have h : txtE (e :: es) ++ s = elB e ++ 10 :: (txtE es ++ s) := by unfold txtE; rw [List.flatMap_cons]; simp
    rw [h, spl_find el_no, spl_txt es]; rfl
theorem rdE_es : ∀ (es : List Ent) (i : Nat) (acc : List Ent) (ws : List (List UInt8)), (∀ e ∈ es, ERight e) → acc.length + es.length ≤ 1024 → rdE i acc (es.map elB ++ ws) = rdE (i + es.length) (acc ++ es) ws
  | [], i, acc, ws, _, _ => by simp
  | e :: es, i, acc, ws, h, hl => by
    rw [List.length_cons] at hl ⊢
    rw [List.map_cons, List.cons_append, rdE_ok el_ns (eparse_el (h e List.mem_cons_self)) (by omega), rdE_es es (i + 1) (acc ++ [e]) ws (fun x hx => h x (List.mem_cons_of_mem _ hx)) (by rw [List.length_append, List.length_singleton]; omega), List.append_assoc, show i + 1 + es.length = i + (es.length + 1) by omega]; rfl
theorem rd_es {es : List Ent} {s : List UInt8} (h : ∀ e ∈ es, ERight e) (hs : (10 : UInt8) ∉ s) (hl : es.length ≤ 1024) : rdR (txtE es ++ s) = rdE es.length es [s] := by
  unfold rdR
  rw [spl_txt, spl_none hs, rdE_es es 0 [] [s] h (by simpa using hl)]
  simp
theorem rd_cases (es : List Ent) (s : List UInt8) (h : es.length ≤ 100) : (s = [] ∧ rdE es.length es [s] = (es, 0, 0)) ∨ (∃ c r, s = c :: r ∧ c = 59 ∧ rdE es.length es [s] = (es, 0, 0)) ∨ (∃ c r, s = c :: r ∧ c ≠ 59 ∧ eparse s = none ∧ rdE es.length es [s] = ([], (es.length : Int), 4)) ∨ (∃ c r x, s = c :: r ∧ c ≠ 59 ∧ eparse s = some x ∧ rdE es.length es [s] = (es ++ [x], 0, 0)) := by
  cases s with
  | nil => exact .inl ⟨rfl, rdE_skip (.inl rfl)⟩
  | cons c r =>
    by_cases hc : c = 59
    · subst hc; exact .inr (.inl ⟨_, _, rfl, rfl, rdE_skip sk_cons⟩)
    · cases he : eparse (c :: r) with
      | none => exact .inr (.inr (.inl ⟨_, _, rfl, hc, rfl, rdE_bad (ns_cons hc) he⟩))
      | some x => exact .inr (.inr (.inr ⟨_, _, x, rfl, hc, rfl, rdE_ok (ns_cons hc) he (by omega)⟩))
def okE (es : List Ent) : List Ent := es.filter fun e => decide (ERight e)
theorem okE_all {es : List Ent} : ∀ e ∈ okE es, ERight e := fun e h => by
  unfold okE at h
  rw [List.mem_filter] at h
  exact of_decide_eq_true h.2
theorem okE_yes {xs : List Ent} {k : Nat} {x : Ent} (h : xs[k]? = some x) (hr : ERight x) : okE (xs.take (k + 1)) = okE (xs.take k) ++ [x] := by
  rw [takeS h]; unfold okE; rw [List.filter_append, List.filter_cons, if_pos (decide_eq_true hr)]; rfl
theorem okE_no {xs : List Ent} {k : Nat} {x : Ent} (h : xs[k]? = some x) (hr : ¬ ERight x) : okE (xs.take (k + 1)) = okE (xs.take k) := by
  rw [takeS h]; unfold okE; rw [List.filter_append, List.filter_cons, if_neg (fun q => hr (of_decide_eq_true q))]; simp
theorem okE_len {xs : List Ent} : (okE xs).length ≤ xs.length := List.length_filter_le _ _
theorem okE_len2 {xs : List Ent} {k : Nat} : (okE (xs.take k)).length ≤ k := by
  have h1 := okE_len (xs := xs.take k)
  rw [List.length_take] at h1; omega

section
variable {W0 : World}
set_option maxRecDepth 100000 in
set_option maxHeartbeats 1000000 in
theorem elline_s (e : Ent) (hw : EWf e) (H : SHeap) : AC Tryd.prog W0 21 [e.v] H (fun v H' => v = .string (bs (elB e)) ∧ H' = H) := by
  obtain ⟨hl1, hl2, hl3, hl4, hl5, hl6⟩ := ewf_len hw
  refine ac_of Tryd.func21 rfl rfl rfl ?_
  refine aw_seq_region ?_
  refine sr_new rfl (wtd_none rfl) rfl (x_box rfl rfl) ?_
  intro r0_0 hr0_0 gr0_0
  refine sr_as ?_
  refine sr_nil ?_
  refine aw_kp [1, 2] ?_
  refine aw_seq_dr ⟨_, 29, 31, [[], [0], [0, 1], [0, 1, 2], [], [4], [0, 1, 2, 4, 5], [0, 1, 2, 3, 4, 5, 6], [0, 1, 2, 3, 4, 5, 6, 7], [], [9], [0, 1, 2, 4, 5, 6, 9, 10], [0, 1, 2, 3, 4, 5, 6, 7, 8, 9, 10, 11], [0, 1, 2, 3, 4, 5, 6, 7, 8, 9, 10, 11, 12], [], [14], [0, 1, 2, 4, 5, 6, 9, 10, 11, 14, 15], [0, 1, 2, 3, 4, 5, 6, 7, 8, 9, 10, 11, 12, 13, 14, 15, 16], [0, 1, 2, 3, 4, 5, 6, 7, 8, 9, 10, 11, 12, 13, 14, 15, 16, 17], [], [19], [0, 1, 2, 4, 5, 6, 9, 10, 11, 14, 15, 16, 19, 20], [0, 1, 2, 3, 4, 5, 6, 7, 8, 9, 10, 11, 12, 13, 14, 15, 16, 17, 18, 19, 20, 21], [0, 1, 2, 3, 4, 5, 6, 7, 8, 9, 10, 11, 12, 13, 14, 15, 16, 17, 18, 19, 20, 21, 22], [], [24], [0, 1, 2, 4, 5, 6, 9, 10, 11, 14, 15, 16, 19, 20, 21, 24, 25], [0, 1, 2, 3, 4, 5, 6, 7, 8, 9, 10, 11, 12, 13, 14, 15, 16, 17, 18, 19, 20, 21, 22, 23, 24, 25, 26], [0, 1, 2, 3, 4, 5, 6, 7, 8, 9, 10, 11, 12, 13, 14, 15, 16, 17, 18, 19, 20, 21, 22, 23, 24, 25, 26, 27]], [.light, .mem, .call, .light, .light, .mem, .call, .light, .light, .light, .mem, .call, .light, .light, .light, .mem, .call, .light, .light, .light, .mem, .call, .light, .light, .light, .mem, .call, .light, .light]⟩ (by kernel_rfl) rfl rfl mix ?_
  refine dr_l (x_fieldAddr fd30_0 rfl) ?_
  refine dr_mem0 rfl rfl (wtd_none rfl) (x_load ag2 rfl (cells_ext mauto Ext.auto)) ?_
  refine dr_callq0 rfl rfl (wtd_none rfl) (opS_F rfl rfl rfl rfl cl27 ((number_s e.at_ (hw e.at_ (by simp [entL])) _))) (⟨_, rfl⟩) ?_
  rintro _ rfl
  refine dr_l (x_catB rfl rfl (by simp only [List.length_append, List.length_cons, List.length_nil]; omega)) ?_
  refine dr_l (x_fieldAddr fd30_1 rfl) ?_
  refine dr_mem0 rfl rfl (wtd_none rfl) (x_load ag2 rfl (cells_ext mauto Ext.auto)) ?_
  refine dr_callq0 rfl rfl (wtd_none rfl) (opS_F rfl rfl rfl rfl cl27 ((number_s e.run (hw e.run (by simp [entL])) _))) (⟨_, rfl⟩) ?_
  rintro _ rfl
  refine dr_l (x_catB rfl rfl (by simp only [List.length_append, List.length_cons, List.length_nil]; omega)) ?_
  refine dr_l (x_catB rfl rfl (by simp only [List.length_append, List.length_cons, List.length_nil]; omega)) ?_
  refine dr_l (x_fieldAddr fd30_2 rfl) ?_
  refine dr_mem0 rfl rfl (wtd_none rfl) (x_load ag2 rfl (cells_ext mauto Ext.auto)) ?_
  refine dr_callq0 rfl rfl (wtd_none rfl) (opS_F rfl rfl rfl rfl cl27 ((number_s e.limit (hw e.limit (by simp [entL])) _))) (⟨_, rfl⟩) ?_
  rintro _ rfl
  refine dr_l (x_catB rfl rfl (by simp only [List.length_append, List.length_cons, List.length_nil]; omega)) ?_
  refine dr_l (x_catB rfl rfl (by simp only [List.length_append, List.length_cons, List.length_nil]; omega)) ?_
  refine dr_l (x_fieldAddr fd30_3 rfl) ?_
  refine dr_mem0 rfl rfl (wtd_none rfl) (x_load ag3 rfl (cells_ext mauto Ext.auto)) ?_
  refine dr_callq0 rfl rfl (wtd_none rfl) (opS_F rfl rfl rfl rfl cl27 ((number_s e.width (hw e.width (by simp [entL])) _))) (⟨_, rfl⟩) ?_
  rintro _ rfl
  refine dr_l (x_catB rfl rfl (by simp only [List.length_append, List.length_cons, List.length_nil]; omega)) ?_
  refine dr_l (x_catB rfl rfl (by simp only [List.length_append, List.length_cons, List.length_nil]; omega)) ?_
  refine dr_l (x_fieldAddr fd30_4 rfl) ?_
  refine dr_mem0 rfl rfl (wtd_none rfl) (x_load ag3 rfl (cells_ext mauto Ext.auto)) ?_
  refine dr_callq0 rfl rfl (wtd_none rfl) (opS_F rfl rfl rfl rfl cl27 ((number_s e.user (hw e.user (by simp [entL])) _))) (⟨_, rfl⟩) ?_
  rintro _ rfl
  refine dr_l (x_catB rfl rfl (by simp only [List.length_append, List.length_cons, List.length_nil]; omega)) ?_
  refine dr_l (x_catB rfl rfl (by simp only [List.length_append, List.length_cons, List.length_nil]; omega)) ?_
  refine dr_l (x_fieldAddr fd30_5 rfl) ?_
  refine dr_mem0 rfl rfl (wtd_none rfl) (x_load ag3 rfl (cells_ext mauto Ext.auto)) ?_
  refine dr_callq0 rfl rfl (wtd_none rfl) (opS_F rfl rfl rfl rfl cl27 ((number_s e.prio (hw e.prio (by simp [entL])) _))) (⟨_, rfl⟩) ?_
  rintro _ rfl
  refine dr_l (x_catB rfl rfl (by simp only [List.length_append, List.length_cons, List.length_nil]; omega)) ?_
  refine dr_l (x_assign rfl) ?_
  refine dr_nil0 ?_
  refine aw_kp [2] ?_
  refine aw_ret ?_
  show ∃ v H2, ResV _ _ _ _ _ _ v ∧ Sub H2 _ ∧ _
  exact ⟨_, H, resV rfl (.cons rfl .nil), Sub.autoP, ⟨congrArg (fun l => Value.string (bs l)) (by rw [el_eq]; simp), rfl⟩⟩
end
end Go.Proofs.YtbcajgkaepihfaaDoor
