/- Requests as a text, and read of it. -/
import Derived.Test.YtbcajgkaepihfaaDoorSfd
namespace Go.Proofs.YtbcajgkaepihfaaDoor
open Go.Proofs.YtbcajgkaepihfaaDoor.Sym
open Go.RowKit (Below)
set_option linter.unusedVariables false
set_option linter.unusedSimpArgs false
/-- A line, so many times. -/
def repL (w : List UInt8) (n : Nat) : List UInt8 := (List.replicate n w).flatten
theorem repL_succ (w : List UInt8) (n : Nat) : repL w (n + 1) = repL w n ++ w := by
  unfold repL; rw [List.replicate_succ', List.flatten_append]; simp
theorem repL_len (w : List UInt8) : ∀ n, (repL w n).length = n * w.length
  | 0 => by simp [repL]
  | n + 1 => by rw [repL_succ, List.length_append, repL_len w n, Nat.add_mul, Nat.one_mul]
theorem repL_cons (w : List UInt8) (n : Nat) : repL w (n + 1) = w ++ repL w n := by
  unfold repL; rw [List.replicate_succ, List.flatten_cons]
theorem spl_rep {c : UInt8} {w : List UInt8} (h : c ∉ w) : ∀ n, spl c (repL (w ++ [c]) n) = List.replicate n w ++ [[]]
  | 0 => rfl
  | n + 1 => by
    rw [repL_cons, List.append_assoc, List.singleton_append, spl_find h, spl_rep h n, List.replicate_succ]; rfl
structure FuG where
  i : Nat
  sl : Value
  E : SHeap
def rdS : Nat → List Req → List (List UInt8) → List Req × Int × Int
  | _, acc, [] => (acc, 0, 0)
  | i, acc, w :: ws => match parseB w with
    | none => ([], (i : Int), 4)
    | some r => rdS (i + 1) (acc ++ [r]) ws
def trimB (l p : List UInt8) : List UInt8 := if p.length ≤ l.length ∧ l.drop (l.length - p.length) = p then l.take (l.length - p.length) else l
def sayR (l : List UInt8) : List Req × Int × Int := if l = [] then ([], 0, 0) else if 4096 < (spl 10 (trimB l [10])).length then ([], 0, 3) else rdS 0 [] (spl 10 (trimB l [10]))
section
variable {i : Nat} {acc : List Req} {w l : List UInt8} {ws : List (List UInt8)}
theorem rdS_bad (he : parseB w = none) : rdS i acc (w :: ws) = ([], (i : Int), 4) := by
  unfold rdS; rw [he]
theorem rdS_ok {r : Req} (he : parseB w = some r) : rdS i acc (w :: ws) = rdS (i + 1) (acc ++ [r]) ws := by
  conv => lhs; unfold rdS
  rw [he]
theorem sayR_nil : sayR [] = ([], 0, 0) := rfl
theorem sayR_long (h : l ≠ []) (h2 : 4096 < (spl 10 (trimB l [10])).length) : sayR l = ([], 0, 3) := by unfold sayR; rw [if_neg h, if_pos h2]
theorem sayR_go (h : l ≠ []) (h2 : ¬ 4096 < (spl 10 (trimB l [10])).length) : sayR l = rdS 0 [] (spl 10 (trimB l [10])) := by unfold sayR; rw [if_neg h, if_neg h2]
end
theorem trimB_len (l p : List UInt8) : (trimB l p).length ≤ l.length := by
  unfold trimB; split
  · rw [List.length_take]; omega
  · exact Nat.le_refl _
theorem trim_yes (x : List UInt8) : trimB (x ++ [10]) [10] = x := by
  unfold trimB
  rw [if_pos ⟨by simp, by simp⟩]
  simp
theorem trim_no {x o : List UInt8} (ho : o ≠ []) (h : (10 : UInt8) ∉ o) : trimB (x ++ o) [10] = x ++ o := by
  unfold trimB
  refine if_neg fun ⟨_, q⟩ => h ?_
  have hl := List.length_pos_iff.2 ho
  rw [List.drop_append] at q
  have e : (x ++ o).length - [(10 : UInt8)].length = x.length + (o.length - 1) := by rw [List.length_append, List.length_singleton]; omega
  rw [e, List.drop_eq_nil_of_le (show x.length ≤ x.length + (o.length - 1) by omega), List.nil_append, Nat.add_sub_cancel_left] at q
  exact List.mem_of_mem_drop (i := o.length - 1) (by rw [q]; exact List.mem_singleton_self _)
theorem line_no10 (r : Req) : (10 : UInt8) ∉ lineW r := by
  have hw : (10 : UInt8) ∉ wordB r.kind := by
    unfold wordB
    split
    · next h =>
      obtain ⟨n, hn⟩ := Int.eq_ofNat_of_zero_le (show 0 ≤ r.kind by omega)
      rw [hn] at h ⊢
      have : ∀ n : Fin 14, (10 : UInt8) ∉ wordsL.getD n.val [] := by decide
      exact this ⟨n, by omega⟩
    · simp
  unfold lineW
  rw [List.mem_append, not_or]
  refine ⟨hw, fun h => ?_⟩
  rw [List.mem_flatMap] at h
  obtain ⟨x, _, hx⟩ := h
  rw [List.mem_cons] at hx
  rcases hx with hx | hx
  · exact absurd hx (by decide)
  · exact (num_no (n := x) (c := 10) (by decide)) hx
def txtS (rs : List Req) : List UInt8 := rs.flatMap fun r => lineW r ++ [10]
theorem txtS_snoc (rs : List Req) (r : Req) : txtS (rs ++ [r]) = (txtS rs ++ lineW r) ++ [10] := by unfold txtS; rw [List.flatMap_append]; simp
theorem txtS_len : ∀ {rs : List Req}, (∀ r ∈ rs, WfR r) → (txtS rs).length ≤ 201 * rs.length
  | [], _ => by simp [txtS]
  | r :: rs, h => by
    have h1 := line_len (fld_wf (h r List.mem_cons_self))
    have h2 := txtS_len (rs := rs) fun x hx => h x (List.mem_cons_of_mem _ hx)
    unfold txtS at h2 ⊢
    rw [List.flatMap_cons, List.length_append, List.length_append, List.length_singleton, List.length_cons]; omega
theorem spl_txtS {s : List UInt8} : ∀ rs : List Req, spl 10 (txtS rs ++ s) = rs.map lineW ++ spl 10 s
  | [] => rfl
  | r :: rs => by
    have h : txtS (r :: rs) ++ s = lineW r ++ 10 :: (txtS rs ++ s) := by unfold txtS; rw [List.flatMap_cons]; simp
    rw [h, spl_find (line_no10 r), spl_txtS rs]; rfl
theorem rdS_es : ∀ (rs : List Req) (i : Nat) (acc : List Req) (ws : List (List UInt8)), (∀ r ∈ rs, GoodR r ∧ WfR r) → rdS i acc (rs.map lineW ++ ws) = rdS (i + rs.length) (acc ++ rs) ws
  | [], i, acc, ws, _ => by simp
  | r :: rs, i, acc, ws, h => by
    have hr := h r List.mem_cons_self
    rw [List.map_cons, List.cons_append, rdS_ok (parse_line hr.1 hr.2), rdS_es rs (i + 1) (acc ++ [r]) ws (fun x hx => h x (List.mem_cons_of_mem _ hx)), List.append_assoc, List.length_cons, show i + 1 + rs.length = i + (rs.length + 1) by omega]; rfl
theorem sayR_txt {rs : List Req} (h : ∀ r ∈ rs, GoodR r ∧ WfR r) (hl : rs.length ≤ 100) : sayR (txtS rs) = (rs, 0, 0) := by
  rcases List.eq_nil_or_concat rs with rfl | ⟨t, r, rfl⟩
  · exact sayR_nil
  · rw [List.concat_eq_append] at h hl ⊢
    rw [List.length_append, List.length_singleton] at hl
    have hr := h r (by simp)
    have e : spl 10 (trimB (txtS (t ++ [r])) [10]) = t.map lineW ++ [lineW r] := by
      rw [txtS_snoc, trim_yes, spl_txtS, spl_none (line_no10 r)]
    have hn : txtS (t ++ [r]) ≠ [] := by rw [txtS_snoc]; simp
    rw [sayR_go hn (by rw [e, List.length_append, List.length_map, List.length_singleton]; omega), e, rdS_es t 0 [] _ (fun x hx => h x (by simp [hx])), rdS_ok (parse_line hr.1 hr.2)]
    simp [rdS]
theorem sayR_oth {rs : List Req} {o : List UInt8} (h : ∀ r ∈ rs, GoodR r ∧ WfR r) (hl : rs.length ≤ 100) (ho : o ≠ []) (h10 : (10 : UInt8) ∉ o) : sayR (txtS rs ++ o) = rdS rs.length rs [o] := by
  have e : spl 10 (trimB (txtS rs ++ o) [10]) = rs.map lineW ++ [o] := by rw [trim_no ho h10, spl_txtS, spl_none h10]
  have hn : txtS rs ++ o ≠ [] := fun q => ho (List.append_eq_nil_iff.1 q).2
  rw [sayR_go hn (by rw [e, List.length_append, List.length_map, List.length_singleton]; omega), e, rdS_es rs 0 [] _ h]
  simp
theorem sayR_cases (rs : List Req) (o : List UInt8) (h : ∀ r ∈ rs, GoodR r ∧ WfR r) (hl : rs.length ≤ 100) (h10 : (10 : UInt8) ∉ o) : (o = [] ∧ sayR (txtS rs ++ o) = (rs, 0, 0)) ∨ (o ≠ [] ∧ parseB o = none ∧ sayR (txtS rs ++ o) = ([], (rs.length : Int), 4)) ∨ (∃ x, o ≠ [] ∧ parseB o = some x ∧ sayR (txtS rs ++ o) = (rs ++ [x], 0, 0)) := by
  by_cases ho : o = []
  · subst ho; exact .inl ⟨rfl, by rw [List.append_nil]; exact sayR_txt h hl⟩
  · cases he : parseB o with
    | none => exact .inr (.inl ⟨ho, rfl, by rw [sayR_oth h hl ho h10, rdS_bad he]⟩)
    | some x => exact .inr (.inr ⟨x, ho, rfl, by rw [sayR_oth h hl ho h10, rdS_ok he]; rfl⟩)
def okR (rs : List Req) : List Req := rs.filter fun r => decide (GoodR r)
theorem okR_all {rs : List Req} (h : ∀ r ∈ rs, WfR r) : ∀ r ∈ okR rs, GoodR r ∧ WfR r := fun r hr => by
  unfold okR at hr
  rw [List.mem_filter] at hr
  exact ⟨of_decide_eq_true hr.2, h r hr.1⟩
theorem okR_yes {xs : List Req} {k : Nat} {x : Req} (h : xs[k]? = some x) (hr : GoodR x) : okR (xs.take (k + 1)) = okR (xs.take k) ++ [x] := by
  rw [takeS h]; unfold okR; rw [List.filter_append, List.filter_cons, if_pos (decide_eq_true hr)]; rfl
theorem okR_no {xs : List Req} {k : Nat} {x : Req} (h : xs[k]? = some x) (hr : ¬ GoodR x) : okR (xs.take (k + 1)) = okR (xs.take k) := by
  rw [takeS h]; unfold okR; rw [List.filter_append, List.filter_cons, if_neg (fun q => hr (of_decide_eq_true q))]; simp
theorem okR_len {xs : List Req} : (okR xs).length ≤ xs.length := List.length_filter_le _ _
theorem okR_len2 {xs : List Req} {k : Nat} : (okR (xs.take k)).length ≤ k := by
  have h1 := okR_len (xs := xs.take k)
  rw [List.length_take] at h1; omega
/-! so many lines -/
def lnI : List UInt8 := [105, 110, 102, 111]
def reqI : Req := ⟨10, 0, 0, 0, 0, 0, false, 0, 0⟩
theorem parse_I : parseB lnI = some reqI := by kernel_rfl
theorem spl_repI {s : List UInt8} : ∀ n, spl 10 (repL (lnI ++ [10]) n ++ s) = List.replicate n lnI ++ spl 10 s
  | 0 => rfl
  | n + 1 => by
    rw [repL_cons, List.append_assoc, List.append_assoc, List.singleton_append, spl_find (by decide), spl_repI n, List.replicate_succ]; rfl
theorem rdS_I : ∀ (n i : Nat) (acc : List Req), rdS i acc (List.replicate n lnI) = (acc ++ List.replicate n reqI, 0, 0)
  | 0, i, acc => by simp [rdS]
  | n + 1, i, acc => by rw [List.replicate_succ, rdS_ok parse_I, rdS_I n, List.append_assoc, List.replicate_succ]; rfl
theorem sayR_I {n : Nat} (h : 1 ≤ n) : sayR (repL (lnI ++ [10]) n) = if n ≤ 4096 then (List.replicate n reqI, 0, 0) else ([], 0, 3) := by
  obtain ⟨m, rfl⟩ : ∃ m, n = m + 1 := ⟨n - 1, by omega⟩
  have e : spl 10 (trimB (repL (lnI ++ [10]) (m + 1)) [10]) = List.replicate (m + 1) lnI := by
    rw [repL_succ, ← List.append_assoc, trim_yes, spl_repI, spl_none (by decide), List.replicate_succ']
  have hn : repL (lnI ++ [10]) (m + 1) ≠ [] := by rw [repL_succ]; simp
  by_cases hm : m + 1 ≤ 4096
  · rw [sayR_go hn (by rw [e, List.length_replicate]; omega), e, rdS_I, if_pos hm]; rfl
  · rw [sayR_long hn (by rw [e, List.length_replicate]; omega), if_neg hm]
theorem sayR_IT {n : Nat} (h : 1 ≤ n) (h2 : n ≤ 4096) : sayR (repL (lnI ++ [10]) n) = (List.replicate n reqI, 0, 0) := by rw [sayR_I h, if_pos h2]
theorem sayR_IF {n : Nat} (h : 1 ≤ n) (h2 : ¬ n ≤ 4096) : sayR (repL (lnI ++ [10]) n) = ([], 0, 3) := by rw [sayR_I h, if_neg h2]
structure SrG where
  k : Nat
  acc : List Req
  sl : Value
  E : SHeap
theorem by35 : bytesOf Tryd.prog 35 = some 72 := by kernel_rfl
theorem cl34 : Callable Tryd.prog 34 := ⟨Tryd.f34, Tryd.func34, by kernel_rfl, by kernel_rfl⟩
theorem cl59 : Callable Tryd.prog 59 := ⟨Tryd.f59, Tryd.func59, by kernel_rfl, by kernel_rfl⟩
theorem cl60 : Callable Tryd.prog 60 := ⟨Tryd.f60, Tryd.func60, by kernel_rfl, by kernel_rfl⟩
theorem cl61 : Callable Tryd.prog 61 := ⟨Tryd.f61, Tryd.func61, by kernel_rfl, by kernel_rfl⟩
theorem cl79 : Callable Tryd.prog 79 := ⟨Tryd.f79, Tryd.func79, by kernel_rfl, by kernel_rfl⟩
theorem cl91 : Callable Tryd.prog 91 := ⟨Tryd.f91, Tryd.func91, by kernel_rfl, by kernel_rfl⟩
theorem zr100 : zeroOf Tryd.prog 100 = some (.agg #[.pointer none, .slice none 0 0]) := by kernel_rfl
section
variable {W0 : World}
set_option maxRecDepth 100000 in
set_option maxHeartbeats 400000 in
theorem hass_s (l p : List UInt8) (H : SHeap) (hl9 : l.length ≤ 9000000) : AC Tryd.prog W0 91 [.string (bs l), .string (bs p)] H (fun v H' => (∃ c : Bool, v = .bool c ∧ (c = true ↔ p.length ≤ l.length ∧ l.drop (l.length - p.length) = p)) ∧ H' = H) := by
  refine ac_of Tryd.func91 rfl rfl rfl ?_
  refine aw_seq_region ?_
  refine sr_as ?_
  refine sr_nil ?_
  refine aw_kp [0, 1, 4] ?_
  refine aw_seq_region ?_
  refine sr_mv ?_
  refine sr_rd (x_lenB Tryd.underlying9 rfl) ?_
  refine sr_mv ?_
  refine sr_rd (x_lenB Tryd.underlying9 rfl) ?_
  refine sr_c (x_ge rfl rfl) (fun h1 => ?_) (fun h1 => ?_)
  · refine sr_mv ?_
    refine sr_ry (x_move rfl) ?_
    refine sr_ry (x_move rfl) ?_
    refine sr_ry (x_lenB Tryd.underlying9 rfl) ?_
    refine sr_ry (x_move rfl) ?_
    refine sr_ry (x_lenB Tryd.underlying9 rfl) ?_
    refine sr_ry (x_sub' rfl rfl (i64w (by omega) (by omega))) ?_
    refine sr_ry (x_sliceLoB (l.length - p.length) Tryd.underlying9 rfl rfl (by first | rfl | omega) (by omega)) ?_
    refine sr_ry (x_move rfl) ?_
    refine sr_cy (x_eqB rfl rfl) (fun h2 => ?_) (fun h2 => ?_)
    · refine sr_rd (x_pick_t rfl rfl rfl) ?_
      refine sr_as ?_
      refine sr_nil ?_
      refine aw_kp [4] ?_
      refine aw_ret ?_
      show ∃ v H2, ResV _ _ _ _ _ _ v ∧ Sub H2 _ ∧ _
      exact ⟨_, H, resV rfl (.cons rfl .nil), (by repeat (first | exact Sub.refl _ | apply Sub.drop)), (by first | exact ⟨⟨_, rfl, by simp; omega⟩, rfl⟩ | exact ⟨⟨_, rfl, by simp; intro; assumption⟩, rfl⟩ | exact ⟨⟨_, rfl, by simp; exact ⟨by omega, by assumption⟩⟩, rfl⟩)⟩
    · refine sr_rd (x_pick_t rfl rfl rfl) ?_
      refine sr_as ?_
      refine sr_nil ?_
      refine aw_kp [4] ?_
      refine aw_ret ?_
      show ∃ v H2, ResV _ _ _ _ _ _ v ∧ Sub H2 _ ∧ _
      exact ⟨_, H, resV rfl (.cons rfl .nil), (by repeat (first | exact Sub.refl _ | apply Sub.drop)), (by first | exact ⟨⟨_, rfl, by simp; omega⟩, rfl⟩ | exact ⟨⟨_, rfl, by simp; intro; assumption⟩, rfl⟩ | exact ⟨⟨_, rfl, by simp; exact ⟨by omega, by assumption⟩⟩, rfl⟩)⟩
  · refine sr_mv ?_
    refine sr_sk ?_
    refine sr_sk ?_
    refine sr_sk ?_
    refine sr_sk ?_
    refine sr_sk ?_
    refine sr_sk ?_
    refine sr_sk ?_
    refine sr_sk ?_
    refine sr_sk ?_
    refine sr_rd (x_pick_f rfl rfl rfl) ?_
    refine sr_as ?_
    refine sr_nil ?_
    refine aw_kp [4] ?_
    refine aw_ret ?_
    show ∃ v H2, ResV _ _ _ _ _ _ v ∧ Sub H2 _ ∧ _
    exact ⟨_, H, resV rfl (.cons rfl .nil), (by repeat (first | exact Sub.refl _ | apply Sub.drop)), (by first | exact ⟨⟨_, rfl, by simp; omega⟩, rfl⟩ | exact ⟨⟨_, rfl, by simp; intro; assumption⟩, rfl⟩ | exact ⟨⟨_, rfl, by simp; exact ⟨by omega, by assumption⟩⟩, rfl⟩)⟩
set_option maxRecDepth 100000 in
set_option maxHeartbeats 400000 in
theorem trim0_s (l p : List UInt8) (H : SHeap) (hl9 : l.length ≤ 9000000) : AC Tryd.prog W0 79 [.string (bs l), .string (bs p)] H (fun v H' => v = .string (bs (trimB l p)) ∧ H' = H) := by
  refine ac_of Tryd.func79 rfl rfl rfl ?_
  refine aw_seq_region ?_
  refine sr_as ?_
  refine sr_nil ?_
  refine aw_kp [0, 1, 4] ?_
  refine aw_seq ?_
  refine aw_seq_region ?_
  refine sr_mv ?_
  refine sr_mv ?_
  refine sr_d rfl (wtd_none rfl) rfl (opS_call rfl rfl rfl rfl cl91 (hass_s _ _ _ (by omega))) ?_
  rintro _ H ⟨⟨c, rfl, hc⟩, rfl⟩
  cases c
  · refine sr_nil ?_
    refine aw_kp [0, 1, 4, 7] ?_
    refine aw_false rfl ?_
    refine aw_skip ?_
    show AW _ _ _ _ _ _ _
    refine aw_seq_region ?_
    refine sr_mv ?_
    refine sr_as ?_
    refine sr_nil ?_
    refine aw_kp [4] ?_
    refine aw_ret ?_
    show ∃ v H2, ResV _ _ _ _ _ _ v ∧ Sub H2 _ ∧ _
    exact ⟨_, H, resV rfl (.cons rfl .nil), (by repeat (first | exact Sub.refl _ | apply Sub.drop)), (by first | exact ⟨congrArg (fun l => Value.string (bs l)) (if_pos (hc.1 rfl)).symm, rfl⟩ | exact ⟨congrArg (fun l => Value.string (bs l)) (if_neg (fun h => nomatch hc.2 h)).symm, rfl⟩)⟩
  · refine sr_nil ?_
    refine aw_kp [0, 1, 4, 7] ?_
    refine aw_true rfl ?_
    refine aw_seq_region ?_
    have hc1 := (hc.1 rfl).1
    refine sr_mv ?_
    refine sr_mv ?_
    refine sr_rd (x_lenB Tryd.underlying9 rfl) ?_
    refine sr_mv ?_
    refine sr_rd (x_lenB Tryd.underlying9 rfl) ?_
    refine sr_rd (x_sub' rfl rfl (i64w (by omega) (by omega))) ?_
    refine sr_rd (x_sliceHiB (l.length - p.length) Tryd.underlying9 rfl rfl (by first | rfl | omega) (by omega)) ?_
    refine sr_as ?_
    refine sr_nil ?_
    refine aw_kp [0, 4] ?_
    refine aw_ret ?_
    show ∃ v H2, ResV _ _ _ _ _ _ v ∧ Sub H2 _ ∧ _
    exact ⟨_, H, resV rfl (.cons rfl .nil), (by repeat (first | exact Sub.refl _ | apply Sub.drop)), (by first | exact ⟨congrArg (fun l => Value.string (bs l)) (if_pos (hc.1 rfl)).symm, rfl⟩ | exact ⟨congrArg (fun l => Value.string (bs l)) (if_neg (fun h => nomatch hc.2 h)).symm, rfl⟩)⟩
set_option maxRecDepth 100000 in
set_option maxHeartbeats 400000 in
theorem trim_s (l p : List UInt8) (H : SHeap) (hl9 : l.length ≤ 9000000) : AC Tryd.prog W0 61 [.string (bs l), .string (bs p)] H (fun v H' => v = .string (bs (trimB l p)) ∧ H' = H) := by
  refine ac_of Tryd.func61 rfl rfl rfl ?_
  refine aw_seq_region ?_
  refine sr_as ?_
  refine sr_nil ?_
  refine aw_kp [0, 1, 4] ?_
  refine aw_seq_region ?_
  refine sr_mv ?_
  refine sr_mv ?_
  refine sr_d rfl (wtd_none rfl) rfl (opS_call rfl rfl rfl rfl cl79 (trim0_s _ _ _ (by omega))) ?_
  rintro _ H ⟨rfl, rfl⟩
  refine sr_as ?_
  refine sr_nil ?_
  refine aw_kp [4] ?_
  refine aw_ret ?_
  show ∃ v H2, ResV _ _ _ _ _ _ v ∧ Sub H2 _ ∧ _
  exact ⟨_, H, resV rfl (.cons rfl .nil), Sub.autoP, ⟨rfl, rfl⟩⟩
set_option maxRecDepth 100000 in
set_option maxHeartbeats 2000000 in
theorem sayread_s (l : List UInt8) (hl : l.length ≤ 800000) (H : SHeap) : AC Tryd.prog W0 33 [.string (bs l)] H (fun v H' => ∃ a cap E, v = .tuple #[.slice a (sayR l).1.length cap, .int .i64 (sayR l).2.1, .int .i64 (sayR l).2.2] ∧ OwnVec 9 35 (.slice a (sayR l).1.length cap) (sayR l).1.length (((sayR l).1).flatMap Req.cells) E ∧ H' = E ++ H) := by
  refine ac_of Tryd.func33 rfl rfl rfl ?_
  refine aw_seq_region ?_
  refine sr_as ?_
  refine sr_as ?_
  refine sr_as ?_
  refine sr_nil ?_
  refine aw_kp [0, 2, 3, 4] ?_
  refine aw_seq ?_
  refine aw_seq_region ?_
  refine sr_mv ?_
  refine sr_c (x_eqB rfl rfl) (fun h1 => ?_) (fun h1 => ?_)
  · refine sr_nil ?_
    refine aw_kp [0, 2, 3, 4, 12] ?_
    refine aw_true rfl ?_
    refine aw_seq_region ?_
    have h0e : l = [] := by assumption
    refine sr_as ?_
    refine sr_as ?_
    refine sr_as ?_
    refine sr_nil ?_
    refine aw_kp [0, 2, 3, 4] ?_
    refine aw_ret ?_
    show ∃ v H2, ResV _ _ _ _ _ _ v ∧ Sub H2 _ ∧ _
    (rw [h0e, sayR_nil]; exact ⟨_, H, resV rfl (.cons rfl (.cons rfl (.cons rfl .nil))), Sub.autoP, none, 0, [], rfl, .nil, rfl⟩)
  · refine sr_nil ?_
    refine aw_kp [0, 2, 3, 4, 12] ?_
    refine aw_false rfl ?_
    refine aw_skip ?_
    show AW _ _ _ _ _ _ _
    refine aw_seq_region ?_
    have hne : l ≠ [] := by assumption
    refine sr_mv ?_
    refine sr_d rfl (wtd_none rfl) rfl (opS_call rfl rfl rfl rfl cl61 (trim_s l [10] _ (by omega))) ?_
    rintro _ H ⟨rfl, rfl⟩
    have htl := trimB_len l [10]
    obtain ⟨t, ht⟩ : ∃ t, t = trimB l [10] := ⟨_, rfl⟩
    rw [← ht] at htl ⊢
    refine sr_d rfl (wtd_none rfl) rfl (opS_call rfl rfl rfl rfl cl51 (split_s t 10 (by omega) _)) ?_
    rintro _ _ ⟨a, cap, E, rfl, V, rfl⟩
    have hmem := spl_mem_len (c := 10) (l := t)
    have hsl := spl_len (c := 10) (l := t)
    have hcl := cntB_le 10 t
    have hsV := V.slv' (W0 := W0) (xs := spl 10 t) (fun _ => rfl) rfl (Sub.refl _)
    have hleV := hsV.le
    have hcbV := hsV.capb
    refine sr_as ?_
    refine sr_nil ?_
    refine aw_kp [2, 3, 4, 5] ?_
    refine aw_seq ?_
    refine aw_seq_region ?_
    refine sr_mv ?_
    refine sr_rd (x_lenSlice Tryd.underlying49 rfl) ?_
    refine sr_c (x_gt rfl rfl) (fun h2 => ?_) (fun h2 => ?_)
    · refine sr_nil ?_
      refine aw_kp [2, 3, 4, 5, 18] ?_
      refine aw_true rfl ?_
      refine aw_seq_region ?_
      refine sr_as ?_
      refine sr_as ?_
      refine sr_as ?_
      refine sr_nil ?_
      refine aw_kp [2, 3, 4, 5] ?_
      refine aw_ret ?_
      show ∃ v H2, ResV _ _ _ _ _ _ v ∧ Sub H2 _ ∧ _
      (rw [sayR_long hne (by rw [← ht]; omega)]; exact ⟨_, H, resV rfl (.cons rfl (.cons rfl (.cons rfl .nil))), Sub.autoP, none, 0, [], rfl, .nil, rfl⟩)
    · refine sr_nil ?_
      refine aw_kp [2, 3, 4, 5, 18] ?_
      refine aw_false rfl ?_
      refine aw_skip ?_
      show AW _ _ _ _ _ _ _
      refine aw_seq_region ?_
      have hgo0 : sayR l = rdS 0 [] ((spl 10 t).drop 0) := (sayR_go hne (by rw [← ht]; omega)).trans (by rw [← ht]; rfl)
      refine sr_as ?_
      refine sr_nil ?_
      refine aw_kp [2, 3, 4, 5, 6] ?_
      refine aw_seq ?_
      refine aw_seq_region ?_
      refine sr_mv ?_
      refine sr_rd (x_lenSlice Tryd.underlying49 rfl) ?_
      refine sr_mv ?_
      refine sr_nil ?_
      refine aw_kp [2, 3, 4, 6, 19, 20, 21] ?_
      refine aw_block ?_
      refine aw_loop (ι := SrG) (fun s => s.k ≤ (spl 10 t).length ∧ s.acc.length = s.k ∧ sayR l = rdS s.k s.acc ((spl 10 t).drop s.k) ∧ OwnVec 9 35 s.sl s.acc.length ((s.acc).flatMap Req.cells) s.E) (fun s => [(2, .slice none 0 0), (3, .int .i64 0), (4, .int .i64 0), (6, s.sl), (19, .slice a (spl 10 t).length cap), (20, .int .i64 (spl 10 t).length), (21, .int .i64 s.k)]) (fun s => s.E ++ (E ++ H)) (fun s => (spl 10 t).length - s.k) ⟨0, [], .slice none 0 0, []⟩ (⟨Nat.zero_le _, rfl, hgo0, .nil⟩) KeepF.auto Sub.autoP ?_
      intro s hs9
      obtain ⟨k, acc, sl, EK⟩ := s
      dsimp only at hs9 ⊢
      obtain ⟨hk, hal, hgo, VK⟩ := hs9
      obtain ⟨a1, c1, rfl⟩ := VK.isSl
      refine aw_seq_region ?_
      refine sr_c (x_lt rfl rfl) (fun h3 => ?_) (fun h3 => ?_)
      · refine sr_nil ?_
        refine aw_kp [2, 3, 4, 6, 19, 20, 21, 22] ?_
        refine aw_seq ?_
        refine aw_true rfl ?_
        refine aw_skip ?_
        show AW _ _ _ _ _ _ _
        refine aw_seq ?_
        refine aw_block ?_
        refine aw_seq_region ?_
        obtain ⟨x, hx⟩ := get_ex (show k < (spl 10 t).length by omega)
        obtain ⟨bx, ox, hax, hcx⟩ := hsV.at_ k x hx
        have hxl := hmem x (List.mem_of_getElem? hx)
        refine sr_mv ?_
        refine sr_rd (x_indexAddrN (k) Tryd.underlying49 sz9 rfl hax rfl (by omega) (by omega)) ?_
        refine sr_rd (x_load ag9 rfl (Cells.mono hcx Sub.autoE)) ?_
        refine sr_as ?_
        refine sr_as ?_
        refine sr_nil ?_
        refine aw_kp [2, 3, 4, 6, 7, 8, 19, 20, 21, 22, 23, 24, 25] ?_
        refine aw_seq_region ?_
        refine sr_mv ?_
        refine sr_d rfl (wtd_none rfl) rfl (opS_call rfl rfl rfl rfl cl23 (parse_s x (by omega) _)) ?_
        rintro _ H9 ⟨rfl, rfl⟩
        cases hp : parseB x
        · refine sr_mv ?_
          refine sr_rd (x_extract rfl rfl) ?_
          refine sr_rd (x_extract rfl rfl) ?_
          refine sr_new rfl (wtd_none rfl) rfl (x_alloc zr35 rfl) ?_
          intro r10_5 hr10_5 gr10_5
          refine sr_x0 rfl (wtd_none rfl) (x_store sz35 rfl rfl rfl rfl rfl Repl.auto Spl.auto) ?_
          refine sr_as ?_
          refine sr_nil ?_
          refine aw_kp [2, 3, 4, 6, 7, 8, 9, 10, 19, 20, 21, 22, 23, 24, 25, 26, 27, 28, 29, 30] ?_
          refine aw_seq ?_
          refine aw_seq_region ?_
          refine sr_mv ?_
          refine sr_c (x_ne rfl rfl) (fun h4 => ?_) (fun h4 => absurd (by first | (show (4 : Int) ≠ 0; decide) | exact fun h => h rfl) h4)
          refine sr_nil ?_
          refine aw_kp [2, 3, 4, 6, 7, 8, 9, 10, 19, 20, 21, 22, 23, 24, 25, 26, 27, 28, 29, 30, 31, 32] ?_
          refine aw_true rfl ?_
          refine aw_seq_region ?_
          refine sr_mv ?_
          refine sr_mv ?_
          refine sr_as ?_
          refine sr_as ?_
          refine sr_as ?_
          refine sr_nil ?_
          refine aw_kp [2, 3, 4, 6, 7, 8, 9, 10, 19, 20, 21, 22, 23, 24, 25, 26, 27, 28, 29, 30, 31, 32, 33, 34] ?_
          refine aw_ret ?_
          show ∃ v H2, ResV _ _ _ _ _ _ v ∧ Sub H2 _ ∧ _
          (rw [hgo, drop_at hx, rdS_bad hp]; exact ⟨_, H, resV rfl (.cons rfl (.cons rfl (.cons rfl .nil))), Sub.autoP, none, 0, [], rfl, .nil, rfl⟩)
        · rename_i z
          refine sr_mv ?_
          refine sr_rd (x_extract rfl rfl) ?_
          refine sr_rd (x_extract rfl rfl) ?_
          refine sr_new rfl (wtd_none rfl) rfl (x_alloc zr35 rfl) ?_
          intro r10_5 hr10_5 gr10_5
          refine sr_x0 rfl (wtd_none rfl) (x_store sz35 rfl rfl rfl rfl rfl Repl.auto Spl.auto) ?_
          refine sr_as ?_
          refine sr_nil ?_
          refine aw_kp [2, 3, 4, 6, 7, 8, 9, 10, 19, 20, 21, 22, 23, 24, 25, 26, 27, 28, 29, 30] ?_
          refine aw_seq ?_
          refine aw_seq_region ?_
          refine sr_mv ?_
          refine sr_c (x_ne rfl rfl) (fun h5 => absurd h5 (by first | (show (4 : Int) ≠ 0; decide) | exact fun h => h rfl)) (fun h5 => ?_)
          refine sr_nil ?_
          refine aw_kp [2, 3, 4, 6, 7, 8, 9, 10, 19, 20, 21, 22, 23, 24, 25, 26, 27, 28, 29, 30, 31, 32] ?_
          refine aw_false rfl ?_
          refine aw_skip ?_
          show AW _ _ _ _ _ _ _
          refine aw_region ?_
          refine sr_mv ?_
          refine sr_rd (x_loadN ag35 sz35 rfl (cells_ext mauto Ext.auto) rfl) ?_
          refine sr_new rfl (wtd_none rfl) rfl (x_buildSlice Tryd.underlying53 sz35 zr35 rfl rfl rfl rfl Parts.auto Fill.auto) ?_
          intro r13_2 hr13_2 gr13_2
          refine sr_d rfl (wtd_none rfl) rfl (opS_append (G := E ++ H) (N := z.cells) (m := 1) Tryd.underlying53 sz35 zr35 rfl by35 rfl rfl VK Sub.autoP (.inr ⟨_, _, rfl, (cells_ext mauto Ext.auto)⟩) (rfl) rfl (by omega) (by omega)) ?_
          rintro v38 _ ⟨E38, hV38, rfl⟩
          obtain ⟨a38, cap38, rfl⟩ := hV38.isSl
          refine sr_as ?_
          refine sr_nil ?_
          show AW _ _ _ _ _ _ _
          refine aw_region ?_
          refine sr_rd (x_add' rfl rfl (i64w (by omega) (by omega))) ?_
          refine sr_mv ?_
          refine sr_nil ?_
          show ∃ s', _ ∧ _ ∧ _ ∧ _
          exact ⟨⟨k + 1, acc ++ [z], .slice a38 (acc.length + 1) cap38, E38⟩, ⟨by dsimp only; omega, by dsimp only; rw [List.length_append, List.length_singleton]; omega, (by dsimp only; rw [hgo, drop_at hx, rdS_ok hp]), (by dsimp only; have h9 := hV38.snocS; rw [List.length_append] at h9 ⊢; exact h9)⟩, by dsimp only; omega, KeepF.auto, Sub.autoP⟩
      · refine sr_nil ?_
        refine aw_kp [2, 3, 4, 6, 19, 20, 21, 22] ?_
        refine aw_seq ?_
        refine aw_false rfl ?_
        refine aw_exit ?_
        show AW _ _ _ _ _ _ _
        refine aw_seq_region ?_
        refine sr_mv ?_
        refine sr_as ?_
        refine sr_as ?_
        refine sr_as ?_
        refine sr_nil ?_
        refine aw_kp [2, 3, 4] ?_
        refine aw_ret ?_
        show ∃ v H2, ResV _ _ _ _ _ _ v ∧ Sub H2 _ ∧ _
        (rw [hgo, List.drop_eq_nil_of_le (by omega)]; exact ⟨_, EK ++ H, resV rfl (.cons rfl (.cons rfl (.cons rfl .nil))), Sub.autoP, a1, c1, EK, rfl, VK, rfl⟩)
set_option maxRecDepth 100000 in
set_option maxHeartbeats 1000000 in
theorem stext_s (sa : Option Addr) (scap : Nat) (xs : List Req) (H : SHeap) (hs : SlV W0 H 9 Req.cells sa scap xs) (hwx : ∀ x ∈ xs, WfR x) (hxl : xs.length ≤ 100) : AC Tryd.prog W0 35 [.slice sa xs.length scap] H (fun v H' => v = .string (bs (txtS (okR xs))) ∧ H' = H) := by
  have hle := hs.le
  have hcb := hs.capb
  refine ac_of Tryd.func35 rfl rfl rfl ?_
  refine aw_seq_region ?_
  refine sr_as ?_
  refine sr_nil ?_
  refine aw_kp [0, 2] ?_
  refine aw_seq_region ?_
  refine sr_new rfl (wtd_none rfl) rfl (x_alloc zr100 rfl) ?_
  intro r1_0 hr1_0 gr1_0
  refine sr_nil ?_
  refine aw_kp [0, 2, 3] ?_
  refine aw_seq ?_
  refine aw_seq_region ?_
  refine sr_mv ?_
  refine sr_rd (x_lenSlice Tryd.underlying53 rfl) ?_
  refine sr_mv ?_
  refine sr_nil ?_
  refine aw_kp [2, 3, 7, 8, 9] ?_
  refine aw_block ?_
  refine aw_loop (ι := BldG) (fun s => s.k ≤ xs.length ∧ s.l = txtS (okR (xs.take s.k)) ∧ s.l.length ≤ 201 * s.k ∧ (s.a = .pointer none ∨ s.a = selfP r1_0) ∧ OwnVec 1 5 s.sl s.l.length (byC s.l) s.E ∧ (s.l = [] → s.sl = .slice none 0 0)) (fun s => [(2, .string (bs [])), (3, selfP r1_0), (7, .slice sa xs.length scap), (8, .int .i64 xs.length), (9, .int .i64 s.k)]) (fun s => s.E ++ ((r1_0, .cells (bldC (s.a) (s.sl)).toArray 100 (0, 0)) :: H)) (fun s => xs.length - s.k) ⟨0, [], .pointer none, .slice none 0 0, []⟩ (⟨Nat.zero_le _, rfl, Nat.zero_le _, .inl rfl, .nil, fun _ => rfl⟩) KeepF.auto Sub.autoP ?_
  intro s hs9
  obtain ⟨k, l, a, sl, E⟩ := s
  dsimp only at hs9 ⊢
  obtain ⟨hk, hl, hll, ha, V, hn⟩ := hs9
  refine aw_seq_region ?_
  refine sr_c (x_lt rfl rfl) (fun h1 => ?_) (fun h1 => ?_)
  · refine sr_nil ?_
    refine aw_kp [2, 3, 7, 8, 9, 10] ?_
    refine aw_seq ?_
    refine aw_true rfl ?_
    refine aw_skip ?_
    show AW _ _ _ _ _ _ _
    refine aw_seq ?_
    refine aw_block ?_
    refine aw_seq_region ?_
    obtain ⟨x, hx⟩ := get_ex (show k < xs.length by omega)
    obtain ⟨bx, ox, hax, hcx⟩ := hs.at_ k _ hx
    refine sr_rd (x_indexAddrN k Tryd.underlying53 sz35 rfl hax rfl (by omega) (by omega)) ?_
    refine sr_rd (x_loadN ag35 sz35 rfl (Cells.mono hcx Sub.autoR) rfl) ?_
    refine sr_new rfl (wtd_none rfl) rfl (x_alloc zr35 rfl) ?_
    intro r4_2 hr4_2 gr4_2
    refine sr_x0 rfl (wtd_none rfl) (x_store sz35 rfl rfl rfl rfl rfl Repl.auto Spl.auto) ?_
    refine sr_nil ?_
    refine aw_kp [2, 3, 5, 7, 8, 9, 10, 11, 12] ?_
    refine aw_seq_region ?_
    refine sr_rd (x_loadN ag35 sz35 rfl (cells_ext mauto Ext.auto) rfl) ?_
    refine sr_d rfl (wtd_none rfl) rfl (opS_call rfl rfl rfl rfl cl34 (sline_s x (fld_wf (hwx x (List.mem_of_getElem? hx))) _)) ?_
    rintro _ H9 ⟨rfl, rfl⟩
    by_cases hg : GoodR x
    · rw [lineB_g hg]
      have hell := line_len (fld_wf (hwx x (List.mem_of_getElem? hx)))
      have hen : (lineW x ++ [10]).length = (lineW x).length + 1 := by rw [List.length_append]; rfl
      refine sr_as ?_
      refine sr_nil ?_
      refine aw_kp [2, 3, 5, 6, 7, 8, 9, 10, 11, 12, 13, 14] ?_
      refine aw_seq_region ?_
      refine sr_mv ?_
      refine sr_c (x_neB rfl rfl) (fun h2 => ?_) (fun h2 => absurd (by first | exact line_ne hg | exact fun h => h rfl) h2)
      refine sr_nil ?_
      refine aw_kp [2, 3, 5, 6, 7, 8, 9, 10, 11, 12, 13, 14, 15, 16] ?_
      refine aw_true rfl ?_
      refine aw_region ?_
      refine sr_mv ?_
      refine sr_rd (x_catB rfl rfl (by first | omega | (simp only [List.length_append, List.length_cons, List.length_nil]; omega))) ?_
      refine sr_d rfl (wtd_none rfl) rfl (opS_call rfl rfl rfl rfl cl59 (AC.sub Sub.autoP (write_s r1_0 a sl l (lineW x ++ [10]) E ((r4_2, .cells (Req.cells x).toArray 35 (0, 0)) :: H) ha V (by omega)))) ?_
      rintro _ _ ⟨a2, c2, E2, V2, rfl⟩
      refine sr_nil ?_
      show AW _ _ _ _ _ _ _
      refine aw_region ?_
      refine sr_rd (x_add' rfl rfl (i64w (by omega) (by omega))) ?_
      refine sr_mv ?_
      refine sr_nil ?_
      show ∃ s', _ ∧ _ ∧ _ ∧ _
      first | exact ⟨⟨k + 1, l ++ (lineW x ++ [10]), selfP r1_0, .slice a2 (l ++ (lineW x ++ [10])).length c2, E2⟩, ⟨by dsimp only; omega, (by dsimp only; rw [okR_yes hx hg, txtS_snoc, hl, List.append_assoc]), (by dsimp only; rw [List.length_append]; omega), .inr rfl, V2, fun q => absurd (congrArg List.length q) (by dsimp only; rw [List.length_append, List.length_nil]; omega)⟩, by dsimp only; omega, KeepF.auto, Sub.autoD⟩ | exact ⟨⟨k + 1, l, a, sl, E⟩, ⟨by dsimp only; omega, (by dsimp only; rw [okR_no hx hg]; exact hl), (by dsimp only; omega), ha, V, hn⟩, by dsimp only; omega, KeepF.auto, Sub.autoD⟩
    · rw [lineB_n hg]
      refine sr_as ?_
      refine sr_nil ?_
      refine aw_kp [2, 3, 5, 6, 7, 8, 9, 10, 11, 12, 13, 14] ?_
      refine aw_seq_region ?_
      refine sr_mv ?_
      refine sr_c (x_neB rfl rfl) (fun h3 => absurd h3 (by first | exact line_ne hg | exact fun h => h rfl)) (fun h3 => ?_)
      refine sr_nil ?_
      refine aw_kp [2, 3, 5, 6, 7, 8, 9, 10, 11, 12, 13, 14, 15, 16] ?_
      refine aw_false rfl ?_
      refine aw_skip ?_
      show AW _ _ _ _ _ _ _
      refine aw_region ?_
      refine sr_rd (x_add' rfl rfl (i64w (by omega) (by omega))) ?_
      refine sr_mv ?_
      refine sr_nil ?_
      show ∃ s', _ ∧ _ ∧ _ ∧ _
      first | exact ⟨⟨k + 1, l ++ (lineW x ++ [10]), selfP r1_0, .slice a2 (l ++ (lineW x ++ [10])).length c2, E2⟩, ⟨by dsimp only; omega, (by dsimp only; rw [okR_yes hx hg, txtS_snoc, hl, List.append_assoc]), (by dsimp only; rw [List.length_append]; omega), .inr rfl, V2, fun q => absurd (congrArg List.length q) (by dsimp only; rw [List.length_append, List.length_nil]; omega)⟩, by dsimp only; omega, KeepF.auto, Sub.autoD⟩ | exact ⟨⟨k + 1, l, a, sl, E⟩, ⟨by dsimp only; omega, (by dsimp only; rw [okR_no hx hg]; exact hl), (by dsimp only; omega), ha, V, hn⟩, by dsimp only; omega, KeepF.auto, Sub.autoD⟩
  · refine sr_nil ?_
    refine aw_kp [2, 3, 7, 8, 9, 10] ?_
    refine aw_seq ?_
    refine aw_false rfl ?_
    refine aw_exit ?_
    show AW _ _ _ _ _ _ _
    refine aw_seq_region ?_
    rw [List.take_of_length_le (show xs.length ≤ k by omega)] at hl
    obtain ⟨a3, c3, rfl⟩ := V.isSl
    refine sr_d rfl (wtd_none rfl) rfl (opS_call rfl rfl rfl rfl cl60 (AC.sub Sub.autoP (string_s r1_0 a a3 c3 l E H V (fun q => hn (List.length_eq_zero_iff.1 q)) (by omega)))) ?_
    rintro _ _ ⟨rfl, rfl⟩
    refine sr_as ?_
    refine sr_nil ?_
    refine aw_kp [2] ?_
    refine aw_ret ?_
    show ∃ v H2, ResV _ _ _ _ _ _ v ∧ Sub H2 _ ∧ _
    exact ⟨_, H, resV rfl (.cons rfl .nil), Sub.autoP, ⟨congrArg (fun l => Value.string (bs l)) hl, rfl⟩⟩
end
end Go.Proofs.YtbcajgkaepihfaaDoor
