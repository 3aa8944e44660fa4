/- All, Len, Live; the document's table, told in plain Lean. -/
import Derived.Test.YteilocpjikmmdaaJobTurn
import Derived.Test.YteilocpjikmmdaaSymMap
namespace Go.Proofs.Yteilocpjikmmdaa
open Go.Proofs.Yteilocpjikmmdaa.Sym
open Go.RowKit (Below)
set_option linter.unusedVariables false
set_option linter.unusedSimpArgs false
theorem all_one (jobs : List Job) : (jobs.flatMap Job.cells).all oneCell = true := by
  induction jobs with
  | nil => rfl
  | cons j l ih => rw [List.flatMap_cons, List.all_append, ih]; rfl
theorem eqC_job (j : Job) : eqC j.cells j.cells = true := by simp [eqC, sEq]
structure Op where
  kind : Int
  r : Request
  id : Int
  at_ : Int
  state : Int
  nodes : Int
@[reducible] def Op.cells (j : Op) : List Value := [.int .i64 j.kind, .int .i64 j.r.kind, .int .i64 j.r.id, .int .i64 j.r.user, .int .i64 j.r.width, .int .i64 j.r.limit, .int .i64 j.r.prio, .bool j.r.held, .int .i64 j.r.node, .int .i64 j.r.by_, .int .i64 j.id, .int .i64 j.at_, .int .i64 j.state, .int .u64 j.nodes]
@[reducible] def Op.v (j : Op) : Value := .agg (Op.cells j).toArray
def Op.Wf (j : Op) : Prop := (IntKind.min .i64 ≤ j.kind ∧ j.kind ≤ IntKind.max .i64) ∧ j.r.Wf ∧ (IntKind.min .i64 ≤ j.id ∧ j.id ≤ IntKind.max .i64) ∧ (IntKind.min .i64 ≤ j.at_ ∧ j.at_ ≤ IntKind.max .i64) ∧ (IntKind.min .i64 ≤ j.state ∧ j.state ≤ IntKind.max .i64) ∧ (IntKind.min .u64 ≤ j.nodes ∧ j.nodes ≤ IntKind.max .u64)
def aliveN (jobs : List Job) : Nat := (jobs.filter fun j => decide (j.state < 4)).length
def GoodJ (jobs : List Job) : Prop := ∀ j ∈ jobs, 1 ≤ j.state ∧ 0 ≤ j.limit ∧ j.limit ≤ 1048576
def SubmitR (jobs : List Job) (r : Request) (a e : Int) (jobs' : List Job) : Prop :=
  (rightE r ≠ 0 ∧ a = 0 ∧ e = rightE r ∧ jobs' = jobs) ∨ (rightE r = 0 ∧ (64 ≤ aliveN jobs ∨ 1024 ≤ jobs.length) ∧ a = 0 ∧ e = 6 ∧ jobs' = jobs) ∨
  (rightE r = 0 ∧ ¬ (64 ≤ aliveN jobs ∨ 1024 ≤ jobs.length) ∧ a = jobs.length + 1 ∧ e = 0 ∧ jobs' = jobs ++ [newJob jobs.length r])
theorem SubmitR.det {jobs : List Job} {r : Request} {a e a2 e2 : Int} {j1 j2 : List Job} (h : SubmitR jobs r a e j1) (k : SubmitR jobs r a2 e2 j2) : a2 = a ∧ e2 = e ∧ j2 = j1 := by
  rcases h with ⟨h1, rfl, rfl, rfl⟩ | ⟨h1, h2, rfl, rfl, rfl⟩ | ⟨h1, h2, rfl, rfl, rfl⟩ <;> rcases k with ⟨k1, rfl, rfl, rfl⟩ | ⟨k1, k2, rfl, rfl, rfl⟩ | ⟨k1, k2, rfl, rfl, rfl⟩ <;> first | exact ⟨rfl, rfl, rfl⟩ | exact absurd k1 h1 | exact absurd h1 k1 | exact absurd k2 h2 | exact absurd h2 k2
def earlyE (o : Op) : Int :=
  if o.kind = 5 then (if o.at_ < -1 ∨ 1099511627776 < o.at_ then 10 else 0)
  else if o.kind = 6 ∨ o.kind = 7 then (if o.at_ < 0 ∨ 1099511627776 < o.at_ then 10 else 0)
  else if o.kind = 3 ∨ o.kind = 4 then 0
  else if o.state < 4 ∨ 6 < o.state then 1 else if o.at_ < 0 ∨ 2199023255552 < o.at_ then 10 else 0
def stepJ (j : Job) (o : Op) : Option Job :=
  if o.kind = 3 then (if j.state = 1 then some { j with state := 2, plan := -1 } else none)
  else if o.kind = 4 then (if j.state = 2 then some { j with state := 1 } else none)
  else if o.kind = 5 then (if j.state = 1 then some { j with plan := o.at_ } else none)
  else if o.kind = 6 ∨ o.kind = 7 then (if j.state = 1 then some { j with state := 3, start := o.at_, fin := o.at_ + j.limit, plan := -1, nodes := o.nodes } else none)
  else if j.state = 3 ∨ (o.state = 5 ∧ (j.state = 1 ∨ j.state = 2)) then some { j with fin := if j.state = 3 then o.at_ else j.fin, state := o.state, plan := -1 } else none
def TurnR (jobs : List Job) (o : Op) (e : Int) (jobs' : List Job) : Prop :=
  (earlyE o ≠ 0 ∧ e = earlyE o ∧ jobs' = jobs) ∨ (earlyE o = 0 ∧ (o.id < 1 ∨ jobs.length < o.id) ∧ e = 7 ∧ jobs' = jobs) ∨
  (∃ (k : Nat) (j : Job), earlyE o = 0 ∧ o.id = k + 1 ∧ jobs[k]? = some j ∧ stepJ j o = none ∧ e = 8 ∧ jobs' = jobs) ∨
  (∃ (k : Nat) (j j' : Job), earlyE o = 0 ∧ o.id = k + 1 ∧ jobs[k]? = some j ∧ stepJ j o = some j' ∧ e = 0 ∧ jobs' = jobs.set k j')
theorem TurnR.len {jobs : List Job} {o : Op} {e : Int} {j1 : List Job} (h : TurnR jobs o e j1) : j1.length = jobs.length := by
  rcases h with ⟨_, _, rfl⟩ | ⟨_, _, _, rfl⟩ | ⟨_, _, _, _, _, _, _, rfl⟩ | ⟨_, _, _, _, _, _, _, _, rfl⟩ <;> simp
theorem TurnR.det {jobs : List Job} {o : Op} {e e2 : Int} {j1 j2 : List Job} (h : TurnR jobs o e j1) (k : TurnR jobs o e2 j2) : e2 = e ∧ j2 = j1 := by
  rcases h with ⟨h1, rfl, rfl⟩ | ⟨h1, h2, rfl, rfl⟩ | ⟨n, j, h1, h2, h3, h4, rfl, rfl⟩ | ⟨n, j, j', h1, h2, h3, h4, rfl, rfl⟩ <;> rcases k with ⟨k1, rfl, rfl⟩ | ⟨k1, k2, rfl, rfl⟩ | ⟨m, i, k1, k2, k3, k4, rfl, rfl⟩ | ⟨m, i, i', k1, k2, k3, k4, rfl, rfl⟩ <;>
    first
    | exact ⟨rfl, rfl⟩
    | exact absurd k1 h1
    | exact absurd h1 k1
    | (exfalso; have := get_lt h3; omega)
    | (exfalso; have := get_lt k3; omega)
    | (have e9 : n = m := by omega
       subst e9
       rw [h3] at k3
       cases k3
       rw [h4] at k4
       cases k4
       try exact ⟨rfl, rfl⟩)
theorem aliveN_app (jobs : List Job) (j : Job) : aliveN (jobs ++ [j]) = aliveN jobs + (if j.state < 4 then 1 else 0) := by
  unfold aliveN
  rw [List.filter_append, List.length_append]
  congr 1
  by_cases h : j.state < 4 <;> simp [h]
theorem aliveN_set : ∀ {jobs : List Job} {k : Nat} {j j' : Job}, jobs[k]? = some j → aliveN (jobs.set k j') + (if j.state < 4 then 1 else 0) = aliveN jobs + (if j'.state < 4 then 1 else 0)
  | [], k, j, j', h => by simp at h
  | x :: xs, 0, j, j', h => by
    have : x = j := by simpa using h
    subst this
    unfold aliveN
    rw [List.set_cons_zero, List.filter_cons, List.filter_cons]
    by_cases h1 : x.state < 4 <;> by_cases h2 : j'.state < 4 <;> simp [h1, h2]
  | x :: xs, k + 1, j, j', h => by
    have ih := aliveN_set (jobs := xs) (k := k) (j := j) (j' := j') (by simpa using h)
    unfold aliveN at ih ⊢
    rw [List.set_cons_succ, List.filter_cons, List.filter_cons]
    by_cases h1 : x.state < 4
    · simp only [h1, decide_true, if_true, List.length_cons]; omega
    · simp only [h1, decide_false, Bool.false_eq_true, if_false]; omega
theorem good_set {jobs : List Job} {k : Nat} {j j' : Job} (h : GoodJ jobs) (hj : jobs[k]? = some j) (hs : 1 ≤ j'.state) (hl : j'.limit = j.limit) : GoodJ (jobs.set k j') := by
  intro x hx
  rcases List.mem_or_eq_of_mem_set hx with hx | rfl
  · exact h x hx
  · have := h j (List.mem_of_getElem? hj)
    exact ⟨hs, by omega, by omega⟩
theorem good_app {jobs : List Job} {r : Request} (h : GoodJ jobs) (hr : rightE r = 0) : GoodJ (jobs ++ [newJob jobs.length r]) := by
  intro x hx
  rcases List.mem_append.1 hx with hx | hx
  · exact h x hx
  · have e : x = newJob jobs.length r := by simpa using hx
    subst e
    unfold rightE at hr
    unfold newJob
    dsimp only
    split at hr
    · omega
    · split at hr
      · omega
      · split at hr
        · omega
        · refine ⟨by split <;> omega, by omega, by omega⟩
theorem SubmitR.good {jobs : List Job} {r : Request} {a e : Int} {j1 : List Job} (h : SubmitR jobs r a e j1) (hg : GoodJ jobs) : GoodJ j1 ∧ j1.length ≤ jobs.length + 1 := by
  rcases h with ⟨h1, rfl, rfl, rfl⟩ | ⟨h1, h2, rfl, rfl, rfl⟩ | ⟨h1, h2, rfl, rfl, rfl⟩
  · exact ⟨hg, by omega⟩
  · exact ⟨hg, by omega⟩
  · exact ⟨good_app hg h1, by simp⟩
theorem stepJ_fin {j j' : Job} {o : Op} (h : stepJ j o = some j') (hg : 1 ≤ j.state) (he : earlyE o = 0) : 1 ≤ j'.state ∧ j'.limit = j.limit := by
  unfold stepJ at h
  unfold earlyE at he
  split at h
  · split at h <;> cases h; exact ⟨by dsimp only; omega, rfl⟩
  · split at h
    · split at h <;> cases h; exact ⟨by dsimp only; omega, rfl⟩
    · split at h
      · split at h <;> cases h; exact ⟨hg, rfl⟩
      · split at h
        · split at h <;> cases h; exact ⟨by dsimp only; omega, rfl⟩
        · split at h
          · cases h
            refine ⟨?_, rfl⟩
            dsimp only
            rw [if_neg (by assumption), if_neg (by assumption), if_neg (by omega)] at he
            split at he <;> omega
          · cases h
theorem TurnR.good {jobs : List Job} {o : Op} {e : Int} {j1 : List Job} (h : TurnR jobs o e j1) (hg : GoodJ jobs) : GoodJ j1 := by
  rcases h with ⟨_, _, rfl⟩ | ⟨_, _, _, rfl⟩ | ⟨_, _, _, _, _, _, _, rfl⟩ | ⟨k, j, j', h1, _, h3, h4, _, rfl⟩
  · exact hg
  · exact hg
  · exact hg
  · have := stepJ_fin h4 (hg j (List.mem_of_getElem? h3)).1 h1
    exact good_set hg h3 this.1 this.2
theorem aliveN_le (jobs : List Job) : aliveN jobs ≤ jobs.length := List.length_filter_le _ _
theorem aliveN_take {jobs : List Job} {k : Nat} {j : Job} (h : jobs[k]? = some j) : aliveN (jobs.take (k + 1)) = aliveN (jobs.take k) + (if j.state < 4 then 1 else 0) := by
  rw [List.take_add_one, h, ← aliveN_app]; rfl
theorem cells53 : Try.prog.cellsOf 53 = 14 := by kernel_rfl
theorem cl104 : Callable Try.prog 104 := ⟨Try.f104, Try.func104, by kernel_rfl, by kernel_rfl⟩
theorem fd50_0 : fldOf Try.prog 50 0 = some (0, 22, 1) := by kernel_rfl
theorem ks91 : kindsOf Try.prog 91 = some [.int, .int, .int, .int, .int, .int, .int, .int, .int, .int] := by kernel_rfl
section
variable {W0 : World}
set_option maxRecDepth 100000 in
set_option maxHeartbeats 400000 in
theorem len_s (p : Nat) (a : Option Addr) (cap : Nat) (jobs : List Job) (live : Int) (H : SHeap) (hc : Cells W0 H p 0 (tabC (.slice a jobs.length cap) live)) : AC Try.prog W0 41 [.pointer (some ⟨p, 0, none⟩)] H (fun v H' => v = .int .i64 jobs.length ∧ H' = H) := by
  refine ac_of Try.func41 rfl rfl rfl ?_
  refine aw_seq_region ?_
  refine sr_x rfl (wtd_none rfl) rfl (Rd.x (x_assign rfl)) ?_
  refine sr_nil ?_
  refine aw_keep (keep_cons (t := 0) rfl (keep_cons (t := 2) rfl keep_nil)) ?_
  refine aw_seq ?_
  refine aw_seq_region ?_
  refine sr_x rfl (wtd_none rfl) rfl (Rd.x (x_move rfl)) ?_
  refine sr_d rfl (wtd_none rfl) rfl (opS_call rfl rfl rfl rfl cl99 (none_s _ _ _ _ (Cells.mono hc (by repeat (first | exact Sub.refl _ | apply Sub.drop))))) ?_
  rintro _ H ⟨rfl, rfl⟩
  refine sr_nil ?_
  refine aw_keep (keep_cons (t := 0) rfl (keep_cons (t := 2) rfl (keep_cons (t := 4) rfl keep_nil))) ?_
  refine aw_false rfl ?_
  refine aw_skip ?_
  show AW _ _ _ _ _ _ _
  refine aw_seq_region ?_
  refine sr_x rfl (wtd_none rfl) rfl (Rd.x (x_move rfl)) ?_
  refine sr_x rfl (wtd_none rfl) rfl (Rd.x (x_nilCheck rfl)) ?_
  refine sr_x rfl (wtd_none rfl) rfl (Rd.x (x_fieldAddr fd168_0 rfl)) ?_
  refine sr_x rfl (wtd_none rfl) rfl (Rd.x (x_load ag22 rfl (cells_get (Cells.mono hc (by repeat (first | exact Sub.refl _ | apply Sub.drop))) 0 rfl))) ?_
  refine sr_x rfl (wtd_none rfl) rfl (Rd.x (x_lenSlice Try.underlying22 rfl)) ?_
  refine sr_x rfl (wtd_none rfl) rfl (Rd.x (x_assign rfl)) ?_
  refine sr_nil ?_
  refine aw_keep (keep_cons (t := 2) rfl keep_nil) ?_
  refine aw_ret ?_
  show ∃ v H2, ResV _ _ _ _ _ _ v ∧ Sub H2 _ ∧ _
  exact ⟨_, H, resV rfl (.cons rfl .nil), (by repeat (first | exact Sub.refl _ | apply Sub.drop)), ⟨rfl, rfl⟩⟩
set_option maxRecDepth 100000 in
set_option maxHeartbeats 400000 in
theorem live_s (p : Nat) (a : Option Addr) (cap : Nat) (jobs : List Job) (live : Int) (H : SHeap) (hc : Cells W0 H p 0 (tabC (.slice a jobs.length cap) live)) : AC Try.prog W0 42 [.pointer (some ⟨p, 0, none⟩)] H (fun v H' => v = .int .i64 live ∧ H' = H) := by
  refine ac_of Try.func42 rfl rfl rfl ?_
  refine aw_seq_region ?_
  refine sr_x rfl (wtd_none rfl) rfl (Rd.x (x_assign rfl)) ?_
  refine sr_nil ?_
  refine aw_keep (keep_cons (t := 0) rfl (keep_cons (t := 2) rfl keep_nil)) ?_
  refine aw_seq ?_
  refine aw_seq_region ?_
  refine sr_x rfl (wtd_none rfl) rfl (Rd.x (x_move rfl)) ?_
  refine sr_d rfl (wtd_none rfl) rfl (opS_call rfl rfl rfl rfl cl99 (none_s _ _ _ _ (Cells.mono hc (by repeat (first | exact Sub.refl _ | apply Sub.drop))))) ?_
  rintro _ H ⟨rfl, rfl⟩
  refine sr_nil ?_
  refine aw_keep (keep_cons (t := 0) rfl (keep_cons (t := 2) rfl (keep_cons (t := 4) rfl keep_nil))) ?_
  refine aw_false rfl ?_
  refine aw_skip ?_
  show AW _ _ _ _ _ _ _
  refine aw_seq_region ?_
  refine sr_x rfl (wtd_none rfl) rfl (Rd.x (x_move rfl)) ?_
  refine sr_x rfl (wtd_none rfl) rfl (Rd.x (x_nilCheck rfl)) ?_
  refine sr_x rfl (wtd_none rfl) rfl (Rd.x (x_fieldAddr fd168_1 rfl)) ?_
  refine sr_x rfl (wtd_none rfl) rfl (Rd.x (x_load ag3 rfl (cells_get (Cells.mono hc (by repeat (first | exact Sub.refl _ | apply Sub.drop))) 1 rfl))) ?_
  refine sr_x rfl (wtd_none rfl) rfl (Rd.x (x_assign rfl)) ?_
  refine sr_nil ?_
  refine aw_keep (keep_cons (t := 2) rfl keep_nil) ?_
  refine aw_ret ?_
  show ∃ v H2, ResV _ _ _ _ _ _ v ∧ Sub H2 _ ∧ _
  exact ⟨_, H, resV rfl (.cons rfl .nil), (by repeat (first | exact Sub.refl _ | apply Sub.drop)), ⟨rfl, rfl⟩⟩
set_option maxRecDepth 100000 in
set_option maxHeartbeats 400000 in
theorem clone_s (a : Option Addr) (cap : Nat) (jobs : List Job) (H : SHeap) (hs : SlV W0 H 10 Job.cells a cap jobs) (hjl : jobs.length ≤ 1000000) : AC Try.prog W0 104 [.slice a jobs.length cap] H (fun v H' => ∃ E2, (∃ a2 cap2, OwnVec 10 91 (.slice a2 jobs.length cap2) jobs.length (jobs.flatMap Job.cells) E2 ∧ v = .slice a2 jobs.length cap2) ∧ H' = E2 ++ H) := by
  have hfl := flat_len (n := 10) (enc := Job.cells) (fun _ => rfl) jobs
  have hfn : a.isNone = true → jobs.length = 0 := fun h => by rcases hs.flat (fun _ => rfl) (by omega) with ⟨q, _⟩ | ⟨b, off, rfl, _⟩ <;> first | exact q | cases h
  refine ac_of Try.func104 rfl rfl rfl ?_
  refine aw_seq_region ?_
  refine sr_x rfl (wtd_none rfl) rfl (Rd.x (x_assign rfl)) ?_
  refine sr_nil ?_
  refine aw_keep (keep_cons (t := 0) rfl (keep_cons (t := 2) rfl keep_nil)) ?_
  refine aw_seq ?_
  refine aw_seq_region ?_
  refine sr_x rfl (wtd_none rfl) rfl (Rd.x (x_move rfl)) ?_
  refine sr_x rfl (wtd_none rfl) rfl (Rd.x (x_eqnils Try.underlying22 rfl rfl)) ?_
  refine sr_nil ?_
  refine aw_keep (keep_cons (t := 0) rfl (keep_cons (t := 2) rfl (keep_cons (t := 4) rfl keep_nil))) ?_
  refine aw_cond rfl (fun hb1 => ?_) (fun hb1 => ?_)
  · refine aw_seq_region ?_
    refine sr_x rfl (wtd_none rfl) rfl (Rd.x (x_assign rfl)) ?_
    refine sr_nil ?_
    refine aw_keep (keep_cons (t := 0) rfl (keep_cons (t := 2) rfl keep_nil)) ?_
    refine aw_ret ?_
    show ∃ v H2, ResV _ _ _ _ _ _ v ∧ Sub H2 _ ∧ _
    first | (rw [Nat.zero_add, List.nil_append] at hV7; obtain ⟨a7, cap7, rfl⟩ := hV7.isSl; exact ⟨_, E7 ++ H, resV rfl (.cons rfl .nil), (Sub.refl _), E7, ⟨a7, cap7, hV7, rfl⟩, rfl⟩) | (have hz := hfn (by assumption); have hj0 : jobs = [] := List.length_eq_zero_iff.1 hz; subst hj0; exact ⟨_, [] ++ H, resV rfl (.cons rfl .nil), (Sub.refl _), [], ⟨none, 0, .nil, rfl⟩, rfl⟩)
  · refine aw_skip ?_
    show AW _ _ _ _ _ _ _
    refine aw_seq_region ?_
    refine sr_new rfl (wtd_none rfl) rfl (x_buildSlice0 Try.underlying22 sz91 rfl) ?_
    intro r3_0 hr3_0 gr3_0
    refine sr_x rfl (wtd_none rfl) rfl (Rd.x (x_move rfl)) ?_
    refine sr_d rfl (wtd_none rfl) rfl (opS_append (G := H) (N := jobs.flatMap Job.cells) (m := jobs.length) Try.underlying22 sz91 zr91 rfl by91 rfl rfl (OwnVec.mk (r := r3_0) (n := 0) (cap := 0) (L := []) (post := []) rfl rfl (by omega) (by omega)) (by repeat (first | exact Sub.refl _ | refine Sub.take (by repeat (first | exact Take.here | apply Take.there | apply Take.app)) ?_ | refine Sub.takeE (by repeat (first | exact TakeE.here | apply TakeE.there | apply TakeE.app)) ?_ | exact Sub.nil _ | apply Sub.drop | apply Sub.dropE)) (((hs.mono (by repeat (first | exact Sub.refl _ | apply Sub.drop))).flat (fun _ => rfl) (by omega))) (hfl) (all_one jobs) (by omega) (by omega)) ?_
    rintro v7 _ ⟨E7, hV7, rfl⟩
    refine sr_x rfl (wtd_none rfl) rfl (Rd.x (x_assign rfl)) ?_
    refine sr_nil ?_
    refine aw_keep (keep_cons (t := 2) rfl keep_nil) ?_
    refine aw_ret ?_
    show ∃ v H2, ResV _ _ _ _ _ _ v ∧ Sub H2 _ ∧ _
    first | (rw [Nat.zero_add, List.nil_append] at hV7; obtain ⟨a7, cap7, rfl⟩ := hV7.isSl; exact ⟨_, E7 ++ H, resV rfl (.cons rfl .nil), (Sub.refl _), E7, ⟨a7, cap7, hV7, rfl⟩, rfl⟩) | (have hz := hfn (by assumption); have hj0 : jobs = [] := List.length_eq_zero_iff.1 hz; subst hj0; exact ⟨_, [] ++ H, resV rfl (.cons rfl .nil), (Sub.refl _), [], ⟨none, 0, .nil, rfl⟩, rfl⟩)
set_option maxRecDepth 100000 in
set_option maxHeartbeats 400000 in
theorem all_s (p : Nat) (a : Option Addr) (cap : Nat) (jobs : List Job) (live : Int) (H : SHeap) (hc : Cells W0 H p 0 (tabC (.slice a jobs.length cap) live)) (hs : SlV W0 H 10 Job.cells a cap jobs) (hjl : jobs.length ≤ 1000000) : AC Try.prog W0 40 [.pointer (some ⟨p, 0, none⟩)] H (fun v H' => ∃ E2, (∃ a2 cap2, OwnVec 10 91 (.slice a2 jobs.length cap2) jobs.length (jobs.flatMap Job.cells) E2 ∧ v = .slice a2 jobs.length cap2) ∧ H' = E2 ++ H) := by
  refine ac_of Try.func40 rfl rfl rfl ?_
  refine aw_seq_region ?_
  refine sr_x rfl (wtd_none rfl) rfl (Rd.x (x_assign rfl)) ?_
  refine sr_nil ?_
  refine aw_keep (keep_cons (t := 0) rfl (keep_cons (t := 2) rfl keep_nil)) ?_
  refine aw_seq ?_
  refine aw_seq_region ?_
  refine sr_x rfl (wtd_none rfl) rfl (Rd.x (x_move rfl)) ?_
  refine sr_d rfl (wtd_none rfl) rfl (opS_call rfl rfl rfl rfl cl99 (none_s _ _ _ _ (Cells.mono hc (by repeat (first | exact Sub.refl _ | apply Sub.drop))))) ?_
  rintro _ H ⟨rfl, rfl⟩
  refine sr_nil ?_
  refine aw_keep (keep_cons (t := 0) rfl (keep_cons (t := 2) rfl (keep_cons (t := 4) rfl keep_nil))) ?_
  refine aw_false rfl ?_
  refine aw_skip ?_
  show AW _ _ _ _ _ _ _
  refine aw_seq_region ?_
  refine sr_x rfl (wtd_none rfl) rfl (Rd.x (x_move rfl)) ?_
  refine sr_x rfl (wtd_none rfl) rfl (Rd.x (x_nilCheck rfl)) ?_
  refine sr_x rfl (wtd_none rfl) rfl (Rd.x (x_fieldAddr fd168_0 rfl)) ?_
  refine sr_x rfl (wtd_none rfl) rfl (Rd.x (x_load ag22 rfl (cells_get (Cells.mono hc (by repeat (first | exact Sub.refl _ | apply Sub.drop))) 0 rfl))) ?_
  refine sr_d rfl (wtd_none rfl) rfl (opS_call rfl rfl rfl rfl cl104 (clone_s a cap jobs H hs hjl)) ?_
  rintro _ _ ⟨E2, ⟨a2, cap2, V2, rfl⟩, rfl⟩
  refine sr_x rfl (wtd_none rfl) rfl (Rd.x (x_assign rfl)) ?_
  refine sr_nil ?_
  refine aw_keep (keep_cons (t := 2) rfl keep_nil) ?_
  refine aw_ret ?_
  show ∃ v H2, ResV _ _ _ _ _ _ v ∧ Sub H2 _ ∧ _
  exact ⟨_, (E2 ++ H), resV rfl (.cons rfl .nil), (by repeat (first | exact Sub.refl _ | apply Sub.drop)), ⟨E2, ⟨a2, cap2, V2, rfl⟩, rfl⟩⟩
set_option maxRecDepth 100000 in
set_option maxHeartbeats 400000 in
theorem same_s (a b : Option Addr) (ca cb : Nat) (xs : List Job) (H : SHeap) (ha : SlV W0 H 10 Job.cells a ca xs) (hb : SlV W0 H 10 Job.cells b cb xs) : AC Try.prog W0 39 [.slice a xs.length ca, .slice b xs.length cb] H (fun v H' => v = .bool true ∧ H' = H) := by
  have hla := ha.le
  have hlb := hb.le
  have hca := ha.capb
  have hcb := hb.capb
  refine ac_of Try.func39 rfl rfl rfl ?_
  refine aw_seq_region ?_
  refine sr_x rfl (wtd_none rfl) rfl (Rd.x (x_assign rfl)) ?_
  refine sr_nil ?_
  refine aw_keep (keep_cons (t := 0) rfl (keep_cons (t := 1) rfl (keep_cons (t := 4) rfl keep_nil))) ?_
  refine aw_seq ?_
  refine aw_seq_region ?_
  refine sr_x rfl (wtd_none rfl) rfl (Rd.x (x_move rfl)) ?_
  refine sr_x rfl (wtd_none rfl) rfl (Rd.x (x_lenSlice Try.underlying22 rfl)) ?_
  refine sr_x rfl (wtd_none rfl) rfl (Rd.x (x_move rfl)) ?_
  refine sr_x rfl (wtd_none rfl) rfl (Rd.x (x_lenSlice Try.underlying22 rfl)) ?_
  refine sr_cmp rfl (wtd_none rfl) rfl (Rd.x (x_ne rfl rfl)) (fun h1 => absurd h1 (by first | omega | decide)) (fun h1 => ?_)
  refine sr_nil ?_
  refine aw_keep (keep_cons (t := 0) rfl (keep_cons (t := 1) rfl (keep_cons (t := 4) rfl (keep_cons (t := 10) rfl keep_nil)))) ?_
  refine aw_false rfl ?_
  refine aw_skip ?_
  show AW _ _ _ _ _ _ _
  refine aw_seq ?_
  refine aw_seq_region ?_
  refine sr_x rfl (wtd_none rfl) rfl (Rd.x (x_assign rfl)) ?_
  refine sr_nil ?_
  refine aw_keep (keep_cons (t := 0) rfl (keep_cons (t := 1) rfl (keep_cons (t := 4) rfl (keep_cons (t := 5) rfl keep_nil)))) ?_
  refine aw_block ?_
  refine aw_loop (ι := Nat) (fun k => k ≤ xs.length) (fun k => [(0, .slice a xs.length ca), (1, .slice b xs.length cb), (4, .bool false), (5, .int .i64 k)]) (fun _ => H) (fun k => xs.length - k) 0 (Nat.zero_le _) (by (repeat (first | exact keep_nil | refine keep_cons rfl ?_)); first | done | fail) (by repeat (first | exact Sub.refl _ | apply Sub.drop)) ?_
  intro k hk
  refine aw_seq ?_
  refine aw_seq_region ?_
  refine sr_x rfl (wtd_none rfl) rfl (Rd.x (x_move rfl)) ?_
  refine sr_x rfl (wtd_none rfl) rfl (Rd.x (x_move rfl)) ?_
  refine sr_x rfl (wtd_none rfl) rfl (Rd.x (x_lenSlice Try.underlying22 rfl)) ?_
  refine sr_cmp rfl (wtd_none rfl) rfl (Rd.x (x_lt rfl rfl)) (fun h2 => ?_) (fun h2 => ?_)
  · refine sr_nil ?_
    refine aw_keep (keep_cons (t := 0) rfl (keep_cons (t := 1) rfl (keep_cons (t := 4) rfl (keep_cons (t := 5) rfl (keep_cons (t := 11) rfl (keep_cons (t := 12) rfl (keep_cons (t := 13) rfl (keep_cons (t := 14) rfl keep_nil)))))))) ?_
    refine aw_true rfl ?_
    refine aw_skip ?_
    show AW _ _ _ _ _ _ _
    refine aw_seq ?_
    refine aw_block ?_
    refine aw_seq_dr ⟨_, 9, 26, [[], [], [0, 1], [0, 1, 2], [], [], [4, 5], [4, 5, 6], [0, 1, 2, 3, 4, 5, 6, 7]], [.light, .light, .light, .mem, .light, .light, .light, .mem, .light]⟩ (by kernel_rfl) rfl rfl mix ?_
    obtain ⟨j, hj⟩ := get_ex (show k < xs.length by omega)
    obtain ⟨bj, oj, haj, hcj⟩ := ha.at_ k _ hj
    obtain ⟨bj', oj', haj', hcj'⟩ := hb.at_ k _ hj
    refine dr_light rfl rfl (wtd_none rfl) (x_move rfl) ?_
    refine dr_light rfl rfl (wtd_none rfl) (x_move rfl) ?_
    refine dr_light rfl rfl (wtd_none rfl) (x_indexAddrN k Try.underlying22 sz91 rfl haj rfl (by omega) (by omega)) ?_
    refine dr_mem0 rfl rfl (wtd_none rfl) (x_loadN ag91 sz91 rfl hcj rfl) ?_
    refine dr_light rfl rfl (wtd_none rfl) (x_move rfl) ?_
    refine dr_light rfl rfl (wtd_none rfl) (x_move rfl) ?_
    refine dr_light rfl rfl (wtd_none rfl) (x_indexAddrN k Try.underlying22 sz91 rfl haj' rfl (by omega) (by omega)) ?_
    refine dr_mem0 rfl rfl (wtd_none rfl) (x_loadN ag91 sz91 rfl hcj' rfl) ?_
    refine dr_cmp rfl rfl (wtd_none rfl) (x_neStruct Try.underlying91 ks91 rfl rfl rfl rfl rfl) (fun h3 => absurd h3 (by exact fun h => by rw [eqC_job] at h; cases h)) (fun h3 => ?_)
    refine dr_nil0 ?_
    refine aw_keep (keep_cons (t := 0) rfl (keep_cons (t := 1) rfl (keep_cons (t := 4) rfl (keep_cons (t := 5) rfl (keep_cons (t := 11) rfl (keep_cons (t := 12) rfl (keep_cons (t := 13) rfl (keep_cons (t := 14) rfl (keep_cons (t := 17) rfl (keep_cons (t := 18) rfl (keep_cons (t := 19) rfl (keep_cons (t := 20) rfl (keep_cons (t := 21) rfl (keep_cons (t := 22) rfl (keep_cons (t := 23) rfl (keep_cons (t := 24) rfl (keep_cons (t := 25) rfl keep_nil))))))))))))))))) ?_
    refine aw_false rfl ?_
    refine aw_skip ?_
    show AW _ _ _ _ _ _ _
    refine aw_region ?_
    refine sr_x rfl (wtd_none rfl) rfl (Rd.x (x_move rfl)) ?_
    refine sr_x rfl (wtd_none rfl) rfl (Rd.x (x_add' rfl rfl (i64w (by omega) (by omega)))) ?_
    refine sr_x rfl (wtd_none rfl) rfl (Rd.x (x_assign rfl)) ?_
    refine sr_nil ?_
    show ∃ s', _ ∧ _ ∧ _ ∧ _
    exact ⟨k + 1, by omega, by omega, (by (repeat (first | exact keep_nil | refine keep_cons rfl ?_)); first | done | fail), (by repeat (first | exact Sub.refl _ | apply Sub.drop))⟩
  · refine sr_nil ?_
    refine aw_keep (keep_cons (t := 0) rfl (keep_cons (t := 1) rfl (keep_cons (t := 4) rfl (keep_cons (t := 5) rfl (keep_cons (t := 11) rfl (keep_cons (t := 12) rfl (keep_cons (t := 13) rfl (keep_cons (t := 14) rfl keep_nil)))))))) ?_
    refine aw_false rfl ?_
    refine aw_exit ?_
    show AW _ _ _ _ _ _ _
    refine aw_seq_region ?_
    refine sr_x rfl (wtd_none rfl) rfl (Rd.x (x_assign rfl)) ?_
    refine sr_nil ?_
    refine aw_keep (keep_cons (t := 4) rfl keep_nil) ?_
    refine aw_ret ?_
    show ∃ v H2, ResV _ _ _ _ _ _ v ∧ Sub H2 _ ∧ _
    exact ⟨_, H, resV rfl (.cons rfl .nil), (by repeat (first | exact Sub.refl _ | apply Sub.drop)), ⟨rfl, rfl⟩⟩
set_option maxRecDepth 100000 in
set_option maxHeartbeats 400000 in
theorem plive_s (q : Nat) (a : Option Addr) (cap : Nat) (jobs : List Job) (H : SHeap) (hc : Cells W0 H q 0 [.slice a jobs.length cap]) (hs : SlV W0 H 10 Job.cells a cap jobs) : AC Try.prog W0 43 [.pointer (some ⟨q, 0, none⟩)] H (fun v H' => v = .int .i64 (aliveN jobs) ∧ H' = H) := by
  have hle := hs.le
  have hcb := hs.capb
  refine ac_of Try.func43 rfl rfl rfl ?_
  refine aw_seq_region ?_
  refine sr_x rfl (wtd_none rfl) rfl (Rd.x (x_assign rfl)) ?_
  refine sr_nil ?_
  refine aw_keep (keep_cons (t := 0) rfl (keep_cons (t := 2) rfl keep_nil)) ?_
  refine aw_seq_region ?_
  refine sr_x rfl (wtd_none rfl) rfl (Rd.x (x_assign rfl)) ?_
  refine sr_nil ?_
  refine aw_keep (keep_cons (t := 0) rfl (keep_cons (t := 2) rfl (keep_cons (t := 3) rfl keep_nil))) ?_
  refine aw_seq ?_
  refine aw_seq_region ?_
  refine sr_x rfl (wtd_none rfl) rfl (Rd.x (x_assign rfl)) ?_
  refine sr_nil ?_
  refine aw_keep (keep_cons (t := 0) rfl (keep_cons (t := 2) rfl (keep_cons (t := 3) rfl (keep_cons (t := 4) rfl keep_nil)))) ?_
  refine aw_block ?_
  refine aw_loop (ι := Nat) (fun k => k ≤ jobs.length) (fun k => [(0, .pointer (some ⟨q, 0, none⟩)), (3, .int .i64 (aliveN (jobs.take k))), (4, .int .i64 k)]) (fun _ => H) (fun k => jobs.length - k) 0 (Nat.zero_le _) (by (repeat (first | exact keep_nil | refine keep_cons rfl ?_)); first | done | fail) (by repeat (first | exact Sub.refl _ | apply Sub.drop)) ?_
  intro k hk
  have hak := aliveN_le (jobs.take k)
  rw [List.length_take] at hak
  refine aw_seq ?_
  refine aw_seq_region ?_
  refine sr_x rfl (wtd_none rfl) rfl (Rd.x (x_move rfl)) ?_
  refine sr_x rfl (wtd_none rfl) rfl (Rd.x (x_move rfl)) ?_
  refine sr_x rfl (wtd_none rfl) rfl (Rd.x (x_nilCheck rfl)) ?_
  refine sr_x rfl (wtd_none rfl) rfl (Rd.x (x_fieldAddr fd50_0 rfl)) ?_
  refine sr_x rfl (wtd_none rfl) rfl (Rd.x (x_load ag22 rfl (cells_get (Cells.mono hc (by repeat (first | exact Sub.refl _ | apply Sub.drop))) 0 rfl))) ?_
  refine sr_x rfl (wtd_none rfl) rfl (Rd.x (x_lenSlice Try.underlying22 rfl)) ?_
  refine sr_cmp rfl (wtd_none rfl) rfl (Rd.x (x_lt rfl rfl)) (fun h1 => ?_) (fun h1 => ?_)
  · refine sr_nil ?_
    refine aw_keep (keep_cons (t := 0) rfl (keep_cons (t := 3) rfl (keep_cons (t := 4) rfl (keep_cons (t := 5) rfl (keep_cons (t := 6) rfl (keep_cons (t := 7) rfl (keep_cons (t := 8) rfl (keep_cons (t := 9) rfl (keep_cons (t := 10) rfl (keep_cons (t := 11) rfl keep_nil)))))))))) ?_
    refine aw_true rfl ?_
    refine aw_skip ?_
    show AW _ _ _ _ _ _ _
    refine aw_seq ?_
    refine aw_block ?_
    refine aw_seq_region ?_
    obtain ⟨j, hj⟩ := get_ex (show k < jobs.length by omega)
    obtain ⟨bj, oj, haj, hcj⟩ := hs.at_ k _ hj
    refine sr_x rfl (wtd_none rfl) rfl (Rd.x (x_move rfl)) ?_
    refine sr_x rfl (wtd_none rfl) rfl (Rd.x (x_nilCheck rfl)) ?_
    refine sr_x rfl (wtd_none rfl) rfl (Rd.x (x_fieldAddr fd50_0 rfl)) ?_
    refine sr_x rfl (wtd_none rfl) rfl (Rd.x (x_load ag22 rfl (cells_get (Cells.mono hc (by repeat (first | exact Sub.refl _ | apply Sub.drop))) 0 rfl))) ?_
    refine sr_x rfl (wtd_none rfl) rfl (Rd.x (x_move rfl)) ?_
    refine sr_x rfl (wtd_none rfl) rfl (Rd.x (x_indexAddrN k Try.underlying22 sz91 rfl haj rfl (by omega) (by omega))) ?_
    refine sr_x rfl (wtd_none rfl) rfl (Rd.x (x_fieldAddr fd91_5 rfl)) ?_
    refine sr_x rfl (wtd_none rfl) rfl (Rd.x (x_load ag3 rfl (cells_get hcj 5 rfl))) ?_
    refine sr_cmp rfl (wtd_none rfl) rfl (Rd.x (x_lt rfl rfl)) (fun h2 => ?_) (fun h2 => ?_)
    · refine sr_nil ?_
      refine aw_keep (keep_cons (t := 0) rfl (keep_cons (t := 3) rfl (keep_cons (t := 4) rfl (keep_cons (t := 5) rfl (keep_cons (t := 6) rfl (keep_cons (t := 7) rfl (keep_cons (t := 8) rfl (keep_cons (t := 9) rfl (keep_cons (t := 10) rfl (keep_cons (t := 11) rfl (keep_cons (t := 14) rfl (keep_cons (t := 15) rfl (keep_cons (t := 16) rfl (keep_cons (t := 17) rfl (keep_cons (t := 18) rfl (keep_cons (t := 19) rfl (keep_cons (t := 20) rfl (keep_cons (t := 21) rfl (keep_cons (t := 22) rfl keep_nil))))))))))))))))))) ?_
      refine aw_true rfl ?_
      refine aw_region ?_
      refine sr_x rfl (wtd_none rfl) rfl (Rd.x (x_move rfl)) ?_
      refine sr_x rfl (wtd_none rfl) rfl (Rd.x (x_add' rfl rfl (i64w (by omega) (by omega)))) ?_
      refine sr_x rfl (wtd_none rfl) rfl (Rd.x (x_assign rfl)) ?_
      refine sr_nil ?_
      show AW _ _ _ _ _ _ _
      refine aw_region ?_
      refine sr_x rfl (wtd_none rfl) rfl (Rd.x (x_move rfl)) ?_
      refine sr_x rfl (wtd_none rfl) rfl (Rd.x (x_add' rfl rfl (i64w (by omega) (by omega)))) ?_
      refine sr_x rfl (wtd_none rfl) rfl (Rd.x (x_assign rfl)) ?_
      refine sr_nil ?_
      show ∃ s', _ ∧ _ ∧ _ ∧ _
      first | exact ⟨k + 1, by omega, by omega, (by rw [aliveN_take hj, if_pos (by assumption)]; exact (by (repeat (first | exact keep_nil | refine keep_cons rfl ?_)); first | done | fail)), (by repeat (first | exact Sub.refl _ | apply Sub.drop))⟩ | exact ⟨k + 1, by omega, by omega, (by rw [aliveN_take hj, if_neg (by assumption)]; exact (by (repeat (first | exact keep_nil | refine keep_cons rfl ?_)); first | done | fail)), (by repeat (first | exact Sub.refl _ | apply Sub.drop))⟩
    · refine sr_nil ?_
      refine aw_keep (keep_cons (t := 0) rfl (keep_cons (t := 3) rfl (keep_cons (t := 4) rfl (keep_cons (t := 5) rfl (keep_cons (t := 6) rfl (keep_cons (t := 7) rfl (keep_cons (t := 8) rfl (keep_cons (t := 9) rfl (keep_cons (t := 10) rfl (keep_cons (t := 11) rfl (keep_cons (t := 14) rfl (keep_cons (t := 15) rfl (keep_cons (t := 16) rfl (keep_cons (t := 17) rfl (keep_cons (t := 18) rfl (keep_cons (t := 19) rfl (keep_cons (t := 20) rfl (keep_cons (t := 21) rfl (keep_cons (t := 22) rfl keep_nil))))))))))))))))))) ?_
      refine aw_false rfl ?_
      refine aw_skip ?_
      show AW _ _ _ _ _ _ _
      refine aw_region ?_
      refine sr_x rfl (wtd_none rfl) rfl (Rd.x (x_move rfl)) ?_
      refine sr_x rfl (wtd_none rfl) rfl (Rd.x (x_add' rfl rfl (i64w (by omega) (by omega)))) ?_
      refine sr_x rfl (wtd_none rfl) rfl (Rd.x (x_assign rfl)) ?_
      refine sr_nil ?_
      show ∃ s', _ ∧ _ ∧ _ ∧ _
      first | exact ⟨k + 1, by omega, by omega, (by rw [aliveN_take hj, if_pos (by assumption)]; exact (by (repeat (first | exact keep_nil | refine keep_cons rfl ?_)); first | done | fail)), (by repeat (first | exact Sub.refl _ | apply Sub.drop))⟩ | exact ⟨k + 1, by omega, by omega, (by rw [aliveN_take hj, if_neg (by assumption)]; exact (by (repeat (first | exact keep_nil | refine keep_cons rfl ?_)); first | done | fail)), (by repeat (first | exact Sub.refl _ | apply Sub.drop))⟩
  · refine sr_nil ?_
    refine aw_keep (keep_cons (t := 0) rfl (keep_cons (t := 3) rfl (keep_cons (t := 4) rfl (keep_cons (t := 5) rfl (keep_cons (t := 6) rfl (keep_cons (t := 7) rfl (keep_cons (t := 8) rfl (keep_cons (t := 9) rfl (keep_cons (t := 10) rfl (keep_cons (t := 11) rfl keep_nil)))))))))) ?_
    refine aw_false rfl ?_
    refine aw_exit ?_
    show AW _ _ _ _ _ _ _
    refine aw_seq_region ?_
    refine sr_x rfl (wtd_none rfl) rfl (Rd.x (x_move rfl)) ?_
    refine sr_x rfl (wtd_none rfl) rfl (Rd.x (x_assign rfl)) ?_
    refine sr_nil ?_
    refine aw_keep (keep_cons (t := 2) rfl keep_nil) ?_
    refine aw_ret ?_
    show ∃ v H2, ResV _ _ _ _ _ _ v ∧ Sub H2 _ ∧ _
    exact ⟨_, H, resV rfl (.cons rfl .nil), (by repeat (first | exact Sub.refl _ | apply Sub.drop)), ⟨by rw [List.take_of_length_le (by omega)]; rfl, rfl⟩⟩
set_option maxRecDepth 100000 in
theorem read_Op {H : Type} {enc : TypeId × Value → H} {w : World} {base : Nat} {spare : Nat → Bool} {held : Bool} {fuel : Nat} {cs : List Value} {x : DataW H × List MemPlace} (h : DataW.trod enc Try.prog w base spare held fuel 53 cs = some x) : ∃ j : Op, cs = j.cells ∧ j.Wf := by
  obtain ⟨hlen, n, hf⟩ := read_struct Try.underlying53 h
  rw [cells53] at hlen
  obtain ⟨a0, e0, l0, u0⟩ := read_int Try.underlying3 cells3 (hf 0 _ rfl)
  obtain ⟨y1, k1⟩ : ∃ y, DataW.trod enc Try.prog w base spare held n 36 ((cs.drop 1).take (Try.prog.cellsOf 36)) = some y := hf 1 _ rfl
  obtain ⟨a1, e1, w1⟩ := read_Request k1
  rw [cells36] at e1
  obtain ⟨a2, e2, l2, u2⟩ := read_int Try.underlying3 cells3 (hf 2 _ rfl)
  obtain ⟨a3, e3, l3, u3⟩ := read_int Try.underlying2 cells2 (hf 3 _ rfl)
  obtain ⟨a4, e4, l4, u4⟩ := read_int Try.underlying3 cells3 (hf 4 _ rfl)
  obtain ⟨a5, e5, l5, u5⟩ := read_int Try.underlying51 cells51 (hf 5 _ rfl)
  refine ⟨⟨a0, a1, a2, a3, a4, a5⟩, ?_, ⟨⟨l0, u0⟩, w1, ⟨l2, u2⟩, ⟨l3, u3⟩, ⟨l4, u4⟩, ⟨l5, u5⟩⟩⟩
  apply List.ext_getElem?
  intro i
  match i with
  | 0 => exact e0
  | 1 => exact get_nest e1 0 (by decide)
  | 2 => exact get_nest e1 1 (by decide)
  | 3 => exact get_nest e1 2 (by decide)
  | 4 => exact get_nest e1 3 (by decide)
  | 5 => exact get_nest e1 4 (by decide)
  | 6 => exact get_nest e1 5 (by decide)
  | 7 => exact get_nest e1 6 (by decide)
  | 8 => exact get_nest e1 7 (by decide)
  | 9 => exact get_nest e1 8 (by decide)
  | 10 => exact e2
  | 11 => exact e3
  | 12 => exact e4
  | 13 => exact e5
  | i + 14 => rw [List.getElem?_eq_none (by omega), List.getElem?_eq_none (by simp)]
set_option maxRecDepth 100000 in
theorem open_Op {H : Type} {enc : TypeId × Value → H} {w : World} {base b0 : Nat} {spare : Nat → Bool} {held : Bool} {v : Value} {d : DataW H} {p : List MemPlace} {r : Reach} (hv : Value.okWide Try.prog w r b0 53 v) (h : DataW.Trod enc Try.prog w base spare held 53 v d p) : ∃ j : Op, v = j.v ∧ j.Wf := by
  obtain ⟨cs, rfl, _⟩ := Go.WideShapes.okWide_struct Try.underlying53 hv
  obtain ⟨fuel, hf⟩ := h
  obtain ⟨j, h1, h2⟩ := read_Op hf
  refine ⟨j, ?_, h2⟩
  have : cs = j.cells.toArray := by apply Array.toList_inj.1; exact h1
  rw [this]
end
end Go.Proofs.Yteilocpjikmmdaa
