/- The table's calls, told as the document's. -/
import Derived.Test.YteilocpjikmmdaaJobPlain
namespace Go.Proofs.Yteilocpjikmmdaa
open Go.Proofs.Yteilocpjikmmdaa.Sym
open Go.RowKit (Below)
set_option linter.unusedVariables false
set_option linter.unusedSimpArgs false
theorem cl101 : Callable Try.prog 101 := ⟨Try.f101, Try.func101, by kernel_rfl, by kernel_rfl⟩
theorem cl102 : Callable Try.prog 102 := ⟨Try.f102, Try.func102, by kernel_rfl, by kernel_rfl⟩
theorem cl35 : Callable Try.prog 35 := ⟨Try.f35, Try.func35, by kernel_rfl, by kernel_rfl⟩
theorem cl79 : Callable Try.prog 79 := ⟨Try.f79, Try.func79, by kernel_rfl, by kernel_rfl⟩
section
variable {W0 : World}
def CallR (p : Nat) (a : Option Addr) (cap : Nat) (jobs : List Job) (o : Op) (G : SHeap) (v : Value) (H' : SHeap) : Prop :=
  ∃ e jobs' E', TurnR jobs o e jobs' ∧ v = .int .i64 e ∧ OwnVec 10 91 (.slice a jobs'.length cap) jobs'.length (jobs'.flatMap Job.cells) E' ∧ H' = tab p (.slice a jobs'.length cap) (aliveN jobs') :: (E' ++ G)
def TSubR (p : Nat) (jobs : List Job) (r : Request) (G : SHeap) (v : Value) (H' : SHeap) : Prop :=
  ∃ a e jobs' sl E', SubmitR jobs r a e jobs' ∧ OwnVec 10 91 sl jobs'.length (jobs'.flatMap Job.cells) E' ∧ v = .tuple #[.int .i64 a, .int .i64 e] ∧ H' = tab p sl (aliveN jobs') :: (E' ++ G)
section
variable {p : Nat} {a : Option Addr} {cap : Nat} {jobs : List Job} {E G : SHeap} {o : Op}
theorem callR_set {k : Nat} {j j' : Job} {E' : SHeap} {L : Int} (he : earlyE o = 0) (hid : o.id = k + 1) (hj : jobs[k]? = some j) (hs : stepJ j o = some j') (V' : OwnVec 10 91 (.slice a jobs.length cap) jobs.length ((jobs.set k j').flatMap Job.cells) E')
    (hL : L + (if j.state < 4 then 1 else 0) = aliveN jobs + (if j'.state < 4 then 1 else 0)) : CallR p a cap jobs o G (.int .i64 0) (tab p (.slice a jobs.length cap) (aliveN jobs + (L - aliveN jobs)) :: (E' ++ G)) := by
  refine ⟨0, jobs.set k j', E', .inr (.inr (.inr ⟨k, j, j', he, hid, hj, hs, rfl, rfl⟩)), rfl, by rw [List.length_set]; exact V', ?_⟩
  have h1 := aliveN_set (j' := j') hj
  have h2 : ((aliveN (jobs.set k j') : Nat) : Int) = aliveN jobs + (L - aliveN jobs) := by
    split at h1 <;> split at h1 <;> simp_all <;> omega
  rw [h2, List.length_set]
theorem callR_bad {e : Int} (h : TurnR jobs o e jobs) (V : OwnVec 10 91 (.slice a jobs.length cap) jobs.length (jobs.flatMap Job.cells) E) : CallR p a cap jobs o G (.int .i64 e) (tab p (.slice a jobs.length cap) (aliveN jobs) :: (E ++ G)) :=
  ⟨e, jobs, E, h, rfl, V, rfl⟩
theorem early3 (hk : o.kind = 3 ∨ o.kind = 4) : earlyE o = 0 := by unfold earlyE; rw [if_neg (by omega), if_neg (by omega), if_pos hk]
theorem early5 (hk : o.kind = 5) : earlyE o = if o.at_ < -1 ∨ 1099511627776 < o.at_ then 10 else 0 := by unfold earlyE; rw [if_pos hk]
theorem early6 (hk : o.kind = 6 ∨ o.kind = 7) : earlyE o = if o.at_ < 0 ∨ 1099511627776 < o.at_ then 10 else 0 := by unfold earlyE; rw [if_neg (by omega), if_pos hk]
theorem earlyX (hk : ¬ (3 ≤ o.kind ∧ o.kind ≤ 7)) : earlyE o = if o.state < 4 ∨ 6 < o.state then 1 else if o.at_ < 0 ∨ 2199023255552 < o.at_ then 10 else 0 := by unfold earlyE; rw [if_neg (by omega), if_neg (by omega), if_neg (by omega)]
theorem hold_f (V : OwnVec 10 91 (.slice a jobs.length cap) jobs.length (jobs.flatMap Job.cells) E) (hk : o.kind = 3) : AC Try.prog W0 79 [.pointer (some ⟨p, 0, none⟩), .int .i64 o.id] (tab p (.slice a jobs.length cap) (aliveN jobs) :: (E ++ G)) (CallR p a cap jobs o G) :=
  (hold_s p a cap jobs (aliveN jobs) E G o.id V).mono fun v H' h => by
    have he := early3 (.inl hk)
    rcases h with ⟨_, h2, rfl, rfl⟩ | ⟨k, j, _, h2, h3, h4, rfl, rfl⟩ | ⟨k, j, _, h2, h3, h4, rfl, E', V', rfl⟩
    · exact callR_bad (.inr (.inl ⟨he, h2, rfl, rfl⟩)) V
    · exact callR_bad (.inr (.inr (.inl ⟨k, j, he, h2, h3, by unfold stepJ; rw [if_pos hk, if_neg h4], rfl, rfl⟩))) V
    · have := callR_set (G := G) (p := p) (L := aliveN jobs) he h2 h3 (by unfold stepJ; rw [if_pos hk, if_pos h4]) V' (by dsimp only; rw [if_pos (by omega), if_pos (by omega)])
      simpa using this
theorem free_f (V : OwnVec 10 91 (.slice a jobs.length cap) jobs.length (jobs.flatMap Job.cells) E) (hk : o.kind = 4) : AC Try.prog W0 101 [.pointer (some ⟨p, 0, none⟩), .int .i64 o.id] (tab p (.slice a jobs.length cap) (aliveN jobs) :: (E ++ G)) (CallR p a cap jobs o G) :=
  (free_s p a cap jobs (aliveN jobs) E G o.id V).mono fun v H' h => by
    have he := early3 (.inr hk)
    rcases h with ⟨_, h2, rfl, rfl⟩ | ⟨k, j, _, h2, h3, h4, rfl, rfl⟩ | ⟨k, j, _, h2, h3, h4, rfl, E', V', rfl⟩
    · exact callR_bad (.inr (.inl ⟨he, h2, rfl, rfl⟩)) V
    · exact callR_bad (.inr (.inr (.inl ⟨k, j, he, h2, h3, by unfold stepJ; rw [if_neg (by omega), if_pos hk, if_neg h4], rfl, rfl⟩))) V
    · have := callR_set (G := G) (p := p) (L := aliveN jobs) he h2 h3 (by unfold stepJ; rw [if_neg (by omega), if_pos hk, if_pos h4]) V' (by dsimp only; rw [if_pos (by omega), if_pos (by omega)])
      simpa using this
theorem plan_f (V : OwnVec 10 91 (.slice a jobs.length cap) jobs.length (jobs.flatMap Job.cells) E) (hk : o.kind = 5) : AC Try.prog W0 102 [.pointer (some ⟨p, 0, none⟩), .int .i64 o.id, .int .i64 o.at_] (tab p (.slice a jobs.length cap) (aliveN jobs) :: (E ++ G)) (CallR p a cap jobs o G) :=
  (plan_s p a cap jobs (aliveN jobs) E G o.id o.at_ V).mono fun v H' h => by
    have he := early5 hk
    rcases h with ⟨h1, rfl, rfl⟩ | ⟨h1, h2, rfl, rfl⟩ | ⟨k, j, h1, h2, h3, h4, rfl, rfl⟩ | ⟨k, j, h1, h2, h3, h4, rfl, E', V', rfl⟩
    · rw [if_pos h1] at he
      exact callR_bad (.inl ⟨by omega, by omega, rfl⟩) V
    · rw [if_neg h1] at he
      exact callR_bad (.inr (.inl ⟨he, h2, rfl, rfl⟩)) V
    · rw [if_neg h1] at he
      exact callR_bad (.inr (.inr (.inl ⟨k, j, he, h2, h3, by unfold stepJ; rw [if_neg (by omega), if_neg (by omega), if_pos hk, if_neg h4], rfl, rfl⟩))) V
    · rw [if_neg h1] at he
      have := callR_set (G := G) (p := p) (L := aliveN jobs) he h2 h3 (by unfold stepJ; rw [if_neg (by omega), if_neg (by omega), if_pos hk, if_pos h4]) V' (by dsimp only)
      simpa using this
theorem begin_f (V : OwnVec 10 91 (.slice a jobs.length cap) jobs.length (jobs.flatMap Job.cells) E) (hg : GoodJ jobs) (hk : o.kind = 6 ∨ o.kind = 7) : AC Try.prog W0 98 [.pointer (some ⟨p, 0, none⟩), .int .i64 o.id, .int .i64 o.at_, .int .u64 o.nodes] (tab p (.slice a jobs.length cap) (aliveN jobs) :: (E ++ G)) (CallR p a cap jobs o G) :=
  (begin_s p a cap jobs (aliveN jobs) E G o.id o.at_ o.nodes V (fun j hj => (hg j hj).2)).mono fun v H' h => by
    have he := early6 hk
    rcases h with ⟨h1, rfl, rfl⟩ | ⟨h1, h2, rfl, rfl⟩ | ⟨k, j, h1, h2, h3, h4, rfl, rfl⟩ | ⟨k, j, h1, h2, h3, h4, rfl, E', V', rfl⟩
    · rw [if_pos h1] at he
      exact callR_bad (.inl ⟨by omega, by omega, rfl⟩) V
    · rw [if_neg h1] at he
      exact callR_bad (.inr (.inl ⟨he, h2, rfl, rfl⟩)) V
    · rw [if_neg h1] at he
      exact callR_bad (.inr (.inr (.inl ⟨k, j, he, h2, h3, by unfold stepJ; rw [if_neg (by omega), if_neg (by omega), if_neg (by omega), if_pos hk, if_neg h4], rfl, rfl⟩))) V
    · rw [if_neg h1] at he
      have := callR_set (G := G) (p := p) (L := aliveN jobs) he h2 h3 (by unfold stepJ; rw [if_neg (by omega), if_neg (by omega), if_neg (by omega), if_pos hk, if_pos h4]) V' (by dsimp only; rw [if_pos (by omega), if_pos (by omega)])
      simpa using this
theorem finish_f (V : OwnVec 10 91 (.slice a jobs.length cap) jobs.length (jobs.flatMap Job.cells) E) (hjl : jobs.length ≤ 1000000) (hk : ¬ (3 ≤ o.kind ∧ o.kind ≤ 7)) : AC Try.prog W0 35 [.pointer (some ⟨p, 0, none⟩), .int .i64 o.id, .int .i64 o.state, .int .i64 o.at_] (tab p (.slice a jobs.length cap) (aliveN jobs) :: (E ++ G)) (CallR p a cap jobs o G) := by
  have hal := aliveN_le jobs
  refine (finish_s p a cap jobs (aliveN jobs) E G o.id o.state o.at_ V (by omega) (by omega)).mono fun v H' h => ?_
  have he := earlyX hk
  rcases h with ⟨h1, rfl, rfl⟩ | ⟨h0, h1, rfl, rfl⟩ | ⟨⟨h0, h1⟩, h2, rfl, rfl⟩ | ⟨k, j, ⟨h0, h1⟩, h2, h3, h4, rfl, rfl⟩ | ⟨k, j, ⟨h0, h1⟩, h2, h3, h4, rfl, E', V', rfl⟩
  · rw [if_pos h1] at he
    exact callR_bad (.inl ⟨by omega, by omega, rfl⟩) V
  · rw [if_neg h0, if_pos h1] at he
    exact callR_bad (.inl ⟨by omega, by omega, rfl⟩) V
  · rw [if_neg h0, if_neg h1] at he
    exact callR_bad (.inr (.inl ⟨he, h2, rfl, rfl⟩)) V
  · rw [if_neg h0, if_neg h1] at he
    exact callR_bad (.inr (.inr (.inl ⟨k, j, he, h2, h3, by unfold stepJ; rw [if_neg (by omega), if_neg (by omega), if_neg (by omega), if_neg (by omega), if_neg h4], rfl, rfl⟩))) V
  · rw [if_neg h0, if_neg h1] at he
    have := callR_set (G := G) (p := p) (L := aliveN jobs - 1) he h2 h3 (by unfold stepJ; rw [if_neg (by omega), if_neg (by omega), if_neg (by omega), if_neg (by omega), if_pos h4]) V' (by dsimp only; rw [if_pos (by omega), if_neg (by omega)]; omega)
    have e9 : (aliveN jobs : Int) + ((aliveN jobs : Int) - 1 - aliveN jobs) = aliveN jobs - 1 := by omega
    rw [e9] at this
    exact this
theorem submit_f (r : Request) (V : OwnVec 10 91 (.slice a jobs.length cap) jobs.length (jobs.flatMap Job.cells) E) (hjl : jobs.length ≤ 1000000) : AC Try.prog W0 34 [.pointer (some ⟨p, 0, none⟩), r.v] (tab p (.slice a jobs.length cap) (aliveN jobs) :: (E ++ G)) (TSubR p jobs r G) := by
  have hal := aliveN_le jobs
  refine (submit_s p a cap jobs (aliveN jobs) E G r V (by omega) (by omega)).mono fun v H' h => ?_
  rcases h with ⟨h1, rfl, rfl⟩ | ⟨h1, h2, rfl, rfl⟩ | ⟨h1, h2, sl, E', V', rfl, rfl⟩
  · exact ⟨_, _, jobs, _, E, .inl ⟨h1, rfl, rfl, rfl⟩, V, rfl, rfl⟩
  · exact ⟨_, _, jobs, _, E, .inr (.inl ⟨h1, by omega, rfl, rfl, rfl⟩), V, rfl, rfl⟩
  · refine ⟨_, _, jobs ++ [newJob jobs.length r], sl, E', .inr (.inr ⟨h1, by omega, rfl, rfl, rfl⟩), by rw [List.length_append]; exact V', rfl, ?_⟩
    rw [aliveN_app, if_pos (by unfold newJob; dsimp only; split <;> omega)]; rfl
theorem TurnR.tot (jobs : List Job) (o : Op) : ∃ e jobs', TurnR jobs o e jobs' := by
  by_cases h1 : earlyE o = 0
  · by_cases h2 : o.id < 1 ∨ jobs.length < o.id
    · exact ⟨_, _, .inr (.inl ⟨h1, h2, rfl, rfl⟩)⟩
    · obtain ⟨j, hj⟩ := get_ex (show (o.id - 1).toNat < jobs.length by omega)
      cases hs : stepJ j o with
      | none => exact ⟨_, _, .inr (.inr (.inl ⟨_, j, h1, by omega, hj, hs, rfl, rfl⟩))⟩
      | some j' => exact ⟨_, _, .inr (.inr (.inr ⟨_, j, j', h1, by omega, hj, hs, rfl, rfl⟩))⟩
  · exact ⟨_, _, .inl ⟨h1, rfl, rfl⟩⟩
theorem callR_fresh {V0 : SHeap} (V : OwnVec 10 91 (.slice a jobs.length cap) jobs.length (jobs.flatMap Job.cells) E) (hs : Sub (tab p (.slice a jobs.length cap) (aliveN jobs) :: (E ++ G)) V0) : FreshH W0 V0 (CallR p a cap jobs o G) := by
  obtain ⟨e, js, ht⟩ := TurnR.tot jobs o
  have hl := ht.len
  obtain ⟨E', V', hk⟩ := V.reset (L' := js.flatMap Job.cells) (by rw [flat_len (n := 10) (fun _ => rfl), flat_len (n := 10) (fun _ => rfl), hl])
  refine freshH_keys hs (H' := tab p (.slice a js.length cap) (aliveN js) :: (E' ++ G)) ?_ ⟨e, js, E', ht, rfl, by rw [hl]; exact V', rfl⟩
  rw [keys_cons, keys_cons, keys_append, keys_append, hk]
theorem pturnR_fresh {q : Nat} {V0 : SHeap} (V : OwnVec 10 91 (.slice a jobs.length cap) jobs.length (jobs.flatMap Job.cells) E) (hs : Sub (pl q (.slice a jobs.length cap) :: (E ++ G)) V0) : FreshH W0 V0 (PTurnR q a cap jobs o G) := by
  obtain ⟨e, js, ht⟩ := TurnR.tot jobs o
  have hl := ht.len
  obtain ⟨E', V', hk⟩ := V.reset (L' := js.flatMap Job.cells) (by rw [flat_len (n := 10) (fun _ => rfl), flat_len (n := 10) (fun _ => rfl), hl])
  refine freshH_keys hs (H' := pl q (.slice a js.length cap) :: (E' ++ G)) ?_ ⟨e, js, E', ht, rfl, by rw [hl]; exact V', rfl⟩
  rw [keys_cons, keys_cons, keys_append, keys_append, hk]
end
set_option maxRecDepth 100000 in
set_option maxHeartbeats 400000 in
theorem call_s (p : Nat) (a : Option Addr) (cap : Nat) (jobs : List Job) (E G : SHeap) (o : Op) (V : OwnVec 10 91 (.slice a jobs.length cap) jobs.length (jobs.flatMap Job.cells) E) (hg : GoodJ jobs) (hjl : jobs.length ≤ 1000000) : AC Try.prog W0 37 [.pointer (some ⟨p, 0, none⟩), o.v] (tab p (.slice a jobs.length cap) (aliveN jobs) :: (E ++ G)) (CallR p a cap jobs o G) := by
  refine ac_of Try.func37 rfl rfl rfl ?_
  refine aw_seq_region ?_
  refine sr_new rfl (wtd_none rfl) rfl (x_box rfl rfl) ?_
  intro r0_0 hr0_0 gr0_0
  refine sr_x rfl (wtd_none rfl) rfl (Rd.x (x_assign rfl)) ?_
  refine sr_nil ?_
  refine aw_keep (keep_cons (t := 0) rfl (keep_cons (t := 3) rfl (keep_cons (t := 4) rfl keep_nil))) ?_
  refine aw_seq_region ?_
  refine sr_x rfl (wtd_none rfl) rfl (Rd.x (x_fieldAddr fd53_0 rfl)) ?_
  refine sr_x rfl (wtd_none rfl) rfl (Rd.x (x_load ag3 rfl (cells_ext (by repeat (first | exact List.mem_cons_self | apply List.mem_cons_of_mem | apply List.mem_append_right)) (by repeat (first | exact Ext.all _ | exact Ext.done | apply Ext.take | apply Ext.skip))))) ?_
  refine sr_nil ?_
  refine aw_keep (keep_cons (t := 0) rfl (keep_cons (t := 3) rfl (keep_cons (t := 4) rfl (keep_cons (t := 6) rfl keep_nil)))) ?_
  refine aw_block ?_
  refine aw_seq_region ?_
  refine sr_cmp rfl (wtd_none rfl) rfl (Rd.x (x_eq rfl rfl)) (fun h1 => ?_) (fun h1 => ?_)
  · refine sr_x rfl (wtd_none rfl) rfl (Rd.x (x_assign rfl)) ?_
    refine sr_nil ?_
    refine aw_keep (keep_cons (t := 0) rfl (keep_cons (t := 3) rfl (keep_cons (t := 4) rfl (keep_cons (t := 6) rfl (keep_cons (t := 15) rfl keep_nil))))) ?_
    refine aw_true rfl ?_
    refine aw_seq_region ?_
    refine sr_x rfl (wtd_none rfl) rfl (Rd.x (x_move rfl)) ?_
    refine sr_x rfl (wtd_none rfl) rfl (Rd.x (x_fieldAddr fd53_2 rfl)) ?_
    refine sr_x rfl (wtd_none rfl) rfl (Rd.x (x_load ag3 rfl (cells_ext (by repeat (first | exact List.mem_cons_self | apply List.mem_cons_of_mem | apply List.mem_append_right)) (by repeat (first | exact Ext.all _ | exact Ext.done | apply Ext.take | apply Ext.skip))))) ?_
    refine sr_d rfl (wtd_none rfl) rfl (opS_call rfl rfl rfl rfl cl79 (AC.sub (by repeat (first | exact Sub.refl _ | refine Sub.take (by repeat (first | exact Take.here | apply Take.there | apply Take.app)) ?_ | refine Sub.takeE (by repeat (first | exact TakeE.here | apply TakeE.there | apply TakeE.app)) ?_ | exact Sub.nil _ | apply Sub.drop | apply Sub.dropE)) (hold_f (G := G) V (by omega)))) ?_
    rintro v0 H0 hcr
    refine sr_x rfl (wtd_none rfl) rfl (Rd.x (x_assign rfl)) ?_
    refine sr_nil ?_
    refine aw_keep (keep_cons (t := 4) rfl keep_nil) ?_
    refine aw_ret ?_
    show ∃ v H2, ResV _ _ _ _ _ _ v ∧ Sub H2 _ ∧ _
    exact ⟨_, H0, resV rfl (.cons rfl .nil), Sub.refl _, hcr⟩
  · refine sr_x rfl (wtd_none rfl) rfl (Rd.x (x_assign rfl)) ?_
    refine sr_nil ?_
    refine aw_keep (keep_cons (t := 0) rfl (keep_cons (t := 3) rfl (keep_cons (t := 4) rfl (keep_cons (t := 6) rfl (keep_cons (t := 15) rfl keep_nil))))) ?_
    refine aw_false rfl ?_
    refine aw_seq_region ?_
    refine sr_cmp rfl (wtd_none rfl) rfl (Rd.x (x_eq rfl rfl)) (fun h2 => ?_) (fun h2 => ?_)
    · refine sr_x rfl (wtd_none rfl) rfl (Rd.x (x_assign rfl)) ?_
      refine sr_nil ?_
      refine aw_keep (keep_cons (t := 0) rfl (keep_cons (t := 3) rfl (keep_cons (t := 4) rfl (keep_cons (t := 6) rfl (keep_cons (t := 21) rfl keep_nil))))) ?_
      refine aw_true rfl ?_
      refine aw_seq_region ?_
      refine sr_x rfl (wtd_none rfl) rfl (Rd.x (x_move rfl)) ?_
      refine sr_x rfl (wtd_none rfl) rfl (Rd.x (x_fieldAddr fd53_2 rfl)) ?_
      refine sr_x rfl (wtd_none rfl) rfl (Rd.x (x_load ag3 rfl (cells_ext (by repeat (first | exact List.mem_cons_self | apply List.mem_cons_of_mem | apply List.mem_append_right)) (by repeat (first | exact Ext.all _ | exact Ext.done | apply Ext.take | apply Ext.skip))))) ?_
      refine sr_d rfl (wtd_none rfl) rfl (opS_call rfl rfl rfl rfl cl101 (AC.sub (by repeat (first | exact Sub.refl _ | refine Sub.take (by repeat (first | exact Take.here | apply Take.there | apply Take.app)) ?_ | refine Sub.takeE (by repeat (first | exact TakeE.here | apply TakeE.there | apply TakeE.app)) ?_ | exact Sub.nil _ | apply Sub.drop | apply Sub.dropE)) (free_f (G := G) V (by omega)))) ?_
      rintro v0 H0 hcr
      refine sr_x rfl (wtd_none rfl) rfl (Rd.x (x_assign rfl)) ?_
      refine sr_nil ?_
      refine aw_keep (keep_cons (t := 4) rfl keep_nil) ?_
      refine aw_ret ?_
      show ∃ v H2, ResV _ _ _ _ _ _ v ∧ Sub H2 _ ∧ _
      exact ⟨_, H0, resV rfl (.cons rfl .nil), Sub.refl _, hcr⟩
    · refine sr_x rfl (wtd_none rfl) rfl (Rd.x (x_assign rfl)) ?_
      refine sr_nil ?_
      refine aw_keep (keep_cons (t := 0) rfl (keep_cons (t := 3) rfl (keep_cons (t := 4) rfl (keep_cons (t := 6) rfl (keep_cons (t := 21) rfl keep_nil))))) ?_
      refine aw_false rfl ?_
      refine aw_seq_region ?_
      refine sr_cmp rfl (wtd_none rfl) rfl (Rd.x (x_eq rfl rfl)) (fun h3 => ?_) (fun h3 => ?_)
      · refine sr_x rfl (wtd_none rfl) rfl (Rd.x (x_assign rfl)) ?_
        refine sr_nil ?_
        refine aw_keep (keep_cons (t := 0) rfl (keep_cons (t := 3) rfl (keep_cons (t := 4) rfl (keep_cons (t := 6) rfl (keep_cons (t := 27) rfl keep_nil))))) ?_
        refine aw_true rfl ?_
        refine aw_seq_region ?_
        refine sr_x rfl (wtd_none rfl) rfl (Rd.x (x_move rfl)) ?_
        refine sr_x rfl (wtd_none rfl) rfl (Rd.x (x_fieldAddr fd53_2 rfl)) ?_
        refine sr_x rfl (wtd_none rfl) rfl (Rd.x (x_load ag3 rfl (cells_ext (by repeat (first | exact List.mem_cons_self | apply List.mem_cons_of_mem | apply List.mem_append_right)) (by repeat (first | exact Ext.all _ | exact Ext.done | apply Ext.take | apply Ext.skip))))) ?_
        refine sr_x rfl (wtd_none rfl) rfl (Rd.x (x_fieldAddr fd53_3 rfl)) ?_
        refine sr_x rfl (wtd_none rfl) rfl (Rd.x (x_load ag2 rfl (cells_ext (by repeat (first | exact List.mem_cons_self | apply List.mem_cons_of_mem | apply List.mem_append_right)) (by repeat (first | exact Ext.all _ | exact Ext.done | apply Ext.take | apply Ext.skip))))) ?_
        refine sr_d rfl (wtd_none rfl) rfl (opS_call rfl rfl rfl rfl cl102 (AC.sub (by repeat (first | exact Sub.refl _ | refine Sub.take (by repeat (first | exact Take.here | apply Take.there | apply Take.app)) ?_ | refine Sub.takeE (by repeat (first | exact TakeE.here | apply TakeE.there | apply TakeE.app)) ?_ | exact Sub.nil _ | apply Sub.drop | apply Sub.dropE)) (plan_f (G := G) V (by omega)))) ?_
        rintro v0 H0 hcr
        refine sr_x rfl (wtd_none rfl) rfl (Rd.x (x_assign rfl)) ?_
        refine sr_nil ?_
        refine aw_keep (keep_cons (t := 4) rfl keep_nil) ?_
        refine aw_ret ?_
        show ∃ v H2, ResV _ _ _ _ _ _ v ∧ Sub H2 _ ∧ _
        exact ⟨_, H0, resV rfl (.cons rfl .nil), Sub.refl _, hcr⟩
      · refine sr_x rfl (wtd_none rfl) rfl (Rd.x (x_assign rfl)) ?_
        refine sr_nil ?_
        refine aw_keep (keep_cons (t := 0) rfl (keep_cons (t := 3) rfl (keep_cons (t := 4) rfl (keep_cons (t := 6) rfl (keep_cons (t := 27) rfl keep_nil))))) ?_
        refine aw_false rfl ?_
        refine aw_seq ?_
        refine aw_seq_region ?_
        refine sr_cmp rfl (wtd_none rfl) rfl (Rd.x (x_eq rfl rfl)) (fun h4 => ?_) (fun h4 => ?_)
        · refine sr_x rfl (wtd_none rfl) rfl (Rd.x (x_assign rfl)) ?_
          refine sr_nil ?_
          refine aw_keep (keep_cons (t := 0) rfl (keep_cons (t := 3) rfl (keep_cons (t := 4) rfl (keep_cons (t := 6) rfl (keep_cons (t := 35) rfl keep_nil))))) ?_
          refine aw_true rfl ?_
          refine aw_skip ?_
          show AW _ _ _ _ _ _ _
          refine aw_true rfl ?_
          refine aw_seq_region ?_
          refine sr_x rfl (wtd_none rfl) rfl (Rd.x (x_move rfl)) ?_
          refine sr_x rfl (wtd_none rfl) rfl (Rd.x (x_fieldAddr fd53_2 rfl)) ?_
          refine sr_x rfl (wtd_none rfl) rfl (Rd.x (x_load ag3 rfl (cells_ext (by repeat (first | exact List.mem_cons_self | apply List.mem_cons_of_mem | apply List.mem_append_right)) (by repeat (first | exact Ext.all _ | exact Ext.done | apply Ext.take | apply Ext.skip))))) ?_
          refine sr_x rfl (wtd_none rfl) rfl (Rd.x (x_fieldAddr fd53_3 rfl)) ?_
          refine sr_x rfl (wtd_none rfl) rfl (Rd.x (x_load ag2 rfl (cells_ext (by repeat (first | exact List.mem_cons_self | apply List.mem_cons_of_mem | apply List.mem_append_right)) (by repeat (first | exact Ext.all _ | exact Ext.done | apply Ext.take | apply Ext.skip))))) ?_
          refine sr_x rfl (wtd_none rfl) rfl (Rd.x (x_fieldAddr fd53_5 rfl)) ?_
          refine sr_x rfl (wtd_none rfl) rfl (Rd.x (x_load ag51 rfl (cells_ext (by repeat (first | exact List.mem_cons_self | apply List.mem_cons_of_mem | apply List.mem_append_right)) (by repeat (first | exact Ext.all _ | exact Ext.done | apply Ext.take | apply Ext.skip))))) ?_
          refine sr_d rfl (wtd_none rfl) rfl (opS_call rfl rfl rfl rfl cl98 (AC.sub (by repeat (first | exact Sub.refl _ | refine Sub.take (by repeat (first | exact Take.here | apply Take.there | apply Take.app)) ?_ | refine Sub.takeE (by repeat (first | exact TakeE.here | apply TakeE.there | apply TakeE.app)) ?_ | exact Sub.nil _ | apply Sub.drop | apply Sub.dropE)) (begin_f (G := G) V hg (by omega)))) ?_
          rintro v0 H0 hcr
          refine sr_x rfl (wtd_none rfl) rfl (Rd.x (x_assign rfl)) ?_
          refine sr_nil ?_
          refine aw_keep (keep_cons (t := 4) rfl keep_nil) ?_
          refine aw_ret ?_
          show ∃ v H2, ResV _ _ _ _ _ _ v ∧ Sub H2 _ ∧ _
          exact ⟨_, H0, resV rfl (.cons rfl .nil), Sub.refl _, hcr⟩
        · refine sr_x rfl (wtd_none rfl) rfl (Rd.x (x_assign rfl)) ?_
          refine sr_nil ?_
          refine aw_keep (keep_cons (t := 0) rfl (keep_cons (t := 3) rfl (keep_cons (t := 4) rfl (keep_cons (t := 6) rfl (keep_cons (t := 35) rfl keep_nil))))) ?_
          refine aw_false rfl ?_
          refine aw_region ?_
          refine sr_cmp rfl (wtd_none rfl) rfl (Rd.x (x_eq rfl rfl)) (fun h5 => ?_) (fun h5 => ?_)
          · refine sr_x rfl (wtd_none rfl) rfl (Rd.x (x_assign rfl)) ?_
            refine sr_nil ?_
            show AW _ _ _ _ _ _ _
            refine aw_true rfl ?_
            refine aw_seq_region ?_
            refine sr_x rfl (wtd_none rfl) rfl (Rd.x (x_move rfl)) ?_
            refine sr_x rfl (wtd_none rfl) rfl (Rd.x (x_fieldAddr fd53_2 rfl)) ?_
            refine sr_x rfl (wtd_none rfl) rfl (Rd.x (x_load ag3 rfl (cells_ext (by repeat (first | exact List.mem_cons_self | apply List.mem_cons_of_mem | apply List.mem_append_right)) (by repeat (first | exact Ext.all _ | exact Ext.done | apply Ext.take | apply Ext.skip))))) ?_
            refine sr_x rfl (wtd_none rfl) rfl (Rd.x (x_fieldAddr fd53_3 rfl)) ?_
            refine sr_x rfl (wtd_none rfl) rfl (Rd.x (x_load ag2 rfl (cells_ext (by repeat (first | exact List.mem_cons_self | apply List.mem_cons_of_mem | apply List.mem_append_right)) (by repeat (first | exact Ext.all _ | exact Ext.done | apply Ext.take | apply Ext.skip))))) ?_
            refine sr_x rfl (wtd_none rfl) rfl (Rd.x (x_fieldAddr fd53_5 rfl)) ?_
            refine sr_x rfl (wtd_none rfl) rfl (Rd.x (x_load ag51 rfl (cells_ext (by repeat (first | exact List.mem_cons_self | apply List.mem_cons_of_mem | apply List.mem_append_right)) (by repeat (first | exact Ext.all _ | exact Ext.done | apply Ext.take | apply Ext.skip))))) ?_
            refine sr_d rfl (wtd_none rfl) rfl (opS_call rfl rfl rfl rfl cl98 (AC.sub (by repeat (first | exact Sub.refl _ | refine Sub.take (by repeat (first | exact Take.here | apply Take.there | apply Take.app)) ?_ | refine Sub.takeE (by repeat (first | exact TakeE.here | apply TakeE.there | apply TakeE.app)) ?_ | exact Sub.nil _ | apply Sub.drop | apply Sub.dropE)) (begin_f (G := G) V hg (by omega)))) ?_
            rintro v0 H0 hcr
            refine sr_x rfl (wtd_none rfl) rfl (Rd.x (x_assign rfl)) ?_
            refine sr_nil ?_
            refine aw_keep (keep_cons (t := 4) rfl keep_nil) ?_
            refine aw_ret ?_
            show ∃ v H2, ResV _ _ _ _ _ _ v ∧ Sub H2 _ ∧ _
            exact ⟨_, H0, resV rfl (.cons rfl .nil), Sub.refl _, hcr⟩
          · refine sr_x rfl (wtd_none rfl) rfl (Rd.x (x_assign rfl)) ?_
            refine sr_nil ?_
            show AW _ _ _ _ _ _ _
            refine aw_false rfl ?_
            refine aw_seq_region ?_
            refine sr_x rfl (wtd_none rfl) rfl (Rd.x (x_move rfl)) ?_
            refine sr_x rfl (wtd_none rfl) rfl (Rd.x (x_fieldAddr fd53_2 rfl)) ?_
            refine sr_x rfl (wtd_none rfl) rfl (Rd.x (x_load ag3 rfl (cells_ext (by repeat (first | exact List.mem_cons_self | apply List.mem_cons_of_mem | apply List.mem_append_right)) (by repeat (first | exact Ext.all _ | exact Ext.done | apply Ext.take | apply Ext.skip))))) ?_
            refine sr_x rfl (wtd_none rfl) rfl (Rd.x (x_fieldAddr fd53_4 rfl)) ?_
            refine sr_x rfl (wtd_none rfl) rfl (Rd.x (x_load ag3 rfl (cells_ext (by repeat (first | exact List.mem_cons_self | apply List.mem_cons_of_mem | apply List.mem_append_right)) (by repeat (first | exact Ext.all _ | exact Ext.done | apply Ext.take | apply Ext.skip))))) ?_
            refine sr_x rfl (wtd_none rfl) rfl (Rd.x (x_fieldAddr fd53_3 rfl)) ?_
            refine sr_x rfl (wtd_none rfl) rfl (Rd.x (x_load ag2 rfl (cells_ext (by repeat (first | exact List.mem_cons_self | apply List.mem_cons_of_mem | apply List.mem_append_right)) (by repeat (first | exact Ext.all _ | exact Ext.done | apply Ext.take | apply Ext.skip))))) ?_
            refine sr_d rfl (wtd_none rfl) rfl (opS_call rfl rfl rfl rfl cl35 (AC.sub (by repeat (first | exact Sub.refl _ | refine Sub.take (by repeat (first | exact Take.here | apply Take.there | apply Take.app)) ?_ | refine Sub.takeE (by repeat (first | exact TakeE.here | apply TakeE.there | apply TakeE.app)) ?_ | exact Sub.nil _ | apply Sub.drop | apply Sub.dropE)) (finish_f (G := G) V hjl (by omega)))) ?_
            rintro v0 H0 hcr
            refine sr_x rfl (wtd_none rfl) rfl (Rd.x (x_assign rfl)) ?_
            refine sr_nil ?_
            refine aw_keep (keep_cons (t := 4) rfl keep_nil) ?_
            refine aw_ret ?_
            show ∃ v H2, ResV _ _ _ _ _ _ v ∧ Sub H2 _ ∧ _
            exact ⟨_, H0, resV rfl (.cons rfl .nil), Sub.refl _, hcr⟩
end
end Go.Proofs.Yteilocpjikmmdaa
