/- In, Counts, Waiting and Copy: for any table. -/
import Derived.Test.YteilocpjikmmdaaJobSrt
namespace Go.Proofs.Yteilocpjikmmdaa
open Go.Proofs.Yteilocpjikmmdaa.Sym
open Go.RowKit (Below)
set_option linter.unusedVariables false
set_option linter.unusedSimpArgs false
def inB (ss : List Int) (j : Job) : Bool := decide (j.state ∈ ss)
def inP (a b : Int) (j : Job) : Bool := decide (j.state = a ∨ j.state = b)
theorem inP_two (a b : Int) : inP a b = inB [a, b] := by funext j; unfold inP inB; simp
theorem inP_one (a : Int) : inP a a = inB [a] := by funext j; unfold inP inB; simp
theorem inP_t {a b : Int} {j : Job} (h : j.state = a ∨ j.state = b) : inP a b j = true := decide_eq_true h
theorem inP_f {a b : Int} {j : Job} (h : ¬ (j.state = a ∨ j.state = b)) : inP a b j = false := decide_eq_false h
structure InG where
  k : Nat
  a : Option Addr
  cap : Nat
  E : SHeap
theorem all_oneJ (jobs : List Job) : (jobs.flatMap Job.cells).all oneCell = true := all_flat (fun _ => rfl) jobs
/-- Jobs stand at their ids. -/
def IdJ (jobs : List Job) : Prop := ∀ (k : Nat) (j : Job), jobs[k]? = some j → j.id = k + 1
theorem idJ_nil : IdJ [] := fun k j h => by simp at h
theorem SubmitR.ids {jobs : List Job} {r : Request} {a e : Int} {j1 : List Job} (h : SubmitR jobs r a e j1) (hg : IdJ jobs) : IdJ j1 := by
  rcases h with ⟨h1, rfl, rfl, rfl⟩ | ⟨h1, h2, rfl, rfl, rfl⟩ | ⟨h1, h2, rfl, rfl, rfl⟩
  · exact hg
  · exact hg
  · intro k j hj
    rw [List.getElem?_append] at hj
    split at hj
    · exact hg k j hj
    · next hk =>
      have hlt := get_lt hj
      rw [List.length_singleton] at hlt
      have e : k = jobs.length := by omega
      subst e
      rw [Nat.sub_self] at hj
      cases hj
      rfl
theorem stepJ_id {j j' : Job} {o : Op} (h : stepJ j o = some j') : j'.id = j.id := by
  unfold stepJ at h
  repeat' (first | (split at h) | (cases h; rfl) | cases h)
theorem TurnR.ids {jobs : List Job} {o : Op} {e : Int} {j1 : List Job} (h : TurnR jobs o e j1) (hg : IdJ jobs) : IdJ j1 := by
  rcases h with ⟨_, _, rfl⟩ | ⟨_, _, _, rfl⟩ | ⟨_, _, _, _, _, _, _, rfl⟩ | ⟨k, j, j', h1, _, h3, h4, _, rfl⟩
  · exact hg
  · exact hg
  · exact hg
  · intro i x hx
    rw [List.getElem?_set] at hx
    split at hx
    · next e =>
      subst e
      rw [if_pos (get_lt h3)] at hx
      cases hx
      rw [stepJ_id h4]; exact hg _ _ h3
    · exact hg _ _ hx
theorem idJ_dis {jobs : List Job} (h : IdJ jobs) : jobs.Pairwise (fun a b => a.id ≠ b.id) := by
  rw [List.pairwise_iff_getElem]
  intro i j hi hj hij
  have h1 := h i _ (List.getElem?_eq_getElem hi)
  have h2 := h j _ (List.getElem?_eq_getElem hj)
  omega
/-- What is told of those who wait. -/
theorem wait_ok {jobs W : List Job} (hid : IdJ jobs) (hst : St cmpJ (jobs.filter (inP 1 1)) W) (hsr : SrtI cmpJ W 0 (jobs.filter (inP 1 1)).length) :
    (∀ x ∈ W, x ∈ jobs ∧ x.state = 1) ∧ ∀ (i : Nat) (x y : Job), W[i + 1]? = some x → W[i]? = some y → ¬ (y.prio < x.prio) ∧ (y.prio = x.prio → ¬ x.id ≤ y.id) := by
  have hmem : ∀ x ∈ W, x ∈ jobs ∧ x.state = 1 := fun x hx => by
    have h1 := hst.1.mem_iff.1 hx
    rw [List.mem_filter] at h1
    refine ⟨h1.1, ?_⟩
    have := of_decide_eq_true h1.2
    omega
  refine ⟨hmem, fun i x y hx hy => ?_⟩
  have hl := hst.1.length_eq
  have hlt := get_lt hx
  have hs := hsr.pairwise (by omega)
  have hi := get_lt hy
  have h1 := (List.pairwise_iff_getElem.1 hs) i (i + 1) hi hlt (by omega)
  have hdis : W.Pairwise (fun a b => a.id ≠ b.id) := (hst.1.pairwise_iff (fun {a b} h => Ne.symm h)).2 ((idJ_dis hid).sublist List.filter_sublist)
  have h2 := (List.pairwise_iff_getElem.1 hdis) i (i + 1) hi hlt (by omega)
  rw [List.getElem?_eq_getElem hlt] at hx
  rw [List.getElem?_eq_getElem hi] at hy
  cases hx; cases hy
  rw [cmpJ_lt] at h1
  unfold ahead at h1
  omega
structure PG2 where
  i : Nat
  aT : Option Addr
  cT : Nat
  aP : Option Addr
  cP : Nat
  jobs : List Job
  ET : SHeap
  EP : SHeap
theorem cl122 : Callable Try.prog 122 := ⟨Try.f122, Try.func122, by kernel_rfl, by kernel_rfl⟩
theorem cl142 : Callable Try.prog 142 := ⟨Try.f142, Try.func142, by kernel_rfl, by kernel_rfl⟩
theorem cl40 : Callable Try.prog 40 := ⟨Try.f40, Try.func40, by kernel_rfl, by kernel_rfl⟩
theorem cl74 : Callable Try.prog 74 := ⟨Try.f74, Try.func74, by kernel_rfl, by kernel_rfl⟩
section
variable {W0 : World}
set_option maxRecDepth 100000 in
set_option maxHeartbeats 400000 in
theorem in_s (p : Nat) (a : Option Addr) (cap : Nat) (jobs : List Job) (live : Int) (H : SHeap) (hc : Cells W0 H p 0 (tabC (.slice a jobs.length cap) live)) (hs : SlV W0 H 10 Job.cells a cap jobs) (hjl : jobs.length ≤ 1000000) (sb sn sc : Nat) (ss : List Int) (f : Job → Bool) (hf : f = inB ss) (hn : sn = ss.length) (hm : sn ≤ 1000000) (hcs : Cells W0 H sb 0 (ss.map (.int .i64))) : AC Try.prog W0 74 [.pointer (some ⟨p, 0, none⟩), .slice (some ⟨sb, 0, none⟩) sn sc] H (fun v H' => ∃ a2 cap2 E2, v = .slice a2 (jobs.filter f).length cap2 ∧ OwnVec 10 91 (.slice a2 (jobs.filter f).length cap2) (jobs.filter f).length ((jobs.filter f).flatMap Job.cells) E2 ∧ H' = E2 ++ H) := by
  refine ac_of Try.func74 rfl rfl rfl ?_
  refine aw_seq_region ?_
  refine sr_x rfl (wtd_none rfl) rfl (Rd.x (x_assign rfl)) ?_
  refine sr_nil ?_
  refine aw_keep (keep_cons (t := 0) rfl (keep_cons (t := 1) rfl (keep_cons (t := 4) rfl keep_nil))) ?_
  refine aw_seq_region ?_
  refine sr_x rfl (wtd_none rfl) rfl (Rd.x (x_assign rfl)) ?_
  refine sr_nil ?_
  refine aw_keep (keep_cons (t := 0) rfl (keep_cons (t := 1) rfl (keep_cons (t := 4) rfl (keep_cons (t := 5) rfl keep_nil)))) ?_
  refine aw_seq ?_
  refine aw_seq_region ?_
  refine sr_x rfl (wtd_none rfl) rfl (Rd.x (x_move rfl)) ?_
  refine sr_d rfl (wtd_none rfl) rfl (opS_call rfl rfl rfl rfl cl40 (all_s p a cap jobs live _ (Cells.mono hc (by repeat (first | exact Sub.refl _ | apply Sub.drop | apply Sub.dropE))) (hs.mono (by repeat (first | exact Sub.refl _ | apply Sub.drop | apply Sub.dropE))) (by omega))) ?_
  rintro _ _ ⟨E9, ⟨a9, c9, V9, rfl⟩, rfl⟩
  have hle := (V9.slv' (W0 := W0) (fun _ => rfl) rfl (Sub.refl _)).le
  have hcb := (V9.slv' (W0 := W0) (fun _ => rfl) rfl (Sub.refl _)).capb
  refine sr_x rfl (wtd_none rfl) rfl (Rd.x (x_lenSlice Try.underlying22 rfl)) ?_
  refine sr_x rfl (wtd_none rfl) rfl (Rd.x (x_move rfl)) ?_
  refine sr_nil ?_
  refine aw_keep (keep_cons (t := 1) rfl (keep_cons (t := 4) rfl (keep_cons (t := 5) rfl (keep_cons (t := 9) rfl (keep_cons (t := 10) rfl (keep_cons (t := 11) rfl keep_nil)))))) ?_
  refine aw_block ?_
  refine aw_loop (ι := InG) (fun s => s.k ≤ jobs.length ∧ OwnVec 10 91 (.slice s.a (kept f jobs s.k).length s.cap) (kept f jobs s.k).length ((kept f jobs s.k).flatMap Job.cells) s.E) (fun s => [(1, .slice (some ⟨sb, 0, none⟩) sn sc), (4, .slice none 0 0), (5, .slice s.a (kept f jobs s.k).length s.cap), (9, .slice a9 jobs.length c9), (10, .int .i64 jobs.length), (11, .int .i64 s.k)]) (fun s => s.E ++ (E9 ++ H)) (fun s => jobs.length - s.k) ⟨0, none, 0, []⟩ (⟨Nat.zero_le _, .nil⟩) (by (repeat (first | exact keep_nil | refine keep_cons rfl ?_)); first | done | fail) (by repeat (first | exact Sub.refl _ | refine Sub.take (by repeat (first | exact Take.here | apply Take.there | apply Take.app)) ?_ | refine Sub.takeE (by repeat (first | exact TakeE.here | apply TakeE.there | apply TakeE.app)) ?_ | exact Sub.nil _ | apply Sub.drop | apply Sub.dropE)) ?_
  intro s hs9
  obtain ⟨k, a1, c1, E⟩ := s
  dsimp only at hs9 ⊢
  obtain ⟨hk, V⟩ := hs9
  have hkl := kept_len (p := f) (xs := jobs) (k := k)
  refine aw_seq_region ?_
  refine sr_cmp rfl (wtd_none rfl) rfl (Rd.x (x_lt rfl rfl)) (fun h1 => ?_) (fun h1 => ?_)
  · refine sr_nil ?_
    refine aw_keep (keep_cons (t := 1) rfl (keep_cons (t := 4) rfl (keep_cons (t := 5) rfl (keep_cons (t := 9) rfl (keep_cons (t := 10) rfl (keep_cons (t := 11) rfl (keep_cons (t := 12) rfl keep_nil))))))) ?_
    refine aw_seq ?_
    refine aw_true rfl ?_
    refine aw_skip ?_
    show AW _ _ _ _ _ _ _
    refine aw_seq ?_
    refine aw_block ?_
    refine aw_seq_region ?_
    obtain ⟨j, hj⟩ := get_ex (show k < jobs.length by omega)
    obtain ⟨bj, oj, haj, hcj⟩ := (V9.slv' (W0 := W0) (fun _ => rfl) rfl (Sub.refl _)).at_ k _ hj
    refine sr_x rfl (wtd_none rfl) rfl (Rd.x (x_indexAddrN (k) Try.underlying22 sz91 rfl haj rfl (by omega) (by omega))) ?_
    refine sr_x rfl (wtd_none rfl) rfl (Rd.x (x_loadN ag91 sz91 rfl (Cells.mono hcj (Sub.takeE0 (by repeat (first | exact TakeE.here | apply TakeE.there | apply TakeE.app)))) rfl)) ?_
    refine sr_new rfl (wtd_none rfl) rfl (x_alloc zr91 rfl) ?_
    intro r4_2 hr4_2 gr4_2
    refine sr_x0 rfl (wtd_none rfl) (x_store sz91 rfl rfl rfl rfl rfl (by repeat (first | exact Repl.here | apply Repl.there | apply Repl.app)) (by repeat (first | exact Spl.done | exact Spl.all rfl | apply Spl.put | apply Spl.skip))) ?_
    refine sr_nil ?_
    refine aw_keep (keep_cons (t := 1) rfl (keep_cons (t := 4) rfl (keep_cons (t := 5) rfl (keep_cons (t := 7) rfl (keep_cons (t := 9) rfl (keep_cons (t := 10) rfl (keep_cons (t := 11) rfl (keep_cons (t := 12) rfl (keep_cons (t := 13) rfl (keep_cons (t := 14) rfl keep_nil)))))))))) ?_
    refine aw_seq_region ?_
    refine sr_x rfl (wtd_none rfl) rfl (Rd.x (x_move rfl)) ?_
    refine sr_x rfl (wtd_none rfl) rfl (Rd.x (x_fieldAddr fd91_5 rfl)) ?_
    refine sr_x rfl (wtd_none rfl) rfl (Rd.x (x_load ag3 rfl (cells_ext (by repeat (first | exact List.mem_cons_self | apply List.mem_cons_of_mem | apply List.mem_append_right)) (by repeat (first | exact Ext.all _ | exact Ext.done | apply Ext.take | apply Ext.skip))))) ?_
    refine sr_d rfl (wtd_none rfl) rfl (opS_call rfl rfl rfl rfl cl121 (contains2_s sb sn sc ss j.state _ hn hm (Cells.mono hcs (by repeat (first | exact Sub.refl _ | apply Sub.drop | apply Sub.dropE))))) ?_
    rintro _ H9 ⟨⟨c0, rfl, hc0⟩, rfl⟩
    cases c0
    · refine sr_nil ?_
      refine aw_keep (keep_cons (t := 1) rfl (keep_cons (t := 4) rfl (keep_cons (t := 5) rfl (keep_cons (t := 7) rfl (keep_cons (t := 9) rfl (keep_cons (t := 10) rfl (keep_cons (t := 11) rfl (keep_cons (t := 12) rfl (keep_cons (t := 13) rfl (keep_cons (t := 14) rfl (keep_cons (t := 15) rfl (keep_cons (t := 16) rfl (keep_cons (t := 17) rfl (keep_cons (t := 18) rfl keep_nil)))))))))))))) ?_
      refine aw_false rfl ?_
      refine aw_skip ?_
      show AW _ _ _ _ _ _ _
      refine aw_region ?_
      refine sr_x rfl (wtd_none rfl) rfl (Rd.x (x_add' rfl rfl (i64w (by omega) (by omega)))) ?_
      refine sr_x rfl (wtd_none rfl) rfl (Rd.x (x_move rfl)) ?_
      refine sr_nil ?_
      show ∃ s', _ ∧ _ ∧ _ ∧ _
      first | exact ⟨⟨k + 1, a22, cap22, E22⟩, ⟨by dsimp only; omega, (by dsimp only; rw [kept_yes hj ((by rw [hf]; exact decide_eq_true (hc0.1 rfl)))]; exact OwnVec.snocS hV22)⟩, by dsimp only; omega, (by dsimp only; rw [kept_yes hj ((by rw [hf]; exact decide_eq_true (hc0.1 rfl))), List.length_append]; exact (by (repeat (first | exact keep_nil | refine keep_cons rfl ?_)); first | done | fail)), (by (repeat (first | exact Sub.refl _ | refine Sub.take (by repeat (first | exact Take.here | apply Take.there | apply Take.app)) ?_ | refine Sub.takeE (by repeat (first | exact TakeE.here | apply TakeE.there | apply TakeE.app)) ?_ | exact Sub.nil _ | apply Sub.drop | apply Sub.dropE)); first | done | fail)⟩ | exact ⟨⟨k + 1, a1, c1, E⟩, ⟨by dsimp only; omega, (by dsimp only; rw [kept_no hj ((by rw [hf]; exact decide_eq_false (fun h => nomatch hc0.2 h)))]; exact V)⟩, by dsimp only; omega, (by dsimp only; rw [kept_no hj ((by rw [hf]; exact decide_eq_false (fun h => nomatch hc0.2 h)))]; exact (by (repeat (first | exact keep_nil | refine keep_cons rfl ?_)); first | done | fail)), (by (repeat (first | exact Sub.refl _ | refine Sub.take (by repeat (first | exact Take.here | apply Take.there | apply Take.app)) ?_ | refine Sub.takeE (by repeat (first | exact TakeE.here | apply TakeE.there | apply TakeE.app)) ?_ | exact Sub.nil _ | apply Sub.drop | apply Sub.dropE)); first | done | fail)⟩
    · refine sr_nil ?_
      refine aw_keep (keep_cons (t := 1) rfl (keep_cons (t := 4) rfl (keep_cons (t := 5) rfl (keep_cons (t := 7) rfl (keep_cons (t := 9) rfl (keep_cons (t := 10) rfl (keep_cons (t := 11) rfl (keep_cons (t := 12) rfl (keep_cons (t := 13) rfl (keep_cons (t := 14) rfl (keep_cons (t := 15) rfl (keep_cons (t := 16) rfl (keep_cons (t := 17) rfl (keep_cons (t := 18) rfl keep_nil)))))))))))))) ?_
      refine aw_true rfl ?_
      refine aw_region ?_
      refine sr_x rfl (wtd_none rfl) rfl (Rd.x (x_move rfl)) ?_
      refine sr_x rfl (wtd_none rfl) rfl (Rd.x (x_loadN ag91 sz91 rfl (cells_ext (by repeat (first | exact List.mem_cons_self | apply List.mem_cons_of_mem | apply List.mem_append_right)) (by repeat (first | exact Ext.all _ | exact Ext.done | apply Ext.take | apply Ext.skip))) rfl)) ?_
      refine sr_new rfl (wtd_none rfl) rfl (x_buildSlice Try.underlying22 sz91 zr91 rfl rfl rfl rfl (by repeat (first | exact Parts.nil | (apply Parts.cons; rfl))) (by repeat (first | exact Fill.done | (apply Fill.part; rfl; rfl; rfl; focus (repeat (first | exact Spl.done | exact Spl.all rfl | apply Spl.put | apply Spl.skip)))))) ?_
      intro r6_2 hr6_2 gr6_2
      refine sr_d rfl (wtd_none rfl) rfl (opS_append (G := E9 ++ H) (N := j.cells) (m := 1) Try.underlying22 sz91 zr91 rfl by91 rfl rfl V (by repeat (first | exact Sub.refl _ | refine Sub.take (by repeat (first | exact Take.here | apply Take.there | apply Take.app)) ?_ | refine Sub.takeE (by repeat (first | exact TakeE.here | apply TakeE.there | apply TakeE.app)) ?_ | exact Sub.nil _ | apply Sub.drop | apply Sub.dropE)) (.inr ⟨_, _, rfl, (cells_ext (by repeat (first | exact List.mem_cons_self | apply List.mem_cons_of_mem | apply List.mem_append_right)) (by repeat (first | exact Ext.all _ | exact Ext.done | apply Ext.take | apply Ext.skip)))⟩) (rfl) rfl (by omega) (by omega)) ?_
      rintro v22 _ ⟨E22, hV22, rfl⟩
      obtain ⟨a22, cap22, rfl⟩ := hV22.isSl
      refine sr_x rfl (wtd_none rfl) rfl (Rd.x (x_assign rfl)) ?_
      refine sr_nil ?_
      show AW _ _ _ _ _ _ _
      refine aw_region ?_
      refine sr_x rfl (wtd_none rfl) rfl (Rd.x (x_add' rfl rfl (i64w (by omega) (by omega)))) ?_
      refine sr_x rfl (wtd_none rfl) rfl (Rd.x (x_move rfl)) ?_
      refine sr_nil ?_
      show ∃ s', _ ∧ _ ∧ _ ∧ _
      first | exact ⟨⟨k + 1, a22, cap22, E22⟩, ⟨by dsimp only; omega, (by dsimp only; rw [kept_yes hj ((by rw [hf]; exact decide_eq_true (hc0.1 rfl)))]; exact OwnVec.snocS hV22)⟩, by dsimp only; omega, (by dsimp only; rw [kept_yes hj ((by rw [hf]; exact decide_eq_true (hc0.1 rfl))), List.length_append]; exact (by (repeat (first | exact keep_nil | refine keep_cons rfl ?_)); first | done | fail)), (by (repeat (first | exact Sub.refl _ | refine Sub.take (by repeat (first | exact Take.here | apply Take.there | apply Take.app)) ?_ | refine Sub.takeE (by repeat (first | exact TakeE.here | apply TakeE.there | apply TakeE.app)) ?_ | exact Sub.nil _ | apply Sub.drop | apply Sub.dropE)); first | done | fail)⟩ | exact ⟨⟨k + 1, a1, c1, E⟩, ⟨by dsimp only; omega, (by dsimp only; rw [kept_no hj ((by rw [hf]; exact decide_eq_false (fun h => nomatch hc0.2 h)))]; exact V)⟩, by dsimp only; omega, (by dsimp only; rw [kept_no hj ((by rw [hf]; exact decide_eq_false (fun h => nomatch hc0.2 h)))]; exact (by (repeat (first | exact keep_nil | refine keep_cons rfl ?_)); first | done | fail)), (by (repeat (first | exact Sub.refl _ | refine Sub.take (by repeat (first | exact Take.here | apply Take.there | apply Take.app)) ?_ | refine Sub.takeE (by repeat (first | exact TakeE.here | apply TakeE.there | apply TakeE.app)) ?_ | exact Sub.nil _ | apply Sub.drop | apply Sub.dropE)); first | done | fail)⟩
  · refine sr_nil ?_
    refine aw_keep (keep_cons (t := 1) rfl (keep_cons (t := 4) rfl (keep_cons (t := 5) rfl (keep_cons (t := 9) rfl (keep_cons (t := 10) rfl (keep_cons (t := 11) rfl (keep_cons (t := 12) rfl keep_nil))))))) ?_
    refine aw_seq ?_
    refine aw_false rfl ?_
    refine aw_exit ?_
    show AW _ _ _ _ _ _ _
    refine aw_seq_region ?_
    refine sr_x rfl (wtd_none rfl) rfl (Rd.x (x_move rfl)) ?_
    refine sr_x rfl (wtd_none rfl) rfl (Rd.x (x_assign rfl)) ?_
    refine sr_nil ?_
    refine aw_keep (keep_cons (t := 4) rfl keep_nil) ?_
    refine aw_ret ?_
    show ∃ v H2, ResV _ _ _ _ _ _ v ∧ Sub H2 _ ∧ _
    first | (have hke := kept_all (p := f) (xs := jobs) (k := k) (by omega); rw [hke] at V; exact ⟨_, E ++ H, resV rfl (.cons rfl .nil), (by repeat (first | exact Sub.refl _ | refine Sub.take (by repeat (first | exact Take.here | apply Take.there | apply Take.app)) ?_ | refine Sub.takeE (by repeat (first | exact TakeE.here | apply TakeE.there | apply TakeE.app)) ?_ | exact Sub.nil _ | apply Sub.drop | apply Sub.dropE)), a1, c1, E, (by rw [hke]; rfl), V, rfl⟩)
set_option maxRecDepth 100000 in
set_option maxHeartbeats 400000 in
theorem pin_s (q : Nat) (a : Option Addr) (cap : Nat) (jobs : List Job) (H : SHeap) (hc : Cells W0 H q 0 [.slice a jobs.length cap]) (hs : SlV W0 H 10 Job.cells a cap jobs) (hjl : jobs.length ≤ 1000000) (x y : Int) : AC Try.prog W0 75 [.pointer (some ⟨q, 0, none⟩), .int .i64 x, .int .i64 y] H (fun v H' => ∃ a2 cap2 E2, v = .slice a2 (jobs.filter (inP x y)).length cap2 ∧ OwnVec 10 91 (.slice a2 (jobs.filter (inP x y)).length cap2) (jobs.filter (inP x y)).length ((jobs.filter (inP x y)).flatMap Job.cells) E2 ∧ H' = E2 ++ H) := by
  have hle := hs.le
  have hcb := hs.capb
  refine ac_of Try.func75 rfl rfl rfl ?_
  refine aw_seq_region ?_
  refine sr_x rfl (wtd_none rfl) rfl (Rd.x (x_assign rfl)) ?_
  refine sr_nil ?_
  refine aw_keep (keep_cons (t := 0) rfl (keep_cons (t := 1) rfl (keep_cons (t := 2) rfl (keep_cons (t := 6) rfl keep_nil)))) ?_
  refine aw_seq_region ?_
  refine sr_x rfl (wtd_none rfl) rfl (Rd.x (x_assign rfl)) ?_
  refine sr_nil ?_
  refine aw_keep (keep_cons (t := 0) rfl (keep_cons (t := 1) rfl (keep_cons (t := 2) rfl (keep_cons (t := 6) rfl (keep_cons (t := 7) rfl keep_nil))))) ?_
  refine aw_seq ?_
  refine aw_seq_region ?_
  refine sr_x rfl (wtd_none rfl) rfl (Rd.x (x_assign rfl)) ?_
  refine sr_nil ?_
  refine aw_keep (keep_cons (t := 0) rfl (keep_cons (t := 1) rfl (keep_cons (t := 2) rfl (keep_cons (t := 6) rfl (keep_cons (t := 7) rfl (keep_cons (t := 8) rfl keep_nil)))))) ?_
  refine aw_block ?_
  refine aw_loop (ι := InG) (fun s => s.k ≤ jobs.length ∧ OwnVec 10 91 (.slice s.a (kept (inP x y) jobs s.k).length s.cap) (kept (inP x y) jobs s.k).length ((kept (inP x y) jobs s.k).flatMap Job.cells) s.E) (fun s => [(0, .pointer (some ⟨q, 0, none⟩)), (1, .int .i64 x), (2, .int .i64 y), (6, .slice none 0 0), (7, .slice s.a (kept (inP x y) jobs s.k).length s.cap), (8, .int .i64 s.k)]) (fun s => s.E ++ H) (fun s => jobs.length - s.k) ⟨0, none, 0, []⟩ (⟨Nat.zero_le _, .nil⟩) (by (repeat (first | exact keep_nil | refine keep_cons rfl ?_)); first | done | fail) (by repeat (first | exact Sub.refl _ | refine Sub.take (by repeat (first | exact Take.here | apply Take.there | apply Take.app)) ?_ | refine Sub.takeE (by repeat (first | exact TakeE.here | apply TakeE.there | apply TakeE.app)) ?_ | exact Sub.nil _ | apply Sub.drop | apply Sub.dropE)) ?_
  intro s hs9
  obtain ⟨k, a1, c1, E⟩ := s
  dsimp only at hs9 ⊢
  obtain ⟨hk, V⟩ := hs9
  have hkl := kept_len (p := (inP x y)) (xs := jobs) (k := k)
  refine aw_seq ?_
  refine aw_seq_region ?_
  refine sr_x rfl (wtd_none rfl) rfl (Rd.x (x_move rfl)) ?_
  refine sr_x rfl (wtd_none rfl) rfl (Rd.x (x_move rfl)) ?_
  refine sr_x rfl (wtd_none rfl) rfl (Rd.x (x_nilCheck rfl)) ?_
  refine sr_x rfl (wtd_none rfl) rfl (Rd.x (x_fieldAddr fd50_0 rfl)) ?_
  refine sr_x rfl (wtd_none rfl) rfl (Rd.x (x_load ag22 rfl (cells_get (Cells.mono hc (by repeat (first | exact Sub.refl _ | apply Sub.drop | apply Sub.dropE))) 0 rfl))) ?_
  refine sr_x rfl (wtd_none rfl) rfl (Rd.x (x_lenSlice Try.underlying22 rfl)) ?_
  refine sr_cmp rfl (wtd_none rfl) rfl (Rd.x (x_lt rfl rfl)) (fun h1 => ?_) (fun h1 => ?_)
  · refine sr_nil ?_
    refine aw_keep (keep_cons (t := 0) rfl (keep_cons (t := 1) rfl (keep_cons (t := 2) rfl (keep_cons (t := 6) rfl (keep_cons (t := 7) rfl (keep_cons (t := 8) rfl (keep_cons (t := 9) rfl (keep_cons (t := 10) rfl (keep_cons (t := 11) rfl (keep_cons (t := 12) rfl (keep_cons (t := 13) rfl (keep_cons (t := 14) rfl (keep_cons (t := 15) rfl keep_nil))))))))))))) ?_
    refine aw_true rfl ?_
    refine aw_skip ?_
    show AW _ _ _ _ _ _ _
    refine aw_seq ?_
    refine aw_block ?_
    refine aw_seq_region ?_
    obtain ⟨j, hj⟩ := get_ex (show k < jobs.length by omega)
    obtain ⟨bj, oj, haj, hcj⟩ := hs.at_ k _ hj
    refine sr_x rfl (wtd_none rfl) rfl (Rd.x (x_move rfl)) ?_
    refine sr_x rfl (wtd_none rfl) rfl (Rd.x (x_nilCheck rfl)) ?_
    refine sr_x rfl (wtd_none rfl) rfl (Rd.x (x_fieldAddr fd50_0 rfl)) ?_
    refine sr_x rfl (wtd_none rfl) rfl (Rd.x (x_load ag22 rfl (cells_get (Cells.mono hc (by repeat (first | exact Sub.refl _ | apply Sub.drop | apply Sub.dropE))) 0 rfl))) ?_
    refine sr_x rfl (wtd_none rfl) rfl (Rd.x (x_move rfl)) ?_
    refine sr_x rfl (wtd_none rfl) rfl (Rd.x (x_indexAddrN (k) Try.underlying22 sz91 rfl haj rfl (by omega) (by omega))) ?_
    refine sr_x rfl (wtd_none rfl) rfl (Rd.x (x_fieldAddr fd91_5 rfl)) ?_
    refine sr_x rfl (wtd_none rfl) rfl (Rd.x (x_load ag3 rfl (cells_get (Cells.mono hcj (by repeat (first | exact Sub.refl _ | apply Sub.drop | apply Sub.dropE))) 5 rfl))) ?_
    refine sr_x rfl (wtd_none rfl) rfl (Rd.x (x_move rfl)) ?_
    refine sr_cmp rfl (wtd_none rfl) rfl (Rd.x (x_eq rfl rfl)) (fun h2 => ?_) (fun h2 => ?_)
    · refine sr_x rfl (wtd_none rfl) rfl (Rd.x (x_move rfl)) ?_
      refine sr_skip rfl (wtd_no rfl rfl rfl rfl) rfl ?_
      refine sr_skip rfl (wtd_no rfl rfl rfl rfl) rfl ?_
      refine sr_skip rfl (wtd_no rfl rfl rfl rfl) rfl ?_
      refine sr_skip rfl (wtd_no rfl rfl rfl rfl) rfl ?_
      refine sr_skip rfl (wtd_no rfl rfl rfl rfl) rfl ?_
      refine sr_skip rfl (wtd_no rfl rfl rfl rfl) rfl ?_
      refine sr_skip rfl (wtd_no rfl rfl rfl rfl) rfl ?_
      refine sr_skip rfl (wtd_no rfl rfl rfl rfl) rfl ?_
      refine sr_skip rfl (wtd_no rfl rfl rfl rfl) rfl ?_
      refine sr_skip rfl (wtd_no rfl rfl rfl rfl) rfl ?_
      refine sr_x rfl (wtd_none rfl) rfl (Rd.x (x_pick_t rfl rfl rfl)) ?_
      refine sr_nil ?_
      refine aw_keep (keep_cons (t := 0) rfl (keep_cons (t := 1) rfl (keep_cons (t := 2) rfl (keep_cons (t := 6) rfl (keep_cons (t := 7) rfl (keep_cons (t := 8) rfl (keep_cons (t := 9) rfl (keep_cons (t := 10) rfl (keep_cons (t := 11) rfl (keep_cons (t := 12) rfl (keep_cons (t := 13) rfl (keep_cons (t := 14) rfl (keep_cons (t := 15) rfl (keep_cons (t := 18) rfl (keep_cons (t := 19) rfl (keep_cons (t := 20) rfl (keep_cons (t := 21) rfl (keep_cons (t := 22) rfl (keep_cons (t := 23) rfl (keep_cons (t := 24) rfl (keep_cons (t := 25) rfl (keep_cons (t := 26) rfl (keep_cons (t := 27) rfl (keep_cons (t := 28) rfl (keep_cons (t := 29) rfl (keep_cons (t := 30) rfl (keep_cons (t := 31) rfl (keep_cons (t := 32) rfl (keep_cons (t := 33) rfl (keep_cons (t := 34) rfl (keep_cons (t := 35) rfl (keep_cons (t := 36) rfl (keep_cons (t := 37) rfl (keep_cons (t := 38) rfl (keep_cons (t := 39) rfl keep_nil))))))))))))))))))))))))))))))))))) ?_
      refine aw_true rfl ?_
      refine aw_region ?_
      refine sr_x rfl (wtd_none rfl) rfl (Rd.x (x_move rfl)) ?_
      refine sr_x rfl (wtd_none rfl) rfl (Rd.x (x_move rfl)) ?_
      refine sr_x rfl (wtd_none rfl) rfl (Rd.x (x_nilCheck rfl)) ?_
      refine sr_x rfl (wtd_none rfl) rfl (Rd.x (x_fieldAddr fd50_0 rfl)) ?_
      refine sr_x rfl (wtd_none rfl) rfl (Rd.x (x_load ag22 rfl (cells_get (Cells.mono hc (by repeat (first | exact Sub.refl _ | apply Sub.drop | apply Sub.dropE))) 0 rfl))) ?_
      refine sr_x rfl (wtd_none rfl) rfl (Rd.x (x_move rfl)) ?_
      refine sr_x rfl (wtd_none rfl) rfl (Rd.x (x_indexAddrN (k) Try.underlying22 sz91 rfl haj rfl (by omega) (by omega))) ?_
      refine sr_x rfl (wtd_none rfl) rfl (Rd.x (x_loadN ag91 sz91 rfl (Cells.mono hcj (by repeat (first | exact Sub.refl _ | apply Sub.drop | apply Sub.dropE))) rfl)) ?_
      refine sr_new rfl (wtd_none rfl) rfl (x_buildSlice Try.underlying22 sz91 zr91 rfl rfl rfl rfl (by repeat (first | exact Parts.nil | (apply Parts.cons; rfl))) (by repeat (first | exact Fill.done | (apply Fill.part; rfl; rfl; rfl; focus (repeat (first | exact Spl.done | exact Spl.all rfl | apply Spl.put | apply Spl.skip)))))) ?_
      intro r6_8 hr6_8 gr6_8
      refine sr_d rfl (wtd_none rfl) rfl (opS_append (G := H) (N := j.cells) (m := 1) Try.underlying22 sz91 zr91 rfl by91 rfl rfl V (by repeat (first | exact Sub.refl _ | refine Sub.take (by repeat (first | exact Take.here | apply Take.there | apply Take.app)) ?_ | refine Sub.takeE (by repeat (first | exact TakeE.here | apply TakeE.there | apply TakeE.app)) ?_ | exact Sub.nil _ | apply Sub.drop | apply Sub.dropE)) (.inr ⟨_, _, rfl, (cells_ext (by repeat (first | exact List.mem_cons_self | apply List.mem_cons_of_mem | apply List.mem_append_right)) (by repeat (first | exact Ext.all _ | exact Ext.done | apply Ext.take | apply Ext.skip)))⟩) (rfl) rfl (by omega) (by omega)) ?_
      rintro v49 _ ⟨E49, hV49, rfl⟩
      obtain ⟨a49, cap49, rfl⟩ := hV49.isSl
      refine sr_x rfl (wtd_none rfl) rfl (Rd.x (x_assign rfl)) ?_
      refine sr_nil ?_
      show AW _ _ _ _ _ _ _
      refine aw_region ?_
      refine sr_x rfl (wtd_none rfl) rfl (Rd.x (x_move rfl)) ?_
      refine sr_x rfl (wtd_none rfl) rfl (Rd.x (x_add' rfl rfl (i64w (by omega) (by omega)))) ?_
      refine sr_x rfl (wtd_none rfl) rfl (Rd.x (x_assign rfl)) ?_
      refine sr_nil ?_
      show ∃ s', _ ∧ _ ∧ _ ∧ _
      first | exact ⟨⟨k + 1, a49, cap49, E49⟩, ⟨by dsimp only; omega, (by dsimp only; rw [kept_yes hj ((inP_t (by omega)))]; exact OwnVec.snocS hV49)⟩, by dsimp only; omega, (by dsimp only; rw [kept_yes hj ((inP_t (by omega))), List.length_append]; exact (by (repeat (first | exact keep_nil | refine keep_cons rfl ?_)); first | done | fail)), (by (repeat (first | exact Sub.refl _ | refine Sub.take (by repeat (first | exact Take.here | apply Take.there | apply Take.app)) ?_ | refine Sub.takeE (by repeat (first | exact TakeE.here | apply TakeE.there | apply TakeE.app)) ?_ | exact Sub.nil _ | apply Sub.drop | apply Sub.dropE)); first | done | fail)⟩ | exact ⟨⟨k + 1, a1, c1, E⟩, ⟨by dsimp only; omega, (by dsimp only; rw [kept_no hj ((inP_f (by omega)))]; exact V)⟩, by dsimp only; omega, (by dsimp only; rw [kept_no hj ((inP_f (by omega)))]; exact (by (repeat (first | exact keep_nil | refine keep_cons rfl ?_)); first | done | fail)), (by (repeat (first | exact Sub.refl _ | refine Sub.take (by repeat (first | exact Take.here | apply Take.there | apply Take.app)) ?_ | refine Sub.takeE (by repeat (first | exact TakeE.here | apply TakeE.there | apply TakeE.app)) ?_ | exact Sub.nil _ | apply Sub.drop | apply Sub.dropE)); first | done | fail)⟩
    · refine sr_x rfl (wtd_none rfl) rfl (Rd.x (x_move rfl)) ?_
      refine sr_x rfl (wtd_yes rfl rfl rfl) rfl (Rd.x (x_move rfl)) ?_
      refine sr_x rfl (wtd_yes rfl rfl rfl) rfl (Rd.x (x_nilCheck rfl)) ?_
      refine sr_x rfl (wtd_yes rfl rfl rfl) rfl (Rd.x (x_fieldAddr fd50_0 rfl)) ?_
      refine sr_x rfl (wtd_yes rfl rfl rfl) rfl (Rd.x (x_load ag22 rfl (cells_get (Cells.mono hc (by repeat (first | exact Sub.refl _ | apply Sub.drop | apply Sub.dropE))) 0 rfl))) ?_
      refine sr_x rfl (wtd_yes rfl rfl rfl) rfl (Rd.x (x_move rfl)) ?_
      refine sr_x rfl (wtd_yes rfl rfl rfl) rfl (Rd.x (x_indexAddrN (k) Try.underlying22 sz91 rfl haj rfl (by omega) (by omega))) ?_
      refine sr_x rfl (wtd_yes rfl rfl rfl) rfl (Rd.x (x_fieldAddr fd91_5 rfl)) ?_
      refine sr_x rfl (wtd_yes rfl rfl rfl) rfl (Rd.x (x_load ag3 rfl (cells_get (Cells.mono hcj (by repeat (first | exact Sub.refl _ | apply Sub.drop | apply Sub.dropE))) 5 rfl))) ?_
      refine sr_x rfl (wtd_yes rfl rfl rfl) rfl (Rd.x (x_move rfl)) ?_
      refine sr_cmp rfl (wtd_yes rfl rfl rfl) rfl (Rd.x (x_eq rfl rfl)) (fun h3 => ?_) (fun h3 => ?_)
      · refine sr_x rfl (wtd_none rfl) rfl (Rd.x (x_pick_f rfl rfl rfl)) ?_
        refine sr_nil ?_
        refine aw_keep (keep_cons (t := 0) rfl (keep_cons (t := 1) rfl (keep_cons (t := 2) rfl (keep_cons (t := 6) rfl (keep_cons (t := 7) rfl (keep_cons (t := 8) rfl (keep_cons (t := 9) rfl (keep_cons (t := 10) rfl (keep_cons (t := 11) rfl (keep_cons (t := 12) rfl (keep_cons (t := 13) rfl (keep_cons (t := 14) rfl (keep_cons (t := 15) rfl (keep_cons (t := 18) rfl (keep_cons (t := 19) rfl (keep_cons (t := 20) rfl (keep_cons (t := 21) rfl (keep_cons (t := 22) rfl (keep_cons (t := 23) rfl (keep_cons (t := 24) rfl (keep_cons (t := 25) rfl (keep_cons (t := 26) rfl (keep_cons (t := 27) rfl (keep_cons (t := 28) rfl (keep_cons (t := 29) rfl (keep_cons (t := 30) rfl (keep_cons (t := 31) rfl (keep_cons (t := 32) rfl (keep_cons (t := 33) rfl (keep_cons (t := 34) rfl (keep_cons (t := 35) rfl (keep_cons (t := 36) rfl (keep_cons (t := 37) rfl (keep_cons (t := 38) rfl (keep_cons (t := 39) rfl keep_nil))))))))))))))))))))))))))))))))))) ?_
        refine aw_true rfl ?_
        refine aw_region ?_
        refine sr_x rfl (wtd_none rfl) rfl (Rd.x (x_move rfl)) ?_
        refine sr_x rfl (wtd_none rfl) rfl (Rd.x (x_move rfl)) ?_
        refine sr_x rfl (wtd_none rfl) rfl (Rd.x (x_nilCheck rfl)) ?_
        refine sr_x rfl (wtd_none rfl) rfl (Rd.x (x_fieldAddr fd50_0 rfl)) ?_
        refine sr_x rfl (wtd_none rfl) rfl (Rd.x (x_load ag22 rfl (cells_get (Cells.mono hc (by repeat (first | exact Sub.refl _ | apply Sub.drop | apply Sub.dropE))) 0 rfl))) ?_
        refine sr_x rfl (wtd_none rfl) rfl (Rd.x (x_move rfl)) ?_
        refine sr_x rfl (wtd_none rfl) rfl (Rd.x (x_indexAddrN (k) Try.underlying22 sz91 rfl haj rfl (by omega) (by omega))) ?_
        refine sr_x rfl (wtd_none rfl) rfl (Rd.x (x_loadN ag91 sz91 rfl (Cells.mono hcj (by repeat (first | exact Sub.refl _ | apply Sub.drop | apply Sub.dropE))) rfl)) ?_
        refine sr_new rfl (wtd_none rfl) rfl (x_buildSlice Try.underlying22 sz91 zr91 rfl rfl rfl rfl (by repeat (first | exact Parts.nil | (apply Parts.cons; rfl))) (by repeat (first | exact Fill.done | (apply Fill.part; rfl; rfl; rfl; focus (repeat (first | exact Spl.done | exact Spl.all rfl | apply Spl.put | apply Spl.skip)))))) ?_
        intro r6_8 hr6_8 gr6_8
        refine sr_d rfl (wtd_none rfl) rfl (opS_append (G := H) (N := j.cells) (m := 1) Try.underlying22 sz91 zr91 rfl by91 rfl rfl V (by repeat (first | exact Sub.refl _ | refine Sub.take (by repeat (first | exact Take.here | apply Take.there | apply Take.app)) ?_ | refine Sub.takeE (by repeat (first | exact TakeE.here | apply TakeE.there | apply TakeE.app)) ?_ | exact Sub.nil _ | apply Sub.drop | apply Sub.dropE)) (.inr ⟨_, _, rfl, (cells_ext (by repeat (first | exact List.mem_cons_self | apply List.mem_cons_of_mem | apply List.mem_append_right)) (by repeat (first | exact Ext.all _ | exact Ext.done | apply Ext.take | apply Ext.skip)))⟩) (rfl) rfl (by omega) (by omega)) ?_
        rintro v49 _ ⟨E49, hV49, rfl⟩
        obtain ⟨a49, cap49, rfl⟩ := hV49.isSl
        refine sr_x rfl (wtd_none rfl) rfl (Rd.x (x_assign rfl)) ?_
        refine sr_nil ?_
        show AW _ _ _ _ _ _ _
        refine aw_region ?_
        refine sr_x rfl (wtd_none rfl) rfl (Rd.x (x_move rfl)) ?_
        refine sr_x rfl (wtd_none rfl) rfl (Rd.x (x_add' rfl rfl (i64w (by omega) (by omega)))) ?_
        refine sr_x rfl (wtd_none rfl) rfl (Rd.x (x_assign rfl)) ?_
        refine sr_nil ?_
        show ∃ s', _ ∧ _ ∧ _ ∧ _
        first | exact ⟨⟨k + 1, a49, cap49, E49⟩, ⟨by dsimp only; omega, (by dsimp only; rw [kept_yes hj ((inP_t (by omega)))]; exact OwnVec.snocS hV49)⟩, by dsimp only; omega, (by dsimp only; rw [kept_yes hj ((inP_t (by omega))), List.length_append]; exact (by (repeat (first | exact keep_nil | refine keep_cons rfl ?_)); first | done | fail)), (by (repeat (first | exact Sub.refl _ | refine Sub.take (by repeat (first | exact Take.here | apply Take.there | apply Take.app)) ?_ | refine Sub.takeE (by repeat (first | exact TakeE.here | apply TakeE.there | apply TakeE.app)) ?_ | exact Sub.nil _ | apply Sub.drop | apply Sub.dropE)); first | done | fail)⟩ | exact ⟨⟨k + 1, a1, c1, E⟩, ⟨by dsimp only; omega, (by dsimp only; rw [kept_no hj ((inP_f (by omega)))]; exact V)⟩, by dsimp only; omega, (by dsimp only; rw [kept_no hj ((inP_f (by omega)))]; exact (by (repeat (first | exact keep_nil | refine keep_cons rfl ?_)); first | done | fail)), (by (repeat (first | exact Sub.refl _ | refine Sub.take (by repeat (first | exact Take.here | apply Take.there | apply Take.app)) ?_ | refine Sub.takeE (by repeat (first | exact TakeE.here | apply TakeE.there | apply TakeE.app)) ?_ | exact Sub.nil _ | apply Sub.drop | apply Sub.dropE)); first | done | fail)⟩
      · refine sr_x rfl (wtd_none rfl) rfl (Rd.x (x_pick_f rfl rfl rfl)) ?_
        refine sr_nil ?_
        refine aw_keep (keep_cons (t := 0) rfl (keep_cons (t := 1) rfl (keep_cons (t := 2) rfl (keep_cons (t := 6) rfl (keep_cons (t := 7) rfl (keep_cons (t := 8) rfl (keep_cons (t := 9) rfl (keep_cons (t := 10) rfl (keep_cons (t := 11) rfl (keep_cons (t := 12) rfl (keep_cons (t := 13) rfl (keep_cons (t := 14) rfl (keep_cons (t := 15) rfl (keep_cons (t := 18) rfl (keep_cons (t := 19) rfl (keep_cons (t := 20) rfl (keep_cons (t := 21) rfl (keep_cons (t := 22) rfl (keep_cons (t := 23) rfl (keep_cons (t := 24) rfl (keep_cons (t := 25) rfl (keep_cons (t := 26) rfl (keep_cons (t := 27) rfl (keep_cons (t := 28) rfl (keep_cons (t := 29) rfl (keep_cons (t := 30) rfl (keep_cons (t := 31) rfl (keep_cons (t := 32) rfl (keep_cons (t := 33) rfl (keep_cons (t := 34) rfl (keep_cons (t := 35) rfl (keep_cons (t := 36) rfl (keep_cons (t := 37) rfl (keep_cons (t := 38) rfl (keep_cons (t := 39) rfl keep_nil))))))))))))))))))))))))))))))))))) ?_
        refine aw_false rfl ?_
        refine aw_skip ?_
        show AW _ _ _ _ _ _ _
        refine aw_region ?_
        refine sr_x rfl (wtd_none rfl) rfl (Rd.x (x_move rfl)) ?_
        refine sr_x rfl (wtd_none rfl) rfl (Rd.x (x_add' rfl rfl (i64w (by omega) (by omega)))) ?_
        refine sr_x rfl (wtd_none rfl) rfl (Rd.x (x_assign rfl)) ?_
        refine sr_nil ?_
        show ∃ s', _ ∧ _ ∧ _ ∧ _
        first | exact ⟨⟨k + 1, a49, cap49, E49⟩, ⟨by dsimp only; omega, (by dsimp only; rw [kept_yes hj ((inP_t (by omega)))]; exact OwnVec.snocS hV49)⟩, by dsimp only; omega, (by dsimp only; rw [kept_yes hj ((inP_t (by omega))), List.length_append]; exact (by (repeat (first | exact keep_nil | refine keep_cons rfl ?_)); first | done | fail)), (by (repeat (first | exact Sub.refl _ | refine Sub.take (by repeat (first | exact Take.here | apply Take.there | apply Take.app)) ?_ | refine Sub.takeE (by repeat (first | exact TakeE.here | apply TakeE.there | apply TakeE.app)) ?_ | exact Sub.nil _ | apply Sub.drop | apply Sub.dropE)); first | done | fail)⟩ | exact ⟨⟨k + 1, a1, c1, E⟩, ⟨by dsimp only; omega, (by dsimp only; rw [kept_no hj ((inP_f (by omega)))]; exact V)⟩, by dsimp only; omega, (by dsimp only; rw [kept_no hj ((inP_f (by omega)))]; exact (by (repeat (first | exact keep_nil | refine keep_cons rfl ?_)); first | done | fail)), (by (repeat (first | exact Sub.refl _ | refine Sub.take (by repeat (first | exact Take.here | apply Take.there | apply Take.app)) ?_ | refine Sub.takeE (by repeat (first | exact TakeE.here | apply TakeE.there | apply TakeE.app)) ?_ | exact Sub.nil _ | apply Sub.drop | apply Sub.dropE)); first | done | fail)⟩
  · refine sr_nil ?_
    refine aw_keep (keep_cons (t := 0) rfl (keep_cons (t := 1) rfl (keep_cons (t := 2) rfl (keep_cons (t := 6) rfl (keep_cons (t := 7) rfl (keep_cons (t := 8) rfl (keep_cons (t := 9) rfl (keep_cons (t := 10) rfl (keep_cons (t := 11) rfl (keep_cons (t := 12) rfl (keep_cons (t := 13) rfl (keep_cons (t := 14) rfl (keep_cons (t := 15) rfl keep_nil))))))))))))) ?_
    refine aw_false rfl ?_
    refine aw_exit ?_
    show AW _ _ _ _ _ _ _
    refine aw_seq_region ?_
    refine sr_x rfl (wtd_none rfl) rfl (Rd.x (x_move rfl)) ?_
    refine sr_x rfl (wtd_none rfl) rfl (Rd.x (x_assign rfl)) ?_
    refine sr_nil ?_
    refine aw_keep (keep_cons (t := 6) rfl keep_nil) ?_
    refine aw_ret ?_
    show ∃ v H2, ResV _ _ _ _ _ _ v ∧ Sub H2 _ ∧ _
    first | (have hke := kept_all (p := (inP x y)) (xs := jobs) (k := k) (by omega); rw [hke] at V; exact ⟨_, E ++ H, resV rfl (.cons rfl .nil), (by repeat (first | exact Sub.refl _ | refine Sub.take (by repeat (first | exact Take.here | apply Take.there | apply Take.app)) ?_ | refine Sub.takeE (by repeat (first | exact TakeE.here | apply TakeE.there | apply TakeE.app)) ?_ | exact Sub.nil _ | apply Sub.drop | apply Sub.dropE)), a1, c1, E, (by rw [hke]; rfl), V, rfl⟩)
set_option maxRecDepth 100000 in
set_option maxHeartbeats 400000 in
theorem counts_s (p : Nat) (a : Option Addr) (cap : Nat) (jobs : List Job) (live : Int) (H : SHeap) (hc : Cells W0 H p 0 (tabC (.slice a jobs.length cap) live)) (hs : SlV W0 H 10 Job.cells a cap jobs) (hjl : jobs.length ≤ 1000000) : AC Try.prog W0 73 [.pointer (some ⟨p, 0, none⟩)] H (fun v H' => v = .tuple #[.int .i64 ((jobs.filter (inP 1 1)).length : Nat), .int .i64 ((jobs.filter (inP 2 2)).length : Nat), .int .i64 ((jobs.filter (inP 3 3)).length : Nat)] ∧ H' = H) := by
  refine ac_of Try.func73 rfl rfl rfl ?_
  refine aw_seq_region ?_
  refine sr_x rfl (wtd_none rfl) rfl (Rd.x (x_assign rfl)) ?_
  refine sr_x rfl (wtd_none rfl) rfl (Rd.x (x_assign rfl)) ?_
  refine sr_x rfl (wtd_none rfl) rfl (Rd.x (x_assign rfl)) ?_
  refine sr_nil ?_
  refine aw_keep (keep_cons (t := 0) rfl (keep_cons (t := 2) rfl (keep_cons (t := 3) rfl (keep_cons (t := 4) rfl keep_nil)))) ?_
  refine aw_seq_region ?_
  refine sr_x rfl (wtd_none rfl) rfl (Rd.x (x_move rfl)) ?_
  refine sr_new rfl (wtd_none rfl) rfl (x_buildSlice Try.underlying134 sz3 zr3 rfl rfl rfl rfl (by repeat (first | exact Parts.nil | (apply Parts.cons; rfl))) (by repeat (first | exact Fill.done | (apply Fill.part; rfl; rfl; rfl; focus (repeat (first | exact Spl.done | exact Spl.all rfl | apply Spl.put | apply Spl.skip)))))) ?_
  intro r1_1 hr1_1 gr1_1
  refine sr_d rfl (wtd_none rfl) rfl (opS_call rfl rfl rfl rfl cl74 (in_s p a cap jobs live _ (Cells.mono hc (by repeat (first | exact Sub.refl _ | apply Sub.drop | apply Sub.dropE))) (hs.mono (by repeat (first | exact Sub.refl _ | apply Sub.drop | apply Sub.dropE))) hjl r1_1 1 1 [1] (inP 1 1) (inP_one 1) rfl (by omega) (cells_ext (by repeat (first | exact List.mem_cons_self | apply List.mem_cons_of_mem | apply List.mem_append_right)) (by repeat (first | exact Ext.all _ | exact Ext.done | apply Ext.take | apply Ext.skip))))) ?_
  rintro _ _ ⟨a7, c7, E7, rfl, V7, rfl⟩
  refine sr_x rfl (wtd_none rfl) rfl (Rd.x (x_lenSlice Try.underlying22 rfl)) ?_
  refine sr_x rfl (wtd_none rfl) rfl (Rd.x (x_move rfl)) ?_
  refine sr_new rfl (wtd_none rfl) rfl (x_buildSlice Try.underlying134 sz3 zr3 rfl rfl rfl rfl (by repeat (first | exact Parts.nil | (apply Parts.cons; rfl))) (by repeat (first | exact Fill.done | (apply Fill.part; rfl; rfl; rfl; focus (repeat (first | exact Spl.done | exact Spl.all rfl | apply Spl.put | apply Spl.skip)))))) ?_
  intro r1_5 hr1_5 gr1_5
  refine sr_d rfl (wtd_none rfl) rfl (opS_call rfl rfl rfl rfl cl74 (in_s p a cap jobs live _ (Cells.mono hc (by repeat (first | exact Sub.refl _ | apply Sub.drop | apply Sub.dropE))) (hs.mono (by repeat (first | exact Sub.refl _ | apply Sub.drop | apply Sub.dropE))) hjl r1_5 1 1 [2] (inP 2 2) (inP_one 2) rfl (by omega) (cells_ext (by repeat (first | exact List.mem_cons_self | apply List.mem_cons_of_mem | apply List.mem_append_right)) (by repeat (first | exact Ext.all _ | exact Ext.done | apply Ext.take | apply Ext.skip))))) ?_
  rintro _ _ ⟨a11, c11, E11, rfl, V11, rfl⟩
  refine sr_x rfl (wtd_none rfl) rfl (Rd.x (x_lenSlice Try.underlying22 rfl)) ?_
  refine sr_x rfl (wtd_none rfl) rfl (Rd.x (x_move rfl)) ?_
  refine sr_new rfl (wtd_none rfl) rfl (x_buildSlice Try.underlying134 sz3 zr3 rfl rfl rfl rfl (by repeat (first | exact Parts.nil | (apply Parts.cons; rfl))) (by repeat (first | exact Fill.done | (apply Fill.part; rfl; rfl; rfl; focus (repeat (first | exact Spl.done | exact Spl.all rfl | apply Spl.put | apply Spl.skip)))))) ?_
  intro r1_9 hr1_9 gr1_9
  refine sr_d rfl (wtd_none rfl) rfl (opS_call rfl rfl rfl rfl cl74 (in_s p a cap jobs live _ (Cells.mono hc (by repeat (first | exact Sub.refl _ | apply Sub.drop | apply Sub.dropE))) (hs.mono (by repeat (first | exact Sub.refl _ | apply Sub.drop | apply Sub.dropE))) hjl r1_9 1 1 [3] (inP 3 3) (inP_one 3) rfl (by omega) (cells_ext (by repeat (first | exact List.mem_cons_self | apply List.mem_cons_of_mem | apply List.mem_append_right)) (by repeat (first | exact Ext.all _ | exact Ext.done | apply Ext.take | apply Ext.skip))))) ?_
  rintro _ _ ⟨a15, c15, E15, rfl, V15, rfl⟩
  refine sr_x rfl (wtd_none rfl) rfl (Rd.x (x_lenSlice Try.underlying22 rfl)) ?_
  refine sr_x rfl (wtd_none rfl) rfl (Rd.x (x_assign rfl)) ?_
  refine sr_x rfl (wtd_none rfl) rfl (Rd.x (x_assign rfl)) ?_
  refine sr_x rfl (wtd_none rfl) rfl (Rd.x (x_assign rfl)) ?_
  refine sr_nil ?_
  refine aw_keep (keep_cons (t := 2) rfl (keep_cons (t := 3) rfl (keep_cons (t := 4) rfl keep_nil))) ?_
  refine aw_ret ?_
  show ∃ v H2, ResV _ _ _ _ _ _ v ∧ Sub H2 _ ∧ _
  exact ⟨_, H, resV rfl (.cons rfl (.cons rfl (.cons rfl .nil))), (by repeat (first | exact Sub.refl _ | refine Sub.take (by repeat (first | exact Take.here | apply Take.there | apply Take.app)) ?_ | refine Sub.takeE (by repeat (first | exact TakeE.here | apply TakeE.there | apply TakeE.app)) ?_ | exact Sub.nil _ | apply Sub.drop | apply Sub.dropE)), ⟨rfl, rfl⟩⟩
set_option maxRecDepth 100000 in
set_option maxHeartbeats 400000 in
theorem osort_s (a : Option Addr) (cap : Nat) (xs : List Job) (H : SHeap) (hs : SlV W0 H 10 Job.cells a cap xs) (hxl : xs.length ≤ 1000) : AC Try.prog W0 122 [.slice a xs.length cap] H (fun v H' => ∃ W a2 cap2 E2, v = .slice a2 xs.length cap2 ∧ St cmpJ xs W ∧ SrtI cmpJ W 0 xs.length ∧ OwnVec 10 91 (.slice a2 xs.length cap2) xs.length (W.flatMap Job.cells) E2 ∧ H' = E2 ++ H) := by
  refine ac_of Try.func122 rfl rfl rfl ?_
  refine aw_seq_region ?_
  refine sr_x rfl (wtd_none rfl) rfl (Rd.x (x_assign rfl)) ?_
  refine sr_nil ?_
  refine aw_keep (keep_cons (t := 0) rfl (keep_cons (t := 2) rfl keep_nil)) ?_
  refine aw_seq_region ?_
  refine sr_x rfl (wtd_none rfl) rfl (Rd.x (x_move rfl)) ?_
  refine sr_d rfl (wtd_none rfl) rfl (opS_call rfl rfl rfl rfl cl104 (clone_s a cap xs H hs (by omega))) ?_
  rintro _ _ ⟨E2, ⟨a2, cap2, V2, rfl⟩, rfl⟩
  refine sr_x rfl (wtd_none rfl) rfl (Rd.x (x_assign rfl)) ?_
  refine sr_nil ?_
  refine aw_keep (keep_cons (t := 2) rfl (keep_cons (t := 3) rfl keep_nil)) ?_
  refine aw_seq_region ?_
  refine sr_x rfl (wtd_none rfl) rfl (Rd.x (x_move rfl)) ?_
  refine sr_d rfl (wtd_none rfl) rfl (opS_call rfl rfl rfl rfl cl142 (jsV_s a2 cap2 xs.length xs E2 H V2 rfl (by omega) cmpJ (fun x y V _ => jcompare_s x y V) swoJ)) ?_
  rintro _ _ ⟨W, E3, hst, hsr, rfl, V3, rfl⟩
  refine sr_nil ?_
  refine aw_keep (keep_cons (t := 2) rfl (keep_cons (t := 3) rfl keep_nil)) ?_
  refine aw_seq_region ?_
  refine sr_x rfl (wtd_none rfl) rfl (Rd.x (x_move rfl)) ?_
  refine sr_x rfl (wtd_none rfl) rfl (Rd.x (x_assign rfl)) ?_
  refine sr_nil ?_
  refine aw_keep (keep_cons (t := 2) rfl keep_nil) ?_
  refine aw_ret ?_
  show ∃ v H2, ResV _ _ _ _ _ _ v ∧ Sub H2 _ ∧ _
  exact ⟨_, (E3 ++ H), resV rfl (.cons rfl .nil), (by repeat (first | exact Sub.refl _ | apply Sub.drop)), ⟨W, a2, cap2, E3, rfl, hst, hsr, V3, rfl⟩⟩
set_option maxRecDepth 100000 in
set_option maxHeartbeats 400000 in
theorem waiting_s (p : Nat) (a : Option Addr) (cap : Nat) (jobs : List Job) (live : Int) (H : SHeap) (hc : Cells W0 H p 0 (tabC (.slice a jobs.length cap) live)) (hs : SlV W0 H 10 Job.cells a cap jobs) (hjl : jobs.length ≤ 1000000) (hj9 : jobs.length ≤ 1000) : AC Try.prog W0 76 [.pointer (some ⟨p, 0, none⟩)] H (fun v H' => ∃ W a2 cap2 E2, v = .slice a2 (jobs.filter (inP 1 1)).length cap2 ∧ St cmpJ (jobs.filter (inP 1 1)) W ∧ SrtI cmpJ W 0 (jobs.filter (inP 1 1)).length ∧ OwnVec 10 91 (.slice a2 (jobs.filter (inP 1 1)).length cap2) (jobs.filter (inP 1 1)).length (W.flatMap Job.cells) E2 ∧ H' = E2 ++ H) := by
  have hfl := List.length_filter_le (inP 1 1) jobs
  refine ac_of Try.func76 rfl rfl rfl ?_
  refine aw_seq_region ?_
  refine sr_x rfl (wtd_none rfl) rfl (Rd.x (x_assign rfl)) ?_
  refine sr_nil ?_
  refine aw_keep (keep_cons (t := 0) rfl (keep_cons (t := 2) rfl keep_nil)) ?_
  refine aw_seq_region ?_
  refine sr_x rfl (wtd_none rfl) rfl (Rd.x (x_move rfl)) ?_
  refine sr_new rfl (wtd_none rfl) rfl (x_buildSlice Try.underlying134 sz3 zr3 rfl rfl rfl rfl (by repeat (first | exact Parts.nil | (apply Parts.cons; rfl))) (by repeat (first | exact Fill.done | (apply Fill.part; rfl; rfl; rfl; focus (repeat (first | exact Spl.done | exact Spl.all rfl | apply Spl.put | apply Spl.skip)))))) ?_
  intro r1_1 hr1_1 gr1_1
  refine sr_d rfl (wtd_none rfl) rfl (opS_call rfl rfl rfl rfl cl74 (in_s p a cap jobs live _ (Cells.mono hc (by repeat (first | exact Sub.refl _ | apply Sub.drop | apply Sub.dropE))) (hs.mono (by repeat (first | exact Sub.refl _ | apply Sub.drop | apply Sub.dropE))) hjl r1_1 1 1 [1] (inP 1 1) (inP_one 1) rfl (by omega) (cells_ext (by repeat (first | exact List.mem_cons_self | apply List.mem_cons_of_mem | apply List.mem_append_right)) (by repeat (first | exact Ext.all _ | exact Ext.done | apply Ext.take | apply Ext.skip))))) ?_
  rintro _ _ ⟨a5, c5, E5, rfl, V5, rfl⟩
  refine sr_d rfl (wtd_none rfl) rfl (opS_call rfl rfl rfl rfl cl122 (osort_s a5 c5 (jobs.filter (inP 1 1)) _ (V5.slv' (fun _ => rfl) rfl (Sub.takeE0 (by repeat (first | exact TakeE.here | apply TakeE.there | apply TakeE.app)))) (by omega))) ?_
  rintro _ _ ⟨W, a6, c6, E6, rfl, hst, hsr, V6, rfl⟩
  refine sr_x rfl (wtd_none rfl) rfl (Rd.x (x_assign rfl)) ?_
  refine sr_nil ?_
  refine aw_keep (keep_cons (t := 2) rfl keep_nil) ?_
  refine aw_ret ?_
  show ∃ v H2, ResV _ _ _ _ _ _ v ∧ Sub H2 _ ∧ _
  exact ⟨_, (E6 ++ H), resV rfl (.cons rfl .nil), (by repeat (first | exact Sub.refl _ | refine Sub.take (by repeat (first | exact Take.here | apply Take.there | apply Take.app)) ?_ | refine Sub.takeE (by repeat (first | exact TakeE.here | apply TakeE.there | apply TakeE.app)) ?_ | exact Sub.nil _ | apply Sub.drop | apply Sub.dropE)), ⟨W, a6, c6, E6, rfl, hst, hsr, V6, rfl⟩⟩
set_option maxRecDepth 100000 in
set_option maxHeartbeats 400000 in
theorem copy_s (p : Nat) (a : Option Addr) (cap : Nat) (jobs : List Job) (live : Int) (H : SHeap) (hc : Cells W0 H p 0 (tabC (.slice a jobs.length cap) live)) (hs : SlV W0 H 10 Job.cells a cap jobs) (hjl : jobs.length ≤ 1000000) : AC Try.prog W0 78 [.pointer (some ⟨p, 0, none⟩)] H (fun v H' => ∃ r a2 cap2 E2, v = .pointer (some ⟨r, 0, none⟩) ∧ OwnVec 10 91 (.slice a2 jobs.length cap2) jobs.length (jobs.flatMap Job.cells) E2 ∧ H' = tab r (.slice a2 jobs.length cap2) live :: (E2 ++ H)) := by
  refine ac_of Try.func78 rfl rfl rfl ?_
  refine aw_seq_region ?_
  refine sr_x rfl (wtd_none rfl) rfl (Rd.x (x_assign rfl)) ?_
  refine sr_nil ?_
  refine aw_keep (keep_cons (t := 0) rfl (keep_cons (t := 2) rfl keep_nil)) ?_
  refine aw_seq ?_
  refine aw_seq_region ?_
  refine sr_x rfl (wtd_none rfl) rfl (Rd.x (x_move rfl)) ?_
  refine sr_d rfl (wtd_none rfl) rfl (opS_call rfl rfl rfl rfl cl99 (none_s _ _ _ _ (Cells.mono hc (by repeat (first | exact Sub.refl _ | apply Sub.drop))))) ?_
  rintro _ H ⟨rfl, rfl⟩
  refine sr_nil ?_
  refine aw_keep (keep_cons (t := 0) rfl (keep_cons (t := 2) rfl (keep_cons (t := 4) rfl keep_nil))) ?_
  refine aw_false rfl ?_
  refine aw_skip ?_
  show AW _ _ _ _ _ _ _
  refine aw_seq_dr ⟨_, 9, 13, [[], [0], [], [2], [2, 3], [2, 3, 4], [0, 1, 2, 3, 4, 5], [0, 1, 2, 3, 4, 5, 6], [0, 1, 2, 3, 4, 5, 6, 7]], [.light, .call, .light, .light, .light, .mem, .light, .alloc, .light]⟩ (by kernel_rfl) rfl rfl mix ?_
  refine dr_light rfl rfl (wtd_none rfl) (x_move rfl) ?_
  refine dr_call rfl (V := []) rfl rfl (wtd_none rfl) (opS_F rfl rfl rfl rfl cl40 (all_s p a cap jobs live _ (Cells.mono hc (by repeat (first | exact Sub.refl _ | apply Sub.drop | apply Sub.dropE))) (hs.mono (by repeat (first | exact Sub.refl _ | apply Sub.drop | apply Sub.dropE))) (by omega))) (ownvec_freshE (by rw [flat_len (n := 10) (fun _ => rfl)]) (by omega)) ?_
  rintro _ EC ⟨aC, cC, VC, rfl⟩
  refine dr_light rfl rfl (wtd_none rfl) (x_move rfl) ?_
  refine dr_light rfl rfl (wtd_none rfl) (x_nilCheck rfl) ?_
  refine dr_light rfl rfl (wtd_none rfl) (x_fieldAddr fd168_1 rfl) ?_
  refine dr_mem rfl (V := []) rfl rfl (wtd_none rfl) (x_load ag3 rfl (cells_get (Cells.mono hc (by repeat (first | exact Sub.refl _ | apply Sub.drop | apply Sub.dropE))) 1 rfl)) ?_
  refine dr_light rfl rfl (wtd_none rfl) (x_build zr168 rfl fl168 (by repeat (first | exact Parts.nil | (apply Parts.cons; rfl))) (by repeat (first | exact Fill.done | (apply Fill.part; rfl; rfl; rfl; focus (repeat (first | exact Spl.done | exact Spl.all rfl | apply Spl.put | apply Spl.skip)))))) ?_
  refine dr_alloc rfl rfl (wtd_none rfl) (x_box rfl rfl) ?_
  intro r3_7 hr3_7 gr3_7
  refine dr_light rfl rfl (wtd_none rfl) (x_assign rfl) ?_
  refine dr_nil (E := EC ++ ([(r3_7, .cells (tabC (.slice aC jobs.length cC) live).toArray 168 (0, 0))] ++ [])) rfl ?_
  refine aw_keep (keep_cons (t := 2) rfl keep_nil) ?_
  refine aw_ret ?_
  show ∃ v H2, ResV _ _ _ _ _ _ v ∧ Sub H2 _ ∧ _
  exact ⟨_, (tab r3_7 (.slice aC jobs.length cC) live :: (EC ++ H)), resV rfl (.cons rfl .nil), (by (simp only [List.append_assoc, List.cons_append, List.nil_append]); exact (by repeat (first | exact Sub.refl _ | refine Sub.take (by repeat (first | exact Take.here | apply Take.there | apply Take.app)) ?_ | refine Sub.takeE (by repeat (first | exact TakeE.here | apply TakeE.there | apply TakeE.app)) ?_ | exact Sub.nil _ | apply Sub.drop | apply Sub.dropE))), ⟨r3_7, aC, cC, EC, rfl, VC, rfl⟩⟩
theorem getX_s (p : Nat) (a : Option Addr) (cap : Nat) (jobs : List Job) (live : Int) (H : SHeap) (hc : Cells W0 H p 0 (tabC (.slice a jobs.length cap) live)) (hs : SlV W0 H 10 Job.cells a cap jobs) (hid : IdJ jobs) (x : Job) (hx : x ∈ jobs) :
    AC Try.prog W0 77 [.pointer (some ⟨p, 0, none⟩), .int .i64 x.id] H (fun v H' => v = .tuple #[x.v, .int .i64 0] ∧ H' = H) :=
  (get_s p a cap jobs live x.id H hc hs).mono fun v H' ⟨h, h2⟩ => by
    obtain ⟨k, hk⟩ := List.getElem?_of_mem hx
    have h3 := hid k x hk
    have h4 := get_lt hk
    refine ⟨?_, h2⟩
    rcases h with ⟨h, _⟩ | ⟨i, j, hi, hj, rfl⟩
    · omega
    · obtain rfl : i = k := by omega
      rw [hk] at hj; cases hj; rfl
end
end Go.Proofs.Yteilocpjikmmdaa
