/- Jobs begin: what Begin comes to, for any table. -/
import Derived.Test.YteilocpjikmmdaaJob
namespace Go.Proofs.Yteilocpjikmmdaa
open Go.Proofs.Yteilocpjikmmdaa.Sym
open Go.RowKit (Below)
set_option linter.unusedVariables false
set_option linter.unusedSimpArgs false
theorem cl100 : Callable Try.prog 100 := ⟨Try.f100, Try.func100, by kernel_rfl, by kernel_rfl⟩
theorem fd91_3 : fldOf Try.prog 91 3 = some (3, 2, 1) := by kernel_rfl
theorem fd91_6 : fldOf Try.prog 91 6 = some (6, 2, 1) := by kernel_rfl
theorem fd91_7 : fldOf Try.prog 91 7 = some (7, 2, 1) := by kernel_rfl
theorem fd91_8 : fldOf Try.prog 91 8 = some (8, 2, 1) := by kernel_rfl
theorem fd91_9 : fldOf Try.prog 91 9 = some (9, 51, 1) := by kernel_rfl
theorem sz2 : szOf Try.prog 2 = some 1 := by kernel_rfl
theorem sz51 : szOf Try.prog 51 = some 1 := by kernel_rfl
theorem zr3 : zeroOf Try.prog 3 = some (.int .i64 0) := by kernel_rfl
section
variable {W0 : World}
set_option maxRecDepth 100000 in
set_option maxHeartbeats 400000 in
theorem begin_s (p : Nat) (a : Option Addr) (cap : Nat) (jobs : List Job) (live : Int) (E G : SHeap) (id at_ nodes : Int) (V : OwnVec 10 91 (.slice a jobs.length cap) jobs.length (jobs.flatMap Job.cells) E) (hlim : ∀ j ∈ jobs, 0 ≤ j.limit ∧ j.limit ≤ 1048576) : AC Try.prog W0 98 [.pointer (some ⟨p, 0, none⟩), .int .i64 id, .int .i64 at_, .int .u64 nodes] (tab p (.slice a jobs.length cap) live :: (E ++ G)) (fun v H' => (((at_ < 0 ∨ 1099511627776 < at_) ∧ v = .int .i64 10 ∧ H' = tab p (.slice a jobs.length cap) live :: (E ++ G)) ∨ (¬ (at_ < 0 ∨ 1099511627776 < at_) ∧ (id < 1 ∨ jobs.length < id) ∧ v = .int .i64 7 ∧ H' = tab p (.slice a jobs.length cap) live :: (E ++ G)) ∨ (∃ (k : Nat) (j : Job), ¬ (at_ < 0 ∨ 1099511627776 < at_) ∧ id = k + 1 ∧ jobs[k]? = some j ∧ j.state ≠ 1 ∧ v = .int .i64 8 ∧ H' = tab p (.slice a jobs.length cap) live :: (E ++ G)) ∨ (∃ (k : Nat) (j : Job), ¬ (at_ < 0 ∨ 1099511627776 < at_) ∧ id = k + 1 ∧ jobs[k]? = some j ∧ j.state = 1 ∧ v = .int .i64 0 ∧ ∃ E', OwnVec 10 91 (.slice a jobs.length cap) jobs.length ((jobs.set k { j with state := 3, start := at_, fin := at_ + j.limit, plan := -1, nodes := nodes }).flatMap Job.cells) E' ∧ H' = tab p (.slice a jobs.length cap) live :: (E' ++ G)))) := by
  refine ac_of Try.func98 rfl rfl rfl ?_
  refine aw_seq_region ?_
  refine sr_x rfl (wtd_none rfl) rfl (Rd.x (x_assign rfl)) ?_
  refine sr_nil ?_
  refine aw_keep (keep_cons (t := 0) rfl (keep_cons (t := 1) rfl (keep_cons (t := 2) rfl (keep_cons (t := 3) rfl (keep_cons (t := 8) rfl keep_nil))))) ?_
  refine aw_seq ?_
  refine aw_seq_region ?_
  refine sr_x rfl (wtd_none rfl) rfl (Rd.x (x_move rfl)) ?_
  refine sr_cmp rfl (wtd_none rfl) rfl (Rd.x (x_lt rfl rfl)) (fun h1 => ?_) (fun h1 => ?_)
  · refine sr_x rfl (wtd_none rfl) rfl (Rd.x (x_move rfl)) ?_
    refine sr_skip rfl (wtd_no rfl rfl rfl rfl) rfl ?_
    refine sr_skip rfl (wtd_no rfl rfl rfl rfl) rfl ?_
    refine sr_x rfl (wtd_none rfl) rfl (Rd.x (x_pick_t rfl rfl rfl)) ?_
    refine sr_nil ?_
    refine aw_keep (keep_cons (t := 0) rfl (keep_cons (t := 1) rfl (keep_cons (t := 2) rfl (keep_cons (t := 3) rfl (keep_cons (t := 8) rfl (keep_cons (t := 16) rfl keep_nil)))))) ?_
    refine aw_true rfl ?_
    refine aw_seq_region ?_
    refine sr_x rfl (wtd_none rfl) rfl (Rd.x (x_assign rfl)) ?_
    refine sr_nil ?_
    refine aw_keep (keep_cons (t := 0) rfl (keep_cons (t := 1) rfl (keep_cons (t := 2) rfl (keep_cons (t := 3) rfl (keep_cons (t := 8) rfl keep_nil))))) ?_
    refine aw_ret ?_
    show ∃ v H2, ResV _ _ _ _ _ _ v ∧ Sub H2 _ ∧ _
    first | exact ⟨_, tab p (.slice a jobs.length cap) live :: (E ++ G), resV rfl (.cons rfl .nil), (by repeat (first | exact Sub.refl _ | refine Sub.take (by repeat (first | exact Take.here | apply Take.there | apply Take.app)) ?_ | refine Sub.takeE (by repeat (first | exact TakeE.here | apply TakeE.there | apply TakeE.app)) ?_ | exact Sub.nil _ | apply Sub.drop | apply Sub.dropE)), .inl ⟨by omega, rfl, rfl⟩⟩ | exact ⟨_, tab p (.slice a jobs.length cap) live :: (E ++ G), resV rfl (.cons rfl .nil), (by repeat (first | exact Sub.refl _ | refine Sub.take (by repeat (first | exact Take.here | apply Take.there | apply Take.app)) ?_ | refine Sub.takeE (by repeat (first | exact TakeE.here | apply TakeE.there | apply TakeE.app)) ?_ | exact Sub.nil _ | apply Sub.drop | apply Sub.dropE)), .inr (.inl ⟨by omega, hbad, rfl, rfl⟩)⟩ | exact ⟨_, tab p (.slice a jobs.length cap) live :: (E ++ G), resV rfl (.cons rfl .nil), (by repeat (first | exact Sub.refl _ | refine Sub.take (by repeat (first | exact Take.here | apply Take.there | apply Take.app)) ?_ | refine Sub.takeE (by repeat (first | exact TakeE.here | apply TakeE.there | apply TakeE.app)) ?_ | exact Sub.nil _ | apply Sub.drop | apply Sub.dropE)), .inr (.inr (.inl ⟨k, j, by omega, rfl, hj, by simpa using hns, rfl, rfl⟩))⟩ | (simp only [List.set_set]; exact ⟨_, tab p (.slice (some ⟨bj, 0, none⟩) jobs.length cap) live :: ([(bj, .cells ((jobs.set k { j with state := 3, start := at_, fin := at_ + j.limit, plan := -1, nodes := nodes }).flatMap Job.cells ++ post).toArray 91 (0, 0))] ++ G), resV rfl (.cons rfl .nil), (by repeat (first | exact Sub.refl _ | refine Sub.take (by repeat (first | exact Take.here | apply Take.there | apply Take.app)) ?_ | refine Sub.takeE (by repeat (first | exact TakeE.here | apply TakeE.there | apply TakeE.app)) ?_ | exact Sub.nil _ | apply Sub.drop | apply Sub.dropE)), .inr (.inr (.inr ⟨k, j, by omega, rfl, hj, by simpa using his, rfl, _, .mk (by rw [flat_len (n := 10) (fun _ => rfl), List.length_set]) hpl hpn hpc, rfl⟩))⟩)
  · refine sr_x rfl (wtd_none rfl) rfl (Rd.x (x_move rfl)) ?_
    refine sr_x rfl (wtd_yes rfl rfl rfl) rfl (Rd.x (x_move rfl)) ?_
    refine sr_cmp rfl (wtd_yes rfl rfl rfl) rfl (Rd.x (x_gt rfl rfl)) (fun h2 => ?_) (fun h2 => ?_)
    · refine sr_x rfl (wtd_none rfl) rfl (Rd.x (x_pick_f rfl rfl rfl)) ?_
      refine sr_nil ?_
      refine aw_keep (keep_cons (t := 0) rfl (keep_cons (t := 1) rfl (keep_cons (t := 2) rfl (keep_cons (t := 3) rfl (keep_cons (t := 8) rfl (keep_cons (t := 16) rfl keep_nil)))))) ?_
      refine aw_true rfl ?_
      refine aw_seq_region ?_
      refine sr_x rfl (wtd_none rfl) rfl (Rd.x (x_assign rfl)) ?_
      refine sr_nil ?_
      refine aw_keep (keep_cons (t := 0) rfl (keep_cons (t := 1) rfl (keep_cons (t := 2) rfl (keep_cons (t := 3) rfl (keep_cons (t := 8) rfl keep_nil))))) ?_
      refine aw_ret ?_
      show ∃ v H2, ResV _ _ _ _ _ _ v ∧ Sub H2 _ ∧ _
      first | exact ⟨_, tab p (.slice a jobs.length cap) live :: (E ++ G), resV rfl (.cons rfl .nil), (by repeat (first | exact Sub.refl _ | refine Sub.take (by repeat (first | exact Take.here | apply Take.there | apply Take.app)) ?_ | refine Sub.takeE (by repeat (first | exact TakeE.here | apply TakeE.there | apply TakeE.app)) ?_ | exact Sub.nil _ | apply Sub.drop | apply Sub.dropE)), .inl ⟨by omega, rfl, rfl⟩⟩ | exact ⟨_, tab p (.slice a jobs.length cap) live :: (E ++ G), resV rfl (.cons rfl .nil), (by repeat (first | exact Sub.refl _ | refine Sub.take (by repeat (first | exact Take.here | apply Take.there | apply Take.app)) ?_ | refine Sub.takeE (by repeat (first | exact TakeE.here | apply TakeE.there | apply TakeE.app)) ?_ | exact Sub.nil _ | apply Sub.drop | apply Sub.dropE)), .inr (.inl ⟨by omega, hbad, rfl, rfl⟩)⟩ | exact ⟨_, tab p (.slice a jobs.length cap) live :: (E ++ G), resV rfl (.cons rfl .nil), (by repeat (first | exact Sub.refl _ | refine Sub.take (by repeat (first | exact Take.here | apply Take.there | apply Take.app)) ?_ | refine Sub.takeE (by repeat (first | exact TakeE.here | apply TakeE.there | apply TakeE.app)) ?_ | exact Sub.nil _ | apply Sub.drop | apply Sub.dropE)), .inr (.inr (.inl ⟨k, j, by omega, rfl, hj, by simpa using hns, rfl, rfl⟩))⟩ | (simp only [List.set_set]; exact ⟨_, tab p (.slice (some ⟨bj, 0, none⟩) jobs.length cap) live :: ([(bj, .cells ((jobs.set k { j with state := 3, start := at_, fin := at_ + j.limit, plan := -1, nodes := nodes }).flatMap Job.cells ++ post).toArray 91 (0, 0))] ++ G), resV rfl (.cons rfl .nil), (by repeat (first | exact Sub.refl _ | refine Sub.take (by repeat (first | exact Take.here | apply Take.there | apply Take.app)) ?_ | refine Sub.takeE (by repeat (first | exact TakeE.here | apply TakeE.there | apply TakeE.app)) ?_ | exact Sub.nil _ | apply Sub.drop | apply Sub.dropE)), .inr (.inr (.inr ⟨k, j, by omega, rfl, hj, by simpa using his, rfl, _, .mk (by rw [flat_len (n := 10) (fun _ => rfl), List.length_set]) hpl hpn hpc, rfl⟩))⟩)
    · refine sr_x rfl (wtd_none rfl) rfl (Rd.x (x_pick_f rfl rfl rfl)) ?_
      refine sr_nil ?_
      refine aw_keep (keep_cons (t := 0) rfl (keep_cons (t := 1) rfl (keep_cons (t := 2) rfl (keep_cons (t := 3) rfl (keep_cons (t := 8) rfl (keep_cons (t := 16) rfl keep_nil)))))) ?_
      refine aw_false rfl ?_
      refine aw_skip ?_
      show AW _ _ _ _ _ _ _
      refine aw_seq_region ?_
      refine sr_x rfl (wtd_none rfl) rfl (Rd.x (x_move rfl)) ?_
      refine sr_x rfl (wtd_none rfl) rfl (Rd.x (x_move rfl)) ?_
      refine sr_new rfl (wtd_none rfl) rfl (x_buildSlice Try.underlying134 sz3 zr3 rfl rfl rfl rfl (by repeat (first | exact Parts.nil | (apply Parts.cons; rfl))) (by repeat (first | exact Fill.done | (apply Fill.part; rfl; rfl; rfl; focus (repeat (first | exact Spl.done | exact Spl.all rfl | apply Spl.put | apply Spl.skip)))))) ?_
      intro r3_2 hr3_2 gr3_2
      refine sr_d rfl (wtd_none rfl) rfl (opS_call rfl rfl rfl rfl cl100 (at_s p a cap jobs live id r3_2 1 [1] _ (cells_ext (by repeat (first | exact List.mem_cons_self | apply List.mem_cons_of_mem | apply List.mem_append_right)) (by repeat (first | exact Ext.all _ | exact Ext.done | apply Ext.take | apply Ext.skip))) (V.slv' (fun _ => rfl) rfl (Sub.takeE0 (by repeat (first | exact TakeE.here | apply TakeE.there | apply TakeE.app)))) rfl (by omega) (cells_ext (by repeat (first | exact List.mem_cons_self | apply List.mem_cons_of_mem | apply List.mem_append_right)) (by repeat (first | exact Ext.all _ | exact Ext.done | apply Ext.take | apply Ext.skip))))) ?_
      rintro _ H0 ⟨hat, rfl⟩
      obtain ⟨hbad, rfl⟩ | ⟨k, j, rfl, hj, ⟨hns, rfl⟩ | ⟨his, bj, oj, haj, rfl⟩⟩ := hat
      · refine sr_x rfl (wtd_none rfl) rfl (Rd.x (x_move rfl)) ?_
        refine sr_x rfl (wtd_none rfl) rfl (Rd.x (x_extract rfl rfl)) ?_
        refine sr_x rfl (wtd_none rfl) rfl (Rd.x (x_extract rfl rfl)) ?_
        refine sr_x rfl (wtd_none rfl) rfl (Rd.x (x_assign rfl)) ?_
        refine sr_x rfl (wtd_none rfl) rfl (Rd.x (x_assign rfl)) ?_
        refine sr_nil ?_
        refine aw_keep (keep_cons (t := 2) rfl (keep_cons (t := 3) rfl (keep_cons (t := 8) rfl (keep_cons (t := 9) rfl (keep_cons (t := 10) rfl keep_nil))))) ?_
        refine aw_seq ?_
        refine aw_seq_region ?_
        refine sr_x rfl (wtd_none rfl) rfl (Rd.x (x_move rfl)) ?_
        refine sr_cmp rfl (wtd_none rfl) rfl (Rd.x (x_eq rfl rfl)) (fun h3 => absurd h3 (by first | omega | decide)) (fun h3 => ?_)
        refine sr_nil ?_
        refine aw_keep (keep_cons (t := 2) rfl (keep_cons (t := 3) rfl (keep_cons (t := 8) rfl (keep_cons (t := 9) rfl (keep_cons (t := 10) rfl (keep_cons (t := 25) rfl keep_nil)))))) ?_
        refine aw_false rfl ?_
        refine aw_skip ?_
        show AW _ _ _ _ _ _ _
        refine aw_seq_region ?_
        refine sr_x rfl (wtd_none rfl) rfl (Rd.x (x_move rfl)) ?_
        refine sr_x rfl (wtd_none rfl) rfl (Rd.x (x_assign rfl)) ?_
        refine sr_nil ?_
        refine aw_keep (keep_cons (t := 8) rfl keep_nil) ?_
        refine aw_ret ?_
        show ∃ v H2, ResV _ _ _ _ _ _ v ∧ Sub H2 _ ∧ _
        first | exact ⟨_, tab p (.slice a jobs.length cap) live :: (E ++ G), resV rfl (.cons rfl .nil), (by repeat (first | exact Sub.refl _ | refine Sub.take (by repeat (first | exact Take.here | apply Take.there | apply Take.app)) ?_ | refine Sub.takeE (by repeat (first | exact TakeE.here | apply TakeE.there | apply TakeE.app)) ?_ | exact Sub.nil _ | apply Sub.drop | apply Sub.dropE)), .inl ⟨by omega, rfl, rfl⟩⟩ | exact ⟨_, tab p (.slice a jobs.length cap) live :: (E ++ G), resV rfl (.cons rfl .nil), (by repeat (first | exact Sub.refl _ | refine Sub.take (by repeat (first | exact Take.here | apply Take.there | apply Take.app)) ?_ | refine Sub.takeE (by repeat (first | exact TakeE.here | apply TakeE.there | apply TakeE.app)) ?_ | exact Sub.nil _ | apply Sub.drop | apply Sub.dropE)), .inr (.inl ⟨by omega, hbad, rfl, rfl⟩)⟩ | exact ⟨_, tab p (.slice a jobs.length cap) live :: (E ++ G), resV rfl (.cons rfl .nil), (by repeat (first | exact Sub.refl _ | refine Sub.take (by repeat (first | exact Take.here | apply Take.there | apply Take.app)) ?_ | refine Sub.takeE (by repeat (first | exact TakeE.here | apply TakeE.there | apply TakeE.app)) ?_ | exact Sub.nil _ | apply Sub.drop | apply Sub.dropE)), .inr (.inr (.inl ⟨k, j, by omega, rfl, hj, by simpa using hns, rfl, rfl⟩))⟩ | (simp only [List.set_set]; exact ⟨_, tab p (.slice (some ⟨bj, 0, none⟩) jobs.length cap) live :: ([(bj, .cells ((jobs.set k { j with state := 3, start := at_, fin := at_ + j.limit, plan := -1, nodes := nodes }).flatMap Job.cells ++ post).toArray 91 (0, 0))] ++ G), resV rfl (.cons rfl .nil), (by repeat (first | exact Sub.refl _ | refine Sub.take (by repeat (first | exact Take.here | apply Take.there | apply Take.app)) ?_ | refine Sub.takeE (by repeat (first | exact TakeE.here | apply TakeE.there | apply TakeE.app)) ?_ | exact Sub.nil _ | apply Sub.drop | apply Sub.dropE)), .inr (.inr (.inr ⟨k, j, by omega, rfl, hj, by simpa using his, rfl, _, .mk (by rw [flat_len (n := 10) (fun _ => rfl), List.length_set]) hpl hpn hpc, rfl⟩))⟩)
      · refine sr_x rfl (wtd_none rfl) rfl (Rd.x (x_move rfl)) ?_
        refine sr_x rfl (wtd_none rfl) rfl (Rd.x (x_extract rfl rfl)) ?_
        refine sr_x rfl (wtd_none rfl) rfl (Rd.x (x_extract rfl rfl)) ?_
        refine sr_x rfl (wtd_none rfl) rfl (Rd.x (x_assign rfl)) ?_
        refine sr_x rfl (wtd_none rfl) rfl (Rd.x (x_assign rfl)) ?_
        refine sr_nil ?_
        refine aw_keep (keep_cons (t := 2) rfl (keep_cons (t := 3) rfl (keep_cons (t := 8) rfl (keep_cons (t := 9) rfl (keep_cons (t := 10) rfl keep_nil))))) ?_
        refine aw_seq ?_
        refine aw_seq_region ?_
        refine sr_x rfl (wtd_none rfl) rfl (Rd.x (x_move rfl)) ?_
        refine sr_cmp rfl (wtd_none rfl) rfl (Rd.x (x_eq rfl rfl)) (fun h4 => absurd h4 (by first | omega | decide)) (fun h4 => ?_)
        refine sr_nil ?_
        refine aw_keep (keep_cons (t := 2) rfl (keep_cons (t := 3) rfl (keep_cons (t := 8) rfl (keep_cons (t := 9) rfl (keep_cons (t := 10) rfl (keep_cons (t := 25) rfl keep_nil)))))) ?_
        refine aw_false rfl ?_
        refine aw_skip ?_
        show AW _ _ _ _ _ _ _
        refine aw_seq_region ?_
        refine sr_x rfl (wtd_none rfl) rfl (Rd.x (x_move rfl)) ?_
        refine sr_x rfl (wtd_none rfl) rfl (Rd.x (x_assign rfl)) ?_
        refine sr_nil ?_
        refine aw_keep (keep_cons (t := 8) rfl keep_nil) ?_
        refine aw_ret ?_
        show ∃ v H2, ResV _ _ _ _ _ _ v ∧ Sub H2 _ ∧ _
        first | exact ⟨_, tab p (.slice a jobs.length cap) live :: (E ++ G), resV rfl (.cons rfl .nil), (by repeat (first | exact Sub.refl _ | refine Sub.take (by repeat (first | exact Take.here | apply Take.there | apply Take.app)) ?_ | refine Sub.takeE (by repeat (first | exact TakeE.here | apply TakeE.there | apply TakeE.app)) ?_ | exact Sub.nil _ | apply Sub.drop | apply Sub.dropE)), .inl ⟨by omega, rfl, rfl⟩⟩ | exact ⟨_, tab p (.slice a jobs.length cap) live :: (E ++ G), resV rfl (.cons rfl .nil), (by repeat (first | exact Sub.refl _ | refine Sub.take (by repeat (first | exact Take.here | apply Take.there | apply Take.app)) ?_ | refine Sub.takeE (by repeat (first | exact TakeE.here | apply TakeE.there | apply TakeE.app)) ?_ | exact Sub.nil _ | apply Sub.drop | apply Sub.dropE)), .inr (.inl ⟨by omega, hbad, rfl, rfl⟩)⟩ | exact ⟨_, tab p (.slice a jobs.length cap) live :: (E ++ G), resV rfl (.cons rfl .nil), (by repeat (first | exact Sub.refl _ | refine Sub.take (by repeat (first | exact Take.here | apply Take.there | apply Take.app)) ?_ | refine Sub.takeE (by repeat (first | exact TakeE.here | apply TakeE.there | apply TakeE.app)) ?_ | exact Sub.nil _ | apply Sub.drop | apply Sub.dropE)), .inr (.inr (.inl ⟨k, j, by omega, rfl, hj, by simpa using hns, rfl, rfl⟩))⟩ | (simp only [List.set_set]; exact ⟨_, tab p (.slice (some ⟨bj, 0, none⟩) jobs.length cap) live :: ([(bj, .cells ((jobs.set k { j with state := 3, start := at_, fin := at_ + j.limit, plan := -1, nodes := nodes }).flatMap Job.cells ++ post).toArray 91 (0, 0))] ++ G), resV rfl (.cons rfl .nil), (by repeat (first | exact Sub.refl _ | refine Sub.take (by repeat (first | exact Take.here | apply Take.there | apply Take.app)) ?_ | refine Sub.takeE (by repeat (first | exact TakeE.here | apply TakeE.there | apply TakeE.app)) ?_ | exact Sub.nil _ | apply Sub.drop | apply Sub.dropE)), .inr (.inr (.inr ⟨k, j, by omega, rfl, hj, by simpa using his, rfl, _, .mk (by rw [flat_len (n := 10) (fun _ => rfl), List.length_set]) hpl hpn hpc, rfl⟩))⟩)
      · subst haj
        obtain ⟨rfl, _, post, rfl, hpL, hpl, hpn, hpc⟩ := V.blk
        have hlj := hlim j (List.mem_of_getElem? hj)
        have hx0 := hj
        have hx1 := set_get (y := { j with state := 3 }) hx0
        have hx2 := set_get (y := { j with state := 3, start := at_ }) hx1
        have hx3 := set_get (y := { j with state := 3, start := at_, fin := at_ + j.limit }) hx2
        have hx4 := set_get (y := { j with state := 3, start := at_, fin := at_ + j.limit, plan := -1 }) hx3
        refine sr_x rfl (wtd_none rfl) rfl (Rd.x (x_move rfl)) ?_
        refine sr_x rfl (wtd_none rfl) rfl (Rd.x (x_extract rfl rfl)) ?_
        refine sr_x rfl (wtd_none rfl) rfl (Rd.x (x_extract rfl rfl)) ?_
        refine sr_x rfl (wtd_none rfl) rfl (Rd.x (x_assign rfl)) ?_
        refine sr_x rfl (wtd_none rfl) rfl (Rd.x (x_assign rfl)) ?_
        refine sr_nil ?_
        refine aw_keep (keep_cons (t := 2) rfl (keep_cons (t := 3) rfl (keep_cons (t := 8) rfl (keep_cons (t := 9) rfl (keep_cons (t := 10) rfl keep_nil))))) ?_
        refine aw_seq ?_
        refine aw_seq_region ?_
        refine sr_x rfl (wtd_none rfl) rfl (Rd.x (x_move rfl)) ?_
        refine sr_cmp rfl (wtd_none rfl) rfl (Rd.x (x_eq rfl rfl)) (fun h5 => ?_) (fun h5 => absurd (by first | omega | decide) h5)
        refine sr_nil ?_
        refine aw_keep (keep_cons (t := 2) rfl (keep_cons (t := 3) rfl (keep_cons (t := 8) rfl (keep_cons (t := 9) rfl (keep_cons (t := 10) rfl (keep_cons (t := 25) rfl keep_nil)))))) ?_
        refine aw_true rfl ?_
        refine aw_region ?_
        refine sr_x rfl (wtd_none rfl) rfl (Rd.x (x_move rfl)) ?_
        refine sr_x rfl (wtd_none rfl) rfl (Rd.x (x_move rfl)) ?_
        refine sr_x rfl (wtd_none rfl) rfl (Rd.x (x_move rfl)) ?_
        refine sr_x rfl (wtd_none rfl) rfl (Rd.x (x_move rfl)) ?_
        refine sr_x rfl (wtd_none rfl) rfl (Rd.x (x_move rfl)) ?_
        refine sr_x rfl (wtd_none rfl) rfl (Rd.x (x_move rfl)) ?_
        refine sr_x rfl (wtd_none rfl) rfl (Rd.x (x_move rfl)) ?_
        refine sr_x rfl (wtd_none rfl) rfl (Rd.x (x_move rfl)) ?_
        refine sr_x rfl (wtd_none rfl) rfl (Rd.x (x_nilCheck rfl)) ?_
        refine sr_x rfl (wtd_none rfl) rfl (Rd.x (x_fieldAddr fd91_3 rfl)) ?_
        refine sr_x rfl (wtd_none rfl) rfl (Rd.x (x_load ag2 rfl (cells_get (cells_flat0 (xs := jobs) (post := post) (n := 10) (fun _ => rfl) (by repeat (first | exact List.mem_cons_self | apply List.mem_cons_of_mem | apply List.mem_append_right)) hj) 3 rfl))) ?_
        refine sr_x rfl (wtd_none rfl) rfl (Rd.x (x_add' rfl rfl (i64w (by omega) (by omega)))) ?_
        refine sr_x rfl (wtd_none rfl) rfl (Rd.x (x_move rfl)) ?_
        refine sr_x rfl (wtd_none rfl) rfl (Rd.x (x_nilCheck rfl)) ?_
        refine sr_x rfl (wtd_none rfl) rfl (Rd.x (x_fieldAddr fd91_5 rfl)) ?_
        refine sr_x0 rfl (wtd_none rfl) (x_store sz3 rfl rfl rfl rfl rfl (by repeat (first | exact Repl.here | apply Repl.there | apply Repl.app)) (spl_fld0 (enc := Job.cells) (xs := jobs) (post := post) (x := j) (x' := { j with state := 3 }) (fun _ => rfl) hx0 (by repeat (first | exact Spl.done | exact Spl.all rfl | apply Spl.put | apply Spl.skip)))) ?_
        refine sr_x rfl (wtd_none rfl) rfl (Rd.x (x_nilCheck rfl)) ?_
        refine sr_x rfl (wtd_none rfl) rfl (Rd.x (x_fieldAddr fd91_6 rfl)) ?_
        refine sr_x0 rfl (wtd_none rfl) (x_store sz2 rfl rfl rfl rfl rfl (by repeat (first | exact Repl.here | apply Repl.there | apply Repl.app)) (spl_fld0 (enc := Job.cells) (xs := (jobs.set k { j with state := 3 })) (post := post) (x := { j with state := 3 }) (x' := { j with state := 3, start := at_ }) (fun _ => rfl) hx1 (by repeat (first | exact Spl.done | exact Spl.all rfl | apply Spl.put | apply Spl.skip)))) ?_
        refine sr_x rfl (wtd_none rfl) rfl (Rd.x (x_nilCheck rfl)) ?_
        refine sr_x rfl (wtd_none rfl) rfl (Rd.x (x_fieldAddr fd91_7 rfl)) ?_
        refine sr_x0 rfl (wtd_none rfl) (x_store sz2 rfl rfl rfl rfl rfl (by repeat (first | exact Repl.here | apply Repl.there | apply Repl.app)) (spl_fld0 (enc := Job.cells) (xs := ((jobs.set k { j with state := 3 }).set k { j with state := 3, start := at_ })) (post := post) (x := { j with state := 3, start := at_ }) (x' := { j with state := 3, start := at_, fin := at_ + j.limit }) (fun _ => rfl) hx2 (by repeat (first | exact Spl.done | exact Spl.all rfl | apply Spl.put | apply Spl.skip)))) ?_
        refine sr_x rfl (wtd_none rfl) rfl (Rd.x (x_nilCheck rfl)) ?_
        refine sr_x rfl (wtd_none rfl) rfl (Rd.x (x_fieldAddr fd91_8 rfl)) ?_
        refine sr_x0 rfl (wtd_none rfl) (x_store sz2 rfl rfl rfl rfl rfl (by repeat (first | exact Repl.here | apply Repl.there | apply Repl.app)) (spl_fld0 (enc := Job.cells) (xs := (((jobs.set k { j with state := 3 }).set k { j with state := 3, start := at_ }).set k { j with state := 3, start := at_, fin := at_ + j.limit })) (post := post) (x := { j with state := 3, start := at_, fin := at_ + j.limit }) (x' := { j with state := 3, start := at_, fin := at_ + j.limit, plan := -1 }) (fun _ => rfl) hx3 (by repeat (first | exact Spl.done | exact Spl.all rfl | apply Spl.put | apply Spl.skip)))) ?_
        refine sr_x rfl (wtd_none rfl) rfl (Rd.x (x_nilCheck rfl)) ?_
        refine sr_x rfl (wtd_none rfl) rfl (Rd.x (x_fieldAddr fd91_9 rfl)) ?_
        refine sr_x0 rfl (wtd_none rfl) (x_store sz51 rfl rfl rfl rfl rfl (by repeat (first | exact Repl.here | apply Repl.there | apply Repl.app)) (spl_fld0 (enc := Job.cells) (xs := ((((jobs.set k { j with state := 3 }).set k { j with state := 3, start := at_ }).set k { j with state := 3, start := at_, fin := at_ + j.limit }).set k { j with state := 3, start := at_, fin := at_ + j.limit, plan := -1 })) (post := post) (x := { j with state := 3, start := at_, fin := at_ + j.limit, plan := -1 }) (x' := { j with state := 3, start := at_, fin := at_ + j.limit, plan := -1, nodes := nodes }) (fun _ => rfl) hx4 (by repeat (first | exact Spl.done | exact Spl.all rfl | apply Spl.put | apply Spl.skip)))) ?_
        refine sr_nil ?_
        show AW _ _ _ _ _ _ _
        refine aw_seq_region ?_
        refine sr_x rfl (wtd_none rfl) rfl (Rd.x (x_move rfl)) ?_
        refine sr_x rfl (wtd_none rfl) rfl (Rd.x (x_assign rfl)) ?_
        refine sr_nil ?_
        refine aw_keep (keep_cons (t := 8) rfl keep_nil) ?_
        refine aw_ret ?_
        show ∃ v H2, ResV _ _ _ _ _ _ v ∧ Sub H2 _ ∧ _
        first | exact ⟨_, tab p (.slice a jobs.length cap) live :: (E ++ G), resV rfl (.cons rfl .nil), (by repeat (first | exact Sub.refl _ | refine Sub.take (by repeat (first | exact Take.here | apply Take.there | apply Take.app)) ?_ | refine Sub.takeE (by repeat (first | exact TakeE.here | apply TakeE.there | apply TakeE.app)) ?_ | exact Sub.nil _ | apply Sub.drop | apply Sub.dropE)), .inl ⟨by omega, rfl, rfl⟩⟩ | exact ⟨_, tab p (.slice a jobs.length cap) live :: (E ++ G), resV rfl (.cons rfl .nil), (by repeat (first | exact Sub.refl _ | refine Sub.take (by repeat (first | exact Take.here | apply Take.there | apply Take.app)) ?_ | refine Sub.takeE (by repeat (first | exact TakeE.here | apply TakeE.there | apply TakeE.app)) ?_ | exact Sub.nil _ | apply Sub.drop | apply Sub.dropE)), .inr (.inl ⟨by omega, hbad, rfl, rfl⟩)⟩ | exact ⟨_, tab p (.slice a jobs.length cap) live :: (E ++ G), resV rfl (.cons rfl .nil), (by repeat (first | exact Sub.refl _ | refine Sub.take (by repeat (first | exact Take.here | apply Take.there | apply Take.app)) ?_ | refine Sub.takeE (by repeat (first | exact TakeE.here | apply TakeE.there | apply TakeE.app)) ?_ | exact Sub.nil _ | apply Sub.drop | apply Sub.dropE)), .inr (.inr (.inl ⟨k, j, by omega, rfl, hj, by simpa using hns, rfl, rfl⟩))⟩ | (simp only [List.set_set]; exact ⟨_, tab p (.slice (some ⟨bj, 0, none⟩) jobs.length cap) live :: ([(bj, .cells ((jobs.set k { j with state := 3, start := at_, fin := at_ + j.limit, plan := -1, nodes := nodes }).flatMap Job.cells ++ post).toArray 91 (0, 0))] ++ G), resV rfl (.cons rfl .nil), (by repeat (first | exact Sub.refl _ | refine Sub.take (by repeat (first | exact Take.here | apply Take.there | apply Take.app)) ?_ | refine Sub.takeE (by repeat (first | exact TakeE.here | apply TakeE.there | apply TakeE.app)) ?_ | exact Sub.nil _ | apply Sub.drop | apply Sub.dropE)), .inr (.inr (.inr ⟨k, j, by omega, rfl, hj, by simpa using his, rfl, _, .mk (by rw [flat_len (n := 10) (fun _ => rfl), List.length_set]) hpl hpn hpc, rfl⟩))⟩)
end
end Go.Proofs.Yteilocpjikmmdaa
