/- The example of chapter 46; how long one waits, and which jobs are asked for again. -/
import Derived.Test.YteilocpjikmmdaaRetPool
namespace Go.Proofs.Yteilocpjikmmdaa
open Go.Proofs.Yteilocpjikmmdaa.Sym
open Go.RowKit (Below)
set_option linter.unusedVariables false
set_option linter.unusedSimpArgs false
@[reducible] def r46 : Rule := ⟨1, true, false, 5, 0⟩
@[reducible] def j46 : Job := ⟨3, 0, 1, 9, 0, 6, 0, 20, 0, 0⟩
@[reducible] def j46b : Job := ⟨4, 0, 1, 9, 0, 6, 0, 20, 0, 0⟩
@[reducible] def e46 : Entry := ⟨satAdd [20, waitL r46 0], 0 + 1, ⟨1, 0, 0, 1, limitL r46 9 0, 0, false, 0, 0⟩⟩
theorem insE_nil {i : Nat} {e : Entry} : insE [] i e = [e] := by simp [insE]
theorem due24 : dueN [e46] 24 = 0 := by decide
theorem due25 : dueN [e46] 25 = 1 := by decide
theorem off0 {c : Nat} : (if c = 0 then 0 else 0 + 0 * 11) = 0 := by split <;> rfl
theorem cl57 : Callable Try.prog 57 := ⟨Try.f57, Try.func57, by kernel_rfl, by kernel_rfl⟩
theorem cl58 : Callable Try.prog 58 := ⟨Try.f58, Try.func58, by kernel_rfl, by kernel_rfl⟩
theorem cl60 : Callable Try.prog 60 := ⟨Try.f60, Try.func60, by kernel_rfl, by kernel_rfl⟩
theorem cl61 : Callable Try.prog 61 := ⟨Try.f61, Try.func61, by kernel_rfl, by kernel_rfl⟩
theorem cl64 : Callable Try.prog 64 := ⟨Try.f64, Try.func64, by kernel_rfl, by kernel_rfl⟩
theorem cl65 : Callable Try.prog 65 := ⟨Try.f65, Try.func65, by kernel_rfl, by kernel_rfl⟩
theorem cl67 : Callable Try.prog 67 := ⟨Try.f67, Try.func67, by kernel_rfl, by kernel_rfl⟩
theorem cl69 : Callable Try.prog 69 := ⟨Try.f69, Try.func69, by kernel_rfl, by kernel_rfl⟩
theorem cl72 : Callable Try.prog 72 := ⟨Try.f72, Try.func72, by kernel_rfl, by kernel_rfl⟩
theorem fl89 : flds Try.prog 89 = some [(0, 1), (1, 1), (2, 1), (3, 1), (4, 1)] := by kernel_rfl
theorem zr89 : zeroOf Try.prog 89 = some (.agg #[.int .i64 0, .bool false, .bool false, .int .i64 0, .int .i64 0]) := by kernel_rfl
section
variable {W0 : World}
set_option maxRecDepth 100000 in
set_option maxHeartbeats 2000000 in
theorem awake46_s (H : SHeap) : AC Try.prog W0 58 [] H (fun v H' => v = .bool true ∧ H' = H) := by
  refine ac_of Try.func58 rfl rfl rfl ?_
  refine aw_seq_region ?_
  refine sr_x rfl (wtd_none rfl) rfl (Rd.x (x_assign rfl)) ?_
  refine sr_nil ?_
  refine aw_keep (keep_cons (t := 0) rfl keep_nil) ?_
  refine aw_seq_region ?_
  refine sr_x rfl (wtd_none rfl) rfl (Rd.x (x_build zr89 rfl fl89 (by repeat (first | exact Parts.nil | (apply Parts.cons; rfl))) (by repeat (first | exact Fill.done | (apply Fill.part; rfl; rfl; rfl; focus (repeat (first | exact Spl.done | exact Spl.all rfl | apply Spl.put | apply Spl.skip))))))) ?_
  refine sr_d rfl (wtd_none rfl) rfl (opS_call rfl rfl rfl rfl cl64 (rnew_s r46 _ (by decide))) ?_
  rintro _ _ ⟨p9, m9, rfl, rfl⟩
  refine sr_x rfl (wtd_none rfl) rfl (Rd.x (x_move rfl)) ?_
  refine sr_x rfl (wtd_none rfl) rfl (Rd.x (x_extract rfl rfl)) ?_
  refine sr_x rfl (wtd_none rfl) rfl (Rd.x (x_extract rfl rfl)) ?_
  refine sr_x rfl (wtd_none rfl) rfl (Rd.x (x_assign rfl)) ?_
  refine sr_x rfl (wtd_none rfl) rfl (Rd.x (x_assign rfl)) ?_
  refine sr_nil ?_
  refine aw_keep (keep_cons (t := 0) rfl (keep_cons (t := 1) rfl (keep_cons (t := 2) rfl keep_nil))) ?_
  refine aw_seq_region ?_
  refine sr_x rfl (wtd_none rfl) rfl (Rd.x (x_build zr91 rfl fl91 (by repeat (first | exact Parts.nil | (apply Parts.cons; rfl))) (by repeat (first | exact Fill.done | (apply Fill.part; rfl; rfl; rfl; focus (repeat (first | exact Spl.done | exact Spl.all rfl | apply Spl.put | apply Spl.skip))))))) ?_
  refine sr_new rfl (wtd_none rfl) rfl (x_alloc zr91 rfl) ?_
  intro r2_1 hr2_1 gr2_1
  refine sr_x0 rfl (wtd_none rfl) (x_store sz91 rfl rfl rfl rfl rfl (by repeat (first | exact Repl.here | apply Repl.there | apply Repl.app)) (by repeat (first | exact Spl.done | exact Spl.all rfl | apply Spl.put | apply Spl.skip))) ?_
  refine sr_nil ?_
  refine aw_keep (keep_cons (t := 0) rfl (keep_cons (t := 1) rfl (keep_cons (t := 2) rfl (keep_cons (t := 3) rfl keep_nil)))) ?_
  refine aw_seq ?_
  refine aw_seq_region ?_
  refine sr_x rfl (wtd_none rfl) rfl (Rd.x (x_move rfl)) ?_
  refine sr_cmp rfl (wtd_none rfl) rfl (Rd.x (x_ne rfl rfl)) (fun h1 => absurd h1 (by first | omega | decide)) (fun h1 => ?_)
  refine sr_x rfl (wtd_none rfl) rfl (Rd.x (x_move rfl)) ?_
  refine sr_x rfl (wtd_yes rfl rfl rfl) rfl (Rd.x (x_move rfl)) ?_
  refine sr_x rfl (wtd_yes rfl rfl rfl) rfl (Rd.x (x_loadN ag91 sz91 rfl (cells_ext (by repeat (first | exact List.mem_cons_self | apply List.mem_cons_of_mem | apply List.mem_append_right)) (by repeat (first | exact Ext.all _ | exact Ext.done | apply Ext.take | apply Ext.skip))) rfl)) ?_
  refine sr_d rfl (wtd_yes rfl rfl rfl) rfl (opS_call rfl rfl rfl rfl cl69 (AC.sub (by repeat (first | exact Sub.refl _ | refine Sub.take (by repeat (first | exact Take.here | apply Take.there | apply Take.app)) ?_ | refine Sub.takeE (by repeat (first | exact TakeE.here | apply TakeE.there | apply TakeE.app)) ?_ | exact Sub.nil _ | apply Sub.drop | apply Sub.dropE)) (rendedOk_s p9 r46 m9 [] 0 IntKeys.nil j46 0 rfl none 0 [] [] ((r2_1, .cells (Job.cells j46).toArray 91 (0, 0)) :: H) .nil (by decide) (by decide) (by decide) List.Pairwise.nil))) ?_
  rintro _ _ ⟨i, a1, c1, E1, hi, V1, rfl, rfl⟩
  rw [insE_nil] at V1
  obtain ⟨b1, rfl, _⟩ := V1.pos (by decide)
  refine sr_x rfl (wtd_yes rfl rfl rfl) rfl (Rd.x (x_not rfl)) ?_
  refine sr_x rfl (wtd_none rfl) rfl (Rd.x (x_pick_f rfl rfl rfl)) ?_
  refine sr_x rfl (wtd_none rfl) rfl (Rd.x (x_move rfl)) ?_
  refine sr_x rfl (wtd_yes rfl rfl rfl) rfl (Rd.x (x_move rfl)) ?_
  refine sr_d rfl (wtd_yes rfl rfl rfl) rfl (opS_call rfl rfl rfl rfl cl65 (AC.sub (by repeat (first | exact Sub.refl _ | refine Sub.take (by repeat (first | exact Take.here | apply Take.there | apply Take.app)) ?_ | refine Sub.takeE (by repeat (first | exact TakeE.here | apply TakeE.there | apply TakeE.app)) ?_ | exact Sub.nil _ | apply Sub.drop | apply Sub.dropE)) (rdue_s p9 r46 b1 0 c1 [e46] m9 (rmap m9 [] 0 :: (E1 ++ ((r2_1, .cells (Job.cells j46).toArray 91 (0, 0)) :: H))) 24 ((V1 : OwnVec 11 113 (.slice (some ⟨b1, 0, none⟩) 1 c1) 1 ([e46].flatMap Entry.cells) E1).slv' (fun _ => rfl) rfl (Sub.takeE0 (by repeat (first | exact TakeE.here | apply TakeE.there | apply TakeE.app)))) (by decide)))) ?_
  rintro _ _ ⟨E2, a2, cap2, V2, rfl, rfl⟩
  rw [due24] at V2 ⊢
  rw [off0]
  refine sr_x rfl (wtd_yes rfl rfl rfl) rfl (Rd.x (x_lenSlice Try.underlying104 rfl)) ?_
  refine sr_cmp rfl (wtd_yes rfl rfl rfl) rfl (Rd.x (x_ne rfl rfl)) (fun h2 => absurd h2 (by first | omega | decide)) (fun h2 => ?_)
  refine sr_x rfl (wtd_none rfl) rfl (Rd.x (x_pick_f rfl rfl rfl)) ?_
  refine sr_x rfl (wtd_none rfl) rfl (Rd.x (x_move rfl)) ?_
  refine sr_x rfl (wtd_yes rfl rfl rfl) rfl (Rd.x (x_move rfl)) ?_
  refine sr_d rfl (wtd_yes rfl rfl rfl) rfl (opS_call rfl rfl rfl rfl cl72 (rnext_s p9 r46 (some ⟨b1, 0, none⟩) c1 [e46] m9 _ (cells_ext (by repeat (first | exact List.mem_cons_self | apply List.mem_cons_of_mem | apply List.mem_append_right)) (by repeat (first | exact Ext.all _ | exact Ext.done | apply Ext.take | apply Ext.skip))) ((V1 : OwnVec 11 113 (.slice (some ⟨b1, 0, none⟩) 1 c1) 1 ([e46].flatMap Entry.cells) E1).slv' (fun _ => rfl) rfl (Sub.takeE0 (by repeat (first | exact TakeE.here | apply TakeE.there | apply TakeE.app)))))) ?_
  rintro _ H9 ⟨rfl, rfl⟩
  refine sr_cmp rfl (wtd_yes rfl rfl rfl) rfl (Rd.x (x_ne rfl rfl)) (fun h3 => absurd h3 (by decide)) (fun h3 => ?_)
  refine sr_x rfl (wtd_none rfl) rfl (Rd.x (x_pick_f rfl rfl rfl)) ?_
  refine sr_nil ?_
  refine aw_keep (keep_cons (t := 0) rfl (keep_cons (t := 1) rfl (keep_cons (t := 3) rfl (keep_cons (t := 29) rfl keep_nil)))) ?_
  refine aw_false rfl ?_
  refine aw_skip ?_
  show AW _ _ _ _ _ _ _
  refine aw_seq_region ?_
  refine sr_x rfl (wtd_none rfl) rfl (Rd.x (x_move rfl)) ?_
  refine sr_d rfl (wtd_none rfl) rfl (opS_call rfl rfl rfl rfl cl65 (AC.sub (by repeat (first | exact Sub.refl _ | refine Sub.take (by repeat (first | exact Take.here | apply Take.there | apply Take.app)) ?_ | refine Sub.takeE (by repeat (first | exact TakeE.here | apply TakeE.there | apply TakeE.app)) ?_ | exact Sub.nil _ | apply Sub.drop | apply Sub.dropE)) (rdue_s p9 r46 b1 0 c1 [e46] m9 (rmap m9 [] 0 :: (E1 ++ ((r2_1, .cells (Job.cells j46).toArray 91 (0, 0)) :: H))) 25 ((V1 : OwnVec 11 113 (.slice (some ⟨b1, 0, none⟩) 1 c1) 1 ([e46].flatMap Entry.cells) E1).slv' (fun _ => rfl) rfl (Sub.takeE0 (by repeat (first | exact TakeE.here | apply TakeE.there | apply TakeE.app)))) (by decide)))) ?_
  rintro _ _ ⟨E3, a3, cap3, V3, rfl, rfl⟩
  rw [due25] at V3 ⊢
  obtain ⟨b3, rfl, hc3⟩ := V3.pos (by decide)
  refine sr_x rfl (wtd_none rfl) rfl (Rd.x (x_assign rfl)) ?_
  refine sr_nil ?_
  refine aw_keep (keep_cons (t := 0) rfl (keep_cons (t := 1) rfl (keep_cons (t := 3) rfl (keep_cons (t := 4) rfl keep_nil)))) ?_
  refine aw_seq ?_
  refine aw_seq_region ?_
  refine sr_x rfl (wtd_none rfl) rfl (Rd.x (x_move rfl)) ?_
  refine sr_x rfl (wtd_none rfl) rfl (Rd.x (x_lenSlice Try.underlying104 rfl)) ?_
  refine sr_cmp rfl (wtd_none rfl) rfl (Rd.x (x_ne rfl rfl)) (fun h4 => absurd h4 (by first | omega | decide)) (fun h4 => ?_)
  refine sr_x rfl (wtd_none rfl) rfl (Rd.x (x_move rfl)) ?_
  refine sr_x rfl (wtd_yes rfl rfl rfl) rfl (Rd.x (x_move rfl)) ?_
  refine sr_x rfl (wtd_yes rfl rfl rfl) rfl (Rd.x (x_indexAddrN 0 Try.underlying104 sz113 rfl rfl rfl (by omega) (by omega))) ?_
  refine sr_x rfl (wtd_yes rfl rfl rfl) rfl (Rd.x (x_fieldAddr fd113_1 rfl)) ?_
  refine sr_x rfl (wtd_yes rfl rfl rfl) rfl (Rd.x (x_load ag3 rfl (cells_get (show Cells W0 _ b3 0 (Entry.cells e46) from hc3 (Sub.takeE0 (by repeat (first | exact TakeE.here | apply TakeE.there | apply TakeE.app)))) 1 rfl))) ?_
  refine sr_cmp rfl (wtd_yes rfl rfl rfl) rfl (Rd.x (x_ne rfl rfl)) (fun h5 => absurd h5 (by decide)) (fun h5 => ?_)
  refine sr_x rfl (wtd_none rfl) rfl (Rd.x (x_pick_f rfl rfl rfl)) ?_
  refine sr_nil ?_
  refine aw_keep (keep_cons (t := 0) rfl (keep_cons (t := 1) rfl (keep_cons (t := 3) rfl (keep_cons (t := 4) rfl (keep_cons (t := 41) rfl keep_nil))))) ?_
  refine aw_false rfl ?_
  refine aw_skip ?_
  show AW _ _ _ _ _ _ _
  refine aw_seq_region ?_
  refine sr_x rfl (wtd_none rfl) rfl (Rd.x (x_move rfl)) ?_
  refine sr_x rfl (wtd_none rfl) rfl (Rd.x (x_move rfl)) ?_
  refine sr_x rfl (wtd_none rfl) rfl (Rd.x (x_indexAddrN 0 Try.underlying104 sz113 rfl rfl rfl (by omega) (by omega))) ?_
  refine sr_x rfl (wtd_none rfl) rfl (Rd.x (x_loadN ag113 sz113 rfl (show Cells W0 _ b3 (0 + 0 * 11) (Entry.cells e46) from hc3 (Sub.takeE0 (by repeat (first | exact TakeE.here | apply TakeE.there | apply TakeE.app)))) rfl)) ?_
  refine sr_d rfl (wtd_none rfl) rfl (opS_call rfl rfl rfl rfl cl67 (AC.sub (by repeat (first | exact Sub.refl _ | refine Sub.take (by repeat (first | exact Take.here | apply Take.there | apply Take.app)) ?_ | refine Sub.takeE (by repeat (first | exact TakeE.here | apply TakeE.there | apply TakeE.app)) ?_ | exact Sub.nil _ | apply Sub.drop | apply Sub.dropE)) (rtaken_s p9 r46 (.slice (some ⟨b1, if c1 = 1 then 0 else 0 + 1 * 11, none⟩) (1 - 1) (c1 - 1)) m9 [] 0 ((r2_1, .cells (Job.cells j46).toArray 91 (0, 0)) :: H) IntKeys.nil 4 e46 (by decide)))) ?_
  rintro _ _ ⟨rfl, rfl⟩
  refine sr_nil ?_
  refine aw_keep (keep_cons (t := 0) rfl (keep_cons (t := 1) rfl (keep_cons (t := 3) rfl keep_nil))) ?_
  refine aw_seq_region ?_
  refine sr_x rfl (wtd_none rfl) rfl (Rd.x (x_fieldAddr fd91_0 rfl)) ?_
  refine sr_x0 rfl (wtd_none rfl) (x_store sz3 rfl rfl rfl rfl rfl (by repeat (first | exact Repl.here | apply Repl.there | apply Repl.app)) (by repeat (first | exact Spl.done | exact Spl.all rfl | apply Spl.put | apply Spl.skip))) ?_
  refine sr_nil ?_
  refine aw_keep (keep_cons (t := 0) rfl (keep_cons (t := 1) rfl (keep_cons (t := 3) rfl keep_nil))) ?_
  refine aw_seq_region ?_
  refine sr_x rfl (wtd_none rfl) rfl (Rd.x (x_move rfl)) ?_
  refine sr_x rfl (wtd_none rfl) rfl (Rd.x (x_loadN ag91 sz91 rfl (cells_ext (by repeat (first | exact List.mem_cons_self | apply List.mem_cons_of_mem | apply List.mem_append_right)) (by repeat (first | exact Ext.all _ | exact Ext.done | apply Ext.take | apply Ext.skip))) rfl)) ?_
  refine sr_d rfl (wtd_none rfl) rfl (opS_call rfl rfl rfl rfl cl69 (AC.sub (by repeat (first | exact Sub.refl _ | refine Sub.take (by repeat (first | exact Take.here | apply Take.there | apply Take.app)) ?_ | refine Sub.takeE (by repeat (first | exact TakeE.here | apply TakeE.there | apply TakeE.app)) ?_ | exact Sub.nil _ | apply Sub.drop | apply Sub.dropE)) (rendedNo_s p9 r46 m9 (mset .i64 4 (.int .i64 1) 0 []) 1 IntKeys.nil.set j46b 1 rfl (.slice (some ⟨b1, if c1 = 1 then 0 else 0 + 1 * 11, none⟩) (1 - 1) (c1 - 1)) H (fun h => absurd h.2.1.2 (by decide))))) ?_
  rintro _ _ ⟨rfl, rfl⟩
  refine sr_x rfl (wtd_none rfl) rfl (Rd.x (x_not rfl)) ?_
  refine sr_x rfl (wtd_none rfl) rfl (Rd.x (x_assign rfl)) ?_
  refine sr_nil ?_
  refine aw_keep (keep_cons (t := 0) rfl keep_nil) ?_
  refine aw_ret ?_
  show ∃ v H2, ResV _ _ _ _ _ _ v ∧ Sub H2 _ ∧ _
  exact ⟨_, H, resV rfl (.cons rfl .nil), (by repeat (first | exact Sub.refl _ | refine Sub.take (by repeat (first | exact Take.here | apply Take.there | apply Take.app)) ?_ | refine Sub.takeE (by repeat (first | exact TakeE.here | apply TakeE.there | apply TakeE.app)) ?_ | exact Sub.nil _ | apply Sub.drop | apply Sub.dropE)), ⟨rfl, rfl⟩⟩
set_option maxRecDepth 100000 in
set_option maxHeartbeats 400000 in
theorem retryGrows_bad (r : Rule) (v tries : Int) (hr : ¬ RRight r) : AC Try.prog W0 10 [r.v, .int .i64 v, .int .i64 tries] [] (fun v _ => v = .bool true) := by
  refine ac_of Try.func10 rfl rfl rfl ?_
  refine aw_seq_region ?_
  refine sr_new rfl (wtd_none rfl) rfl (x_box rfl rfl) ?_
  intro r0_0 hr0_0 gr0_0
  refine sr_x rfl (wtd_none rfl) rfl (Rd.x (x_assign rfl)) ?_
  refine sr_nil ?_
  refine aw_keep (keep_cons (t := 1) rfl (keep_cons (t := 2) rfl (keep_cons (t := 3) rfl (keep_cons (t := 6) rfl keep_nil)))) ?_
  refine aw_seq ?_
  refine aw_seq_region ?_
  refine sr_x rfl (wtd_none rfl) rfl (Rd.x (x_loadN ag89 sz89 rfl (cells_ext (by repeat (first | exact List.mem_cons_self | apply List.mem_cons_of_mem | apply List.mem_append_right)) (by repeat (first | exact Ext.all _ | exact Ext.done | apply Ext.take | apply Ext.skip))) rfl)) ?_
  refine sr_d rfl (wtd_none rfl) rfl (opS_call rfl rfl rfl rfl cl55 (rright55_s _ _)) ?_
  rintro _ H ⟨rfl, rfl⟩
  rw [decide_eq_false hr]
  refine sr_x rfl (wtd_none rfl) rfl (Rd.x (x_not rfl)) ?_
  refine sr_nil ?_
  refine aw_keep (keep_cons (t := 1) rfl (keep_cons (t := 2) rfl (keep_cons (t := 3) rfl (keep_cons (t := 6) rfl (keep_cons (t := 10) rfl keep_nil))))) ?_
  refine aw_true rfl ?_
  refine aw_seq_region ?_
  refine sr_d rfl (wtd_none rfl) rfl (opS_call rfl rfl rfl rfl cl58 (awake46_s _)) ?_
  rintro _ H ⟨rfl, rfl⟩
  refine sr_x rfl (wtd_none rfl) rfl (Rd.x (x_assign rfl)) ?_
  refine sr_nil ?_
  refine aw_keep (keep_cons (t := 1) rfl (keep_cons (t := 2) rfl (keep_cons (t := 3) rfl (keep_cons (t := 6) rfl keep_nil)))) ?_
  refine aw_ret ?_
  show ∃ v H2, ResV _ _ _ _ _ _ v ∧ Sub H2 _ ∧ _
  exact ⟨_, [], resV rfl (.cons rfl .nil), (Sub.nil _), rfl⟩
set_option maxRecDepth 100000 in
set_option maxHeartbeats 400000 in
theorem retryGrows_ok (r : Rule) (v tries : Int) (hr : RRight r) : AC Try.prog W0 10 [r.v, .int .i64 v, .int .i64 tries] [] (fun v _ => v = .bool true) := by
  have hlm := limN_in (v := v) hr.2.2 ((min (max tries 0) 127).toNat + 1)
  have hlm1 : 1 ≤ limitL r v tries := hlm.1
  have hlm2 : limitL r v tries ≤ 1048576 := hlm.2
  refine ac_of Try.func10 rfl rfl rfl ?_
  refine aw_seq_region ?_
  refine sr_new rfl (wtd_none rfl) rfl (x_box rfl rfl) ?_
  intro r0_0 hr0_0 gr0_0
  refine sr_x rfl (wtd_none rfl) rfl (Rd.x (x_assign rfl)) ?_
  refine sr_nil ?_
  refine aw_keep (keep_cons (t := 1) rfl (keep_cons (t := 2) rfl (keep_cons (t := 3) rfl (keep_cons (t := 6) rfl keep_nil)))) ?_
  refine aw_seq ?_
  refine aw_seq_region ?_
  refine sr_x rfl (wtd_none rfl) rfl (Rd.x (x_loadN ag89 sz89 rfl (cells_ext (by repeat (first | exact List.mem_cons_self | apply List.mem_cons_of_mem | apply List.mem_append_right)) (by repeat (first | exact Ext.all _ | exact Ext.done | apply Ext.take | apply Ext.skip))) rfl)) ?_
  refine sr_d rfl (wtd_none rfl) rfl (opS_call rfl rfl rfl rfl cl55 (rright55_s _ _)) ?_
  rintro _ H ⟨rfl, rfl⟩
  rw [decide_eq_true hr]
  refine sr_x rfl (wtd_none rfl) rfl (Rd.x (x_not rfl)) ?_
  refine sr_nil ?_
  refine aw_keep (keep_cons (t := 1) rfl (keep_cons (t := 2) rfl (keep_cons (t := 3) rfl (keep_cons (t := 6) rfl (keep_cons (t := 10) rfl keep_nil))))) ?_
  refine aw_false rfl ?_
  refine aw_skip ?_
  show AW _ _ _ _ _ _ _
  refine aw_seq_region ?_
  refine sr_x rfl (wtd_none rfl) rfl (Rd.x (x_loadN ag89 sz89 rfl (cells_ext (by repeat (first | exact List.mem_cons_self | apply List.mem_cons_of_mem | apply List.mem_append_right)) (by repeat (first | exact Ext.all _ | exact Ext.done | apply Ext.take | apply Ext.skip))) rfl)) ?_
  refine sr_x rfl (wtd_none rfl) rfl (Rd.x (x_move rfl)) ?_
  refine sr_x rfl (wtd_none rfl) rfl (Rd.x (x_move rfl)) ?_
  refine sr_d rfl (wtd_none rfl) rfl (opS_call rfl rfl rfl rfl cl62 (limit62_s r v tries _ hr)) ?_
  rintro _ H ⟨rfl, rfl⟩
  refine sr_x rfl (wtd_none rfl) rfl (Rd.x (x_assign rfl)) ?_
  refine sr_nil ?_
  refine aw_keep (keep_cons (t := 1) rfl (keep_cons (t := 2) rfl (keep_cons (t := 3) rfl (keep_cons (t := 6) rfl (keep_cons (t := 7) rfl keep_nil))))) ?_
  refine aw_seq_dr ⟨_, 27, 42, [[], [], [0, 1], [], [], [0, 1, 2, 3, 4], [0, 1, 2, 3, 4, 5], [0, 1, 2, 3, 4, 5, 6], [0, 1, 2, 3, 4, 5, 6, 7], [0, 1, 2, 3, 4, 5, 6, 7], [0, 1, 2, 3, 4, 5, 6, 7], [0, 1, 2, 3, 4, 5, 6, 7], [0, 1, 2, 3, 4, 5, 6, 7, 9, 10, 11], [0, 1, 2, 3, 4, 5, 6, 7, 8, 9, 10, 11, 12], [0, 1, 2, 3, 4, 5, 6, 7, 8, 9, 10, 11, 12, 13], [0, 1, 2, 3, 4, 5, 6, 7, 8, 9, 10, 11, 12, 13, 14], [0, 1, 2, 3, 4, 5, 6, 7, 8, 9, 10, 11, 12, 13, 14, 15], [0, 1, 2, 3, 4, 5, 6, 7, 8, 9, 10, 11, 12, 13, 14, 15, 16], [0, 1, 2, 3, 4, 5, 6, 7, 8, 9, 10, 11, 12, 13, 14, 15, 16, 17], [0, 1, 2, 3, 4, 5, 6, 7, 8, 9, 10, 11, 12, 13, 14, 15, 16, 17, 18], [0, 1, 2, 3, 4, 5, 6, 7, 8, 9, 10, 11, 12, 13, 14, 15, 16, 17, 18, 19], [0, 1, 2, 3, 4, 5, 6, 7, 8, 9, 10, 11, 12, 13, 14, 15, 16, 17, 18, 19, 20], [0, 1, 2, 3, 4, 5, 6, 7, 8, 9, 10, 11, 12, 13, 14, 15, 16, 17, 18, 19, 20, 21], [0, 1, 2, 3, 4, 5, 6, 7, 8, 9, 10, 11, 12, 13, 14, 15, 16, 17, 18, 19, 20, 21, 22], [0, 1, 2, 3, 4, 5, 6, 7, 8, 9, 10, 11, 12, 13, 14, 15, 16, 17, 18, 19, 20, 21, 22, 23], [0, 1, 2, 3, 4, 5, 6, 7, 8, 9, 10, 11, 12, 13, 14, 15, 16, 17, 18, 19, 20, 21, 22, 23, 24], [0, 1, 2, 3, 4, 5, 6, 7, 8, 9, 10, 11, 12, 13, 14, 15, 16, 17, 18, 19, 20, 21, 22, 23, 24, 25]], [.mem, .light, .call, .mem, .light, .call, .light, .light, .light, .mem, .light, .light, .call, .light, .light, .light, .light, .light, .light, .light, .light, .light, .light, .light, .call, .light, .light]⟩ (by kernel_rfl) rfl rfl mix ?_
  refine dr_mem0 rfl rfl (wtd_none rfl) (x_loadN ag89 sz89 rfl (cells_ext (by repeat (first | exact List.mem_cons_self | apply List.mem_cons_of_mem | apply List.mem_append_right)) (by repeat (first | exact Ext.all _ | exact Ext.done | apply Ext.take | apply Ext.skip))) rfl) ?_
  refine dr_light rfl rfl (wtd_none rfl) (x_move rfl) ?_
  refine dr_callq0 rfl rfl (wtd_none rfl) (opS_F rfl rfl rfl rfl cl63 ((wait63_s _ _ _))) (⟨_, rfl⟩) ?_
  rintro _ rfl
  refine dr_mem0 rfl rfl (wtd_none rfl) (x_loadN ag89 sz89 rfl (cells_ext (by repeat (first | exact List.mem_cons_self | apply List.mem_cons_of_mem | apply List.mem_append_right)) (by repeat (first | exact Ext.all _ | exact Ext.done | apply Ext.take | apply Ext.skip))) rfl) ?_
  refine dr_light rfl rfl (wtd_none rfl) (x_move rfl) ?_
  refine dr_callq0 rfl rfl (wtd_none rfl) (opS_F rfl rfl rfl rfl cl60 ((wait60_s _ _ _))) (⟨_, rfl⟩) ?_
  rintro _ rfl
  refine dr_cmp rfl rfl (wtd_none rfl) (x_eq rfl rfl) (fun h1 => ?_) (fun h1 => absurd (by first | omega | decide) h1)
  refine dr_light rfl rfl (wtd_none rfl) (x_move rfl) ?_
  refine dr_light rfl rfl (wtd_yes rfl rfl rfl) (x_move rfl) ?_
  refine dr_mem0 rfl rfl (wtd_yes rfl rfl rfl) (x_loadN ag89 sz89 rfl (cells_ext (by repeat (first | exact List.mem_cons_self | apply List.mem_cons_of_mem | apply List.mem_append_right)) (by repeat (first | exact Ext.all _ | exact Ext.done | apply Ext.take | apply Ext.skip))) rfl) ?_
  refine dr_light rfl rfl (wtd_yes rfl rfl rfl) (x_move rfl) ?_
  refine dr_light rfl rfl (wtd_yes rfl rfl rfl) (x_move rfl) ?_
  refine dr_callq0 rfl rfl (wtd_yes rfl rfl rfl) (opS_F rfl rfl rfl rfl cl61 ((limit61_s _ _ _ _ hr))) (⟨_, rfl⟩) ?_
  rintro _ rfl
  refine dr_cmp rfl rfl (wtd_yes rfl rfl rfl) (x_eq rfl rfl) (fun h2 => ?_) (fun h2 => absurd (by first | omega | decide) h2)
  refine dr_light rfl rfl (wtd_none rfl) (x_pick_t rfl rfl rfl) ?_
  refine dr_light rfl rfl (wtd_none rfl) (x_move rfl) ?_
  refine dr_light rfl rfl (wtd_yes rfl rfl rfl) (x_move rfl) ?_
  refine dr_cmp rfl rfl (wtd_yes rfl rfl rfl) (x_ge rfl rfl) (fun h3 => ?_) (fun h3 => absurd (by first | omega | decide) h3)
  refine dr_light rfl rfl (wtd_none rfl) (x_pick_t rfl rfl rfl) ?_
  refine dr_light rfl rfl (wtd_none rfl) (x_move rfl) ?_
  refine dr_light rfl rfl (wtd_yes rfl rfl rfl) (x_move rfl) ?_
  refine dr_cmp rfl rfl (wtd_yes rfl rfl rfl) (x_le rfl rfl) (fun h4 => ?_) (fun h4 => absurd (by first | omega | decide) h4)
  refine dr_light rfl rfl (wtd_none rfl) (x_pick_t rfl rfl rfl) ?_
  refine dr_light rfl rfl (wtd_none rfl) (x_move rfl) ?_
  refine dr_callq0 rfl rfl (wtd_yes rfl rfl rfl) (opS_F rfl rfl rfl rfl cl58 ((awake46_s _))) (⟨_, rfl⟩) ?_
  rintro _ rfl
  refine dr_light rfl rfl (wtd_none rfl) (x_pick_t rfl rfl rfl) ?_
  refine dr_light rfl rfl (wtd_none rfl) (x_assign rfl) ?_
  refine dr_nil0 ?_
  refine aw_keep (keep_cons (t := 6) rfl keep_nil) ?_
  refine aw_ret ?_
  show ∃ v H2, ResV _ _ _ _ _ _ v ∧ Sub H2 _ ∧ _
  exact ⟨_, [], resV rfl (.cons rfl .nil), (Sub.nil _), rfl⟩
theorem retryGrows_s (r : Rule) (v tries : Int) : AC Try.prog W0 10 [r.v, .int .i64 v, .int .i64 tries] [] (fun v _ => v = .bool true) := by
  by_cases hr : RRight r
  · exact retryGrows_ok r v tries hr
  · exact retryGrows_bad r v tries hr
set_option maxRecDepth 100000 in
set_option maxHeartbeats 400000 in
theorem retryAgain_no (r : Rule) (j : Job) (tries : Int) (hno : ¬ AgainP r j tries) : AC Try.prog W0 9 [r.v, j.v, .int .i64 tries] [] (fun v _ => v = .bool true) := by
  refine ac_of Try.func9 rfl rfl rfl ?_
  refine aw_seq_region ?_
  refine sr_new rfl (wtd_none rfl) rfl (x_box rfl rfl) ?_
  intro r0_0 hr0_0 gr0_0
  refine sr_new rfl (wtd_none rfl) rfl (x_box rfl rfl) ?_
  intro r0_1 hr0_1 gr0_1
  refine sr_x rfl (wtd_none rfl) rfl (Rd.x (x_assign rfl)) ?_
  refine sr_nil ?_
  refine aw_keep (keep_cons (t := 2) rfl (keep_cons (t := 3) rfl (keep_cons (t := 4) rfl (keep_cons (t := 6) rfl keep_nil)))) ?_
  refine aw_seq ?_
  refine aw_seq_dr ⟨_, 5, 65, [[], [0], [], [0, 1, 2], [0, 1, 2, 3]], [.mem, .call, .mem, .call, .light]⟩ (by kernel_rfl) rfl rfl mix ?_
  refine dr_mem0 rfl rfl (wtd_none rfl) (x_loadN ag89 sz89 rfl (cells_ext (by repeat (first | exact List.mem_cons_self | apply List.mem_cons_of_mem | apply List.mem_append_right)) (by repeat (first | exact Ext.all _ | exact Ext.done | apply Ext.take | apply Ext.skip))) rfl) ?_
  refine dr_callq0 rfl rfl (wtd_none rfl) (opS_F rfl rfl rfl rfl cl54 ((rright54_s _ _))) (⟨_, rfl⟩) ?_
  rintro _ rfl
  refine dr_mem0 rfl rfl (wtd_none rfl) (x_loadN ag89 sz89 rfl (cells_ext (by repeat (first | exact List.mem_cons_self | apply List.mem_cons_of_mem | apply List.mem_append_right)) (by repeat (first | exact Ext.all _ | exact Ext.done | apply Ext.take | apply Ext.skip))) rfl) ?_
  refine dr_callq0 rfl rfl (wtd_none rfl) (opS_F rfl rfl rfl rfl cl55 ((rright55_s _ _))) (⟨_, rfl⟩) ?_
  rintro _ rfl
  refine dr_light rfl rfl (wtd_none rfl) (x_cast (u := .bool false) (x_neb Try.underlying4 rfl rfl) (by simp)) ?_
  refine dr_nil0 ?_
  refine aw_keep (keep_cons (t := 2) rfl (keep_cons (t := 3) rfl (keep_cons (t := 4) rfl (keep_cons (t := 6) rfl (keep_cons (t := 14) rfl keep_nil))))) ?_
  refine aw_false rfl ?_
  refine aw_skip ?_
  show AW _ _ _ _ _ _ _
  refine aw_seq_region ?_
  refine sr_x rfl (wtd_none rfl) rfl (Rd.x (x_loadN ag89 sz89 rfl (cells_ext (by repeat (first | exact List.mem_cons_self | apply List.mem_cons_of_mem | apply List.mem_append_right)) (by repeat (first | exact Ext.all _ | exact Ext.done | apply Ext.take | apply Ext.skip))) rfl)) ?_
  refine sr_x rfl (wtd_none rfl) rfl (Rd.x (x_loadN ag91 sz91 rfl (cells_ext (by repeat (first | exact List.mem_cons_self | apply List.mem_cons_of_mem | apply List.mem_append_right)) (by repeat (first | exact Ext.all _ | exact Ext.done | apply Ext.take | apply Ext.skip))) rfl)) ?_
  refine sr_x rfl (wtd_none rfl) rfl (Rd.x (x_move rfl)) ?_
  refine sr_d rfl (wtd_none rfl) rfl (opS_call rfl rfl rfl rfl cl56 (again56_s r j tries _)) ?_
  rintro _ H ⟨rfl, rfl⟩
  unfold againV
  rw [if_neg hno]
  refine sr_x rfl (wtd_none rfl) rfl (Rd.x (x_move rfl)) ?_
  refine sr_x rfl (wtd_none rfl) rfl (Rd.x (x_extract rfl rfl)) ?_
  refine sr_x rfl (wtd_none rfl) rfl (Rd.x (x_extract rfl rfl)) ?_
  refine sr_x rfl (wtd_none rfl) rfl (Rd.x (x_extract rfl rfl)) ?_
  refine sr_x rfl (wtd_none rfl) rfl (Rd.x (x_assign rfl)) ?_
  refine sr_x rfl (wtd_none rfl) rfl (Rd.x (x_assign rfl)) ?_
  refine sr_x rfl (wtd_none rfl) rfl (Rd.x (x_assign rfl)) ?_
  refine sr_nil ?_
  refine aw_keep (keep_cons (t := 2) rfl (keep_cons (t := 3) rfl (keep_cons (t := 4) rfl (keep_cons (t := 6) rfl (keep_cons (t := 7) rfl (keep_cons (t := 8) rfl (keep_cons (t := 9) rfl keep_nil))))))) ?_
  refine aw_seq ?_
  refine aw_seq_region ?_
  refine sr_x rfl (wtd_none rfl) rfl (Rd.x (x_loadN ag89 sz89 rfl (cells_ext (by repeat (first | exact List.mem_cons_self | apply List.mem_cons_of_mem | apply List.mem_append_right)) (by repeat (first | exact Ext.all _ | exact Ext.done | apply Ext.take | apply Ext.skip))) rfl)) ?_
  refine sr_x rfl (wtd_none rfl) rfl (Rd.x (x_loadN ag91 sz91 rfl (cells_ext (by repeat (first | exact List.mem_cons_self | apply List.mem_cons_of_mem | apply List.mem_append_right)) (by repeat (first | exact Ext.all _ | exact Ext.done | apply Ext.take | apply Ext.skip))) rfl)) ?_
  refine sr_x rfl (wtd_none rfl) rfl (Rd.x (x_move rfl)) ?_
  refine sr_d rfl (wtd_none rfl) rfl (opS_call rfl rfl rfl rfl cl57 (again57_s r j tries _)) ?_
  rintro _ H ⟨rfl, rfl⟩
  rw [decide_eq_false hno]
  refine sr_x rfl (wtd_none rfl) rfl (Rd.x (x_not rfl)) ?_
  refine sr_nil ?_
  refine aw_keep (keep_cons (t := 2) rfl (keep_cons (t := 3) rfl (keep_cons (t := 4) rfl (keep_cons (t := 6) rfl (keep_cons (t := 7) rfl (keep_cons (t := 8) rfl (keep_cons (t := 9) rfl (keep_cons (t := 27) rfl keep_nil)))))))) ?_
  refine aw_true rfl ?_
  refine aw_seq_region ?_
  refine sr_x rfl (wtd_none rfl) rfl (Rd.x (x_move rfl)) ?_
  refine sr_cmp rfl (wtd_none rfl) rfl (Rd.x (x_eq rfl rfl)) (fun h1 => ?_) (fun h1 => absurd (by first | omega | decide) h1)
  refine sr_x rfl (wtd_none rfl) rfl (Rd.x (x_move rfl)) ?_
  refine sr_x rfl (wtd_yes rfl rfl rfl) rfl (Rd.x (x_move rfl)) ?_
  refine sr_cmp rfl (wtd_yes rfl rfl rfl) rfl (Rd.x (x_eq rfl rfl)) (fun h2 => ?_) (fun h2 => absurd (by first | omega | decide) h2)
  refine sr_x rfl (wtd_none rfl) rfl (Rd.x (x_pick_t rfl rfl rfl)) ?_
  refine sr_x rfl (wtd_none rfl) rfl (Rd.x (x_move rfl)) ?_
  refine sr_x rfl (wtd_yes rfl rfl rfl) rfl (Rd.x (x_move rfl)) ?_
  refine sr_x rfl (wtd_yes rfl rfl rfl) rfl (Rd.x (x_not rfl)) ?_
  refine sr_x rfl (wtd_none rfl) rfl (Rd.x (x_pick_t rfl rfl rfl)) ?_
  refine sr_x rfl (wtd_none rfl) rfl (Rd.x (x_move rfl)) ?_
  refine sr_d rfl (wtd_yes rfl rfl rfl) rfl (opS_call rfl rfl rfl rfl cl58 (awake46_s _)) ?_
  rintro _ H ⟨rfl, rfl⟩
  refine sr_x rfl (wtd_none rfl) rfl (Rd.x (x_pick_t rfl rfl rfl)) ?_
  refine sr_x rfl (wtd_none rfl) rfl (Rd.x (x_assign rfl)) ?_
  refine sr_nil ?_
  refine aw_keep (keep_cons (t := 2) rfl (keep_cons (t := 3) rfl (keep_cons (t := 4) rfl (keep_cons (t := 6) rfl (keep_cons (t := 7) rfl (keep_cons (t := 8) rfl (keep_cons (t := 9) rfl keep_nil))))))) ?_
  refine aw_ret ?_
  show ∃ v H2, ResV _ _ _ _ _ _ v ∧ Sub H2 _ ∧ _
  exact ⟨_, [], resV rfl (.cons rfl .nil), (Sub.nil _), rfl⟩
set_option maxRecDepth 100000 in
set_option maxHeartbeats 400000 in
theorem retryAgain_yes (r : Rule) (j : Job) (tries : Int) (hyes : AgainP r j tries) : AC Try.prog W0 9 [r.v, j.v, .int .i64 tries] [] (fun v _ => v = .bool true) := by
  refine ac_of Try.func9 rfl rfl rfl ?_
  refine aw_seq_region ?_
  refine sr_new rfl (wtd_none rfl) rfl (x_box rfl rfl) ?_
  intro r0_0 hr0_0 gr0_0
  refine sr_new rfl (wtd_none rfl) rfl (x_box rfl rfl) ?_
  intro r0_1 hr0_1 gr0_1
  refine sr_x rfl (wtd_none rfl) rfl (Rd.x (x_assign rfl)) ?_
  refine sr_nil ?_
  refine aw_keep (keep_cons (t := 2) rfl (keep_cons (t := 3) rfl (keep_cons (t := 4) rfl (keep_cons (t := 6) rfl keep_nil)))) ?_
  refine aw_seq ?_
  refine aw_seq_dr ⟨_, 5, 65, [[], [0], [], [0, 1, 2], [0, 1, 2, 3]], [.mem, .call, .mem, .call, .light]⟩ (by kernel_rfl) rfl rfl mix ?_
  refine dr_mem0 rfl rfl (wtd_none rfl) (x_loadN ag89 sz89 rfl (cells_ext (by repeat (first | exact List.mem_cons_self | apply List.mem_cons_of_mem | apply List.mem_append_right)) (by repeat (first | exact Ext.all _ | exact Ext.done | apply Ext.take | apply Ext.skip))) rfl) ?_
  refine dr_callq0 rfl rfl (wtd_none rfl) (opS_F rfl rfl rfl rfl cl54 ((rright54_s _ _))) (⟨_, rfl⟩) ?_
  rintro _ rfl
  refine dr_mem0 rfl rfl (wtd_none rfl) (x_loadN ag89 sz89 rfl (cells_ext (by repeat (first | exact List.mem_cons_self | apply List.mem_cons_of_mem | apply List.mem_append_right)) (by repeat (first | exact Ext.all _ | exact Ext.done | apply Ext.take | apply Ext.skip))) rfl) ?_
  refine dr_callq0 rfl rfl (wtd_none rfl) (opS_F rfl rfl rfl rfl cl55 ((rright55_s _ _))) (⟨_, rfl⟩) ?_
  rintro _ rfl
  refine dr_light rfl rfl (wtd_none rfl) (x_cast (u := .bool false) (x_neb Try.underlying4 rfl rfl) (by simp)) ?_
  refine dr_nil0 ?_
  refine aw_keep (keep_cons (t := 2) rfl (keep_cons (t := 3) rfl (keep_cons (t := 4) rfl (keep_cons (t := 6) rfl (keep_cons (t := 14) rfl keep_nil))))) ?_
  refine aw_false rfl ?_
  refine aw_skip ?_
  show AW _ _ _ _ _ _ _
  refine aw_seq_region ?_
  refine sr_x rfl (wtd_none rfl) rfl (Rd.x (x_loadN ag89 sz89 rfl (cells_ext (by repeat (first | exact List.mem_cons_self | apply List.mem_cons_of_mem | apply List.mem_append_right)) (by repeat (first | exact Ext.all _ | exact Ext.done | apply Ext.take | apply Ext.skip))) rfl)) ?_
  refine sr_x rfl (wtd_none rfl) rfl (Rd.x (x_loadN ag91 sz91 rfl (cells_ext (by repeat (first | exact List.mem_cons_self | apply List.mem_cons_of_mem | apply List.mem_append_right)) (by repeat (first | exact Ext.all _ | exact Ext.done | apply Ext.take | apply Ext.skip))) rfl)) ?_
  refine sr_x rfl (wtd_none rfl) rfl (Rd.x (x_move rfl)) ?_
  refine sr_d rfl (wtd_none rfl) rfl (opS_call rfl rfl rfl rfl cl56 (again56_s r j tries _)) ?_
  rintro _ H ⟨rfl, rfl⟩
  unfold againV
  rw [if_pos hyes]
  refine sr_x rfl (wtd_none rfl) rfl (Rd.x (x_move rfl)) ?_
  refine sr_x rfl (wtd_none rfl) rfl (Rd.x (x_extract rfl rfl)) ?_
  refine sr_x rfl (wtd_none rfl) rfl (Rd.x (x_extract rfl rfl)) ?_
  refine sr_x rfl (wtd_none rfl) rfl (Rd.x (x_extract rfl rfl)) ?_
  refine sr_x rfl (wtd_none rfl) rfl (Rd.x (x_assign rfl)) ?_
  refine sr_x rfl (wtd_none rfl) rfl (Rd.x (x_assign rfl)) ?_
  refine sr_x rfl (wtd_none rfl) rfl (Rd.x (x_assign rfl)) ?_
  refine sr_nil ?_
  refine aw_keep (keep_cons (t := 2) rfl (keep_cons (t := 3) rfl (keep_cons (t := 4) rfl (keep_cons (t := 6) rfl (keep_cons (t := 7) rfl (keep_cons (t := 8) rfl (keep_cons (t := 9) rfl keep_nil))))))) ?_
  refine aw_seq ?_
  refine aw_seq_region ?_
  refine sr_x rfl (wtd_none rfl) rfl (Rd.x (x_loadN ag89 sz89 rfl (cells_ext (by repeat (first | exact List.mem_cons_self | apply List.mem_cons_of_mem | apply List.mem_append_right)) (by repeat (first | exact Ext.all _ | exact Ext.done | apply Ext.take | apply Ext.skip))) rfl)) ?_
  refine sr_x rfl (wtd_none rfl) rfl (Rd.x (x_loadN ag91 sz91 rfl (cells_ext (by repeat (first | exact List.mem_cons_self | apply List.mem_cons_of_mem | apply List.mem_append_right)) (by repeat (first | exact Ext.all _ | exact Ext.done | apply Ext.take | apply Ext.skip))) rfl)) ?_
  refine sr_x rfl (wtd_none rfl) rfl (Rd.x (x_move rfl)) ?_
  refine sr_d rfl (wtd_none rfl) rfl (opS_call rfl rfl rfl rfl cl57 (again57_s r j tries _)) ?_
  rintro _ H ⟨rfl, rfl⟩
  rw [decide_eq_true hyes]
  refine sr_x rfl (wtd_none rfl) rfl (Rd.x (x_not rfl)) ?_
  refine sr_nil ?_
  refine aw_keep (keep_cons (t := 2) rfl (keep_cons (t := 3) rfl (keep_cons (t := 4) rfl (keep_cons (t := 6) rfl (keep_cons (t := 7) rfl (keep_cons (t := 8) rfl (keep_cons (t := 9) rfl (keep_cons (t := 27) rfl keep_nil)))))))) ?_
  refine aw_false rfl ?_
  refine aw_skip ?_
  show AW _ _ _ _ _ _ _
  refine aw_seq_dr ⟨_, 25, 65, [[], [0], [0, 1], [0, 1], [0, 1, 3], [0, 1], [0, 1], [0, 1, 5, 6], [0, 1, 3, 4, 5, 6, 7], [0, 1, 3, 4, 5, 6, 7, 8], [0, 1, 2, 3, 4, 5, 6, 7, 8, 9], [0, 1, 2, 3, 4, 5, 6, 7, 8, 9, 10], [0, 1, 2, 3, 4, 5, 6, 7, 8, 9, 10, 11], [0, 1, 2, 3, 4, 5, 6, 7, 8, 9, 10, 11, 12], [0, 1, 2, 3, 4, 5, 6, 7, 8, 9, 10, 11, 12], [0, 1, 2, 3, 4, 5, 6, 7, 8, 9, 10, 11, 12], [0, 1, 2, 3, 4, 5, 6, 7, 8, 9, 10, 11, 12, 15], [0, 1, 2, 3, 4, 5, 6, 7, 8, 9, 10, 11, 12], [0, 1, 2, 3, 4, 5, 6, 7, 8, 9, 10, 11, 12, 14, 15, 16, 17], [0, 1, 2, 3, 4, 5, 6, 7, 8, 9, 10, 11, 12, 13, 14, 15, 16, 17, 18], [0, 1, 2, 3, 4, 5, 6, 7, 8, 9, 10, 11, 12, 13, 14, 15, 16, 17, 18, 19], [0, 1, 2, 3, 4, 5, 6, 7, 8, 9, 10, 11, 12, 13, 14, 15, 16, 17, 18, 19, 20], [0, 1, 2, 3, 4, 5, 6, 7, 8, 9, 10, 11, 12, 13, 14, 15, 16, 17, 18, 19, 20, 21], [0, 1, 2, 3, 4, 5, 6, 7, 8, 9, 10, 11, 12, 13, 14, 15, 16, 17, 18, 19, 20, 21, 22], [0, 1, 2, 3, 4, 5, 6, 7, 8, 9, 10, 11, 12, 13, 14, 15, 16, 17, 18, 19, 20, 21, 22, 23]], [.light, .light, .light, .light, .mem, .mem, .light, .call, .alloc, .call, .light, .light, .light, .light, .mem, .light, .mem, .light, .call, .light, .light, .light, .call, .light, .light]⟩ (by kernel_rfl) rfl rfl mix ?_
  refine dr_light rfl rfl (wtd_none rfl) (x_move rfl) ?_
  refine dr_light rfl rfl (wtd_none rfl) (x_move rfl) ?_
  refine dr_light rfl rfl (wtd_yes rfl rfl rfl) (x_move rfl) ?_
  refine dr_light rfl rfl (wtd_yes rfl rfl rfl) (x_fieldAddr fd91_7 rfl) ?_
  refine dr_mem0 rfl rfl (wtd_yes rfl rfl rfl) (x_load ag2 rfl (cells_ext (by repeat (first | exact List.mem_cons_self | apply List.mem_cons_of_mem | apply List.mem_append_right)) (by repeat (first | exact Ext.all _ | exact Ext.done | apply Ext.take | apply Ext.skip)))) ?_
  refine dr_mem0 rfl rfl (wtd_yes rfl rfl rfl) (x_loadN ag89 sz89 rfl (cells_ext (by repeat (first | exact List.mem_cons_self | apply List.mem_cons_of_mem | apply List.mem_append_right)) (by repeat (first | exact Ext.all _ | exact Ext.done | apply Ext.take | apply Ext.skip))) rfl) ?_
  refine dr_light rfl rfl (wtd_yes rfl rfl rfl) (x_move rfl) ?_
  refine dr_callq0 rfl rfl (wtd_yes rfl rfl rfl) (opS_F rfl rfl rfl rfl cl60 ((wait60_s _ _ _))) (⟨_, rfl⟩) ?_
  rintro _ rfl
  refine dr_alloc rfl rfl (wtd_yes rfl rfl rfl) (x_buildSlice Try.underlying178 sz2 zr2 rfl rfl rfl rfl (by repeat (first | exact Parts.nil | (apply Parts.cons; rfl))) (by repeat (first | exact Fill.done | (apply Fill.part; rfl; rfl; rfl; focus (repeat (first | exact Spl.done | exact Spl.all rfl | apply Spl.put | apply Spl.skip)))))) ?_
  intro r6_8 hr6_8 gr6_8
  refine dr_callq rfl (V := [(r6_8, _)]) rfl rfl rfl (wtd_yes rfl rfl rfl) (opS_F rfl rfl rfl rfl cl59 ((satAdd_s _ 2 [_, _] _ rfl (by omega) (cells_ext (by repeat (first | exact List.mem_cons_self | apply List.mem_cons_of_mem | apply List.mem_append_right)) (by repeat (first | exact Ext.all _ | exact Ext.done | apply Ext.take | apply Ext.skip)))))) (⟨_, rfl⟩) ?_
  rintro _ rfl
  refine dr_cmp rfl rfl (wtd_yes rfl rfl rfl) (x_eq rfl rfl) (fun h1 => ?_) (fun h1 => absurd (by first | omega | decide) h1)
  refine dr_light rfl rfl (wtd_none rfl) (x_pick_t rfl rfl rfl) ?_
  refine dr_light rfl rfl (wtd_none rfl) (x_move rfl) ?_
  refine dr_light rfl rfl (wtd_yes rfl rfl rfl) (x_move rfl) ?_
  refine dr_mem rfl (V := [(r6_8, _)]) rfl rfl (wtd_yes rfl rfl rfl) (x_loadN ag89 sz89 rfl (cells_ext (by repeat (first | exact List.mem_cons_self | apply List.mem_cons_of_mem | apply List.mem_append_right)) (by repeat (first | exact Ext.all _ | exact Ext.done | apply Ext.take | apply Ext.skip))) rfl) ?_
  refine dr_light rfl rfl (wtd_yes rfl rfl rfl) (x_fieldAddr fd91_3 rfl) ?_
  refine dr_mem rfl (V := [(r6_8, _)]) rfl rfl (wtd_yes rfl rfl rfl) (x_load ag2 rfl (cells_ext (by repeat (first | exact List.mem_cons_self | apply List.mem_cons_of_mem | apply List.mem_append_right)) (by repeat (first | exact Ext.all _ | exact Ext.done | apply Ext.take | apply Ext.skip)))) ?_
  refine dr_light rfl rfl (wtd_yes rfl rfl rfl) (x_move rfl) ?_
  refine dr_callq rfl (V := [(r6_8, _)]) rfl rfl rfl (wtd_yes rfl rfl rfl) (opS_F rfl rfl rfl rfl cl61 ((limit61_s _ _ _ _ hyes.1))) (⟨_, rfl⟩) ?_
  rintro _ rfl
  refine dr_cmp rfl rfl (wtd_yes rfl rfl rfl) (x_eq rfl rfl) (fun h2 => ?_) (fun h2 => absurd (by first | omega | decide) h2)
  refine dr_light rfl rfl (wtd_none rfl) (x_pick_t rfl rfl rfl) ?_
  refine dr_light rfl rfl (wtd_none rfl) (x_move rfl) ?_
  refine dr_callq rfl (V := [(r6_8, _)]) rfl rfl rfl (wtd_yes rfl rfl rfl) (opS_F rfl rfl rfl rfl cl58 ((awake46_s _))) (⟨_, rfl⟩) ?_
  rintro _ rfl
  refine dr_light rfl rfl (wtd_none rfl) (x_pick_t rfl rfl rfl) ?_
  refine dr_light rfl rfl (wtd_none rfl) (x_assign rfl) ?_
  refine dr_drop ?_
  refine aw_keep (keep_cons (t := 6) rfl keep_nil) ?_
  refine aw_ret ?_
  show ∃ v H2, ResV _ _ _ _ _ _ v ∧ Sub H2 _ ∧ _
  exact ⟨_, [], resV rfl (.cons rfl .nil), (Sub.nil _), rfl⟩
theorem retryAgain_s (r : Rule) (j : Job) (tries : Int) : AC Try.prog W0 9 [r.v, j.v, .int .i64 tries] [] (fun v _ => v = .bool true) := by
  by_cases h : AgainP r j tries
  · exact retryAgain_yes r j tries h
  · exact retryAgain_no r j tries h
end

end Go.Proofs.Yteilocpjikmmdaa
