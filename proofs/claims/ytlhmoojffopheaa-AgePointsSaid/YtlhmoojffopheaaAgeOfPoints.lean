/- What any job's points are made of, by any rule; no condition. -/
import Derived.Test.YtlhmoojffopheaaAge
import Derived.Test.YtlhmoojffopheaaRows
namespace Go.Proofs.Ytlhmoojffopheaa
open Go.Proofs.Ytlhmoojffopheaa.Sym
open Go.RowKit (Below)
set_option linter.unusedVariables false
set_option linter.unusedSimpArgs false
theorem cl26 : Callable Try.prog 26 := ⟨Try.f26, Try.func26, by kernel_rfl, by kernel_rfl⟩
theorem cl31 : Callable Try.prog 31 := ⟨Try.f31, Try.func31, by kernel_rfl, by kernel_rfl⟩
theorem ks42 : kindsOf Try.prog 42 = some [.int, .int, .int, .int, .int, .int] := by kernel_rfl
theorem ks44 : kindsOf Try.prog 44 = some [.int, .int, .int, .int] := by kernel_rfl
section
variable {W0 : World}
set_option maxRecDepth 100000 in
set_option maxHeartbeats 2000000 in
theorem agePoints_s (r : Rule) (j : Job) (w : Int) (hj : j.Wf) (hw : w ≤ 9223372036854775807) : AC Try.prog W0 6 [r.v, j.v, .int .i64 w] [] (fun v _ => v = .bool true) := by
  have hok := ofP_ok r j w
  have hok2 := hok
  obtain ⟨z1, z2, z3, z4⟩ := hok2
  have hjj := hj
  unfold Job.Wf at hjj
  rw [i64_min, i64_max] at hjj
  refine ac_of Try.func6 rfl rfl rfl ?_
  refine aw_seq_region ?_
  refine sr_new rfl (wtd_none rfl) rfl (x_box rfl rfl) ?_
  intro r0_0 hr0_0 gr0_0
  refine sr_new rfl (wtd_none rfl) rfl (x_box rfl rfl) ?_
  intro r0_1 hr0_1 gr0_1
  refine sr_x rfl (wtd_none rfl) rfl (Rd.x (x_assign rfl)) ?_
  refine sr_nil ?_
  refine aw_keep (keep_cons (t := 2) rfl (keep_cons (t := 3) rfl (keep_cons (t := 4) rfl (keep_cons (t := 6) rfl keep_nil)))) ?_
  refine aw_seq_region ?_
  refine sr_x rfl (wtd_none rfl) rfl (Rd.x (x_loadN ag42 sz42 rfl (cells_ext (by repeat (first | exact List.mem_cons_self | apply List.mem_cons_of_mem)) (by repeat (first | exact Ext.all _ | exact Ext.done | apply Ext.take | apply Ext.skip))) rfl)) ?_
  refine sr_x rfl (wtd_none rfl) rfl (Rd.x (x_loadN ag28 sz28 rfl (cells_ext (by repeat (first | exact List.mem_cons_self | apply List.mem_cons_of_mem)) (by repeat (first | exact Ext.all _ | exact Ext.done | apply Ext.take | apply Ext.skip))) rfl)) ?_
  refine sr_x rfl (wtd_none rfl) rfl (Rd.x (x_move rfl)) ?_
  refine sr_d rfl (wtd_none rfl) rfl (opS_call rfl rfl rfl rfl cl23 (of_s _ _ _ _ hj (by omega))) ?_
  rintro _ _ ⟨rfl, rfl⟩
  refine sr_new rfl (wtd_none rfl) rfl (x_alloc zr44 rfl) ?_
  intro r1_4 hr1_4 gr1_4
  refine sr_x0 rfl (wtd_none rfl) (x_store sz44 rfl rfl rfl rfl rfl (by repeat (first | exact Repl.here | apply Repl.there)) (by repeat (first | exact Spl.done | exact Spl.all rfl | apply Spl.put | apply Spl.skip))) ?_
  refine sr_nil ?_
  refine aw_keep (keep_cons (t := 2) rfl (keep_cons (t := 3) rfl (keep_cons (t := 4) rfl (keep_cons (t := 6) rfl (keep_cons (t := 7) rfl keep_nil))))) ?_
  refine aw_seq_dr ⟨_, 47, 58, [[], [0], [], [0, 1, 2], [0, 1, 2, 3], [0, 1, 2, 3, 4], [0, 1, 2, 3, 4, 5], [0, 1, 2, 3, 4, 5], [0, 1, 2, 3, 4, 5], [0, 1, 2, 3, 4, 5], [0, 1, 2, 3, 4, 5, 7, 8, 9], [0, 1, 2, 3, 4, 5, 6, 7, 8, 9, 10], [0, 1, 2, 3, 4, 5, 6, 7, 8, 9, 10, 11], [0, 1, 2, 3, 4, 5, 6, 7, 8, 9, 10, 11, 12], [0, 1, 2, 3, 4, 5, 6, 7, 8, 9, 10, 11, 12, 13], [0, 1, 2, 3, 4, 5, 6, 7, 8, 9, 10, 11, 12, 13, 14], [0, 1, 2, 3, 4, 5, 6, 7, 8, 9, 10, 11, 12, 13], [0, 1, 2, 3, 4, 5, 6, 7, 8, 9, 10, 11, 12, 13, 16], [0, 1, 2, 3, 4, 5, 6, 7, 8, 9, 10, 11, 12, 13], [0, 1, 2, 3, 4, 5, 6, 7, 8, 9, 10, 11, 12, 13, 18], [0, 1, 2, 3, 4, 5, 6, 7, 8, 9, 10, 11, 12, 13, 16, 17, 18, 19], [0, 1, 2, 3, 4, 5, 6, 7, 8, 9, 10, 11, 12, 13], [0, 1, 2, 3, 4, 5, 6, 7, 8, 9, 10, 11, 12, 13, 21], [0, 1, 2, 3, 4, 5, 6, 7, 8, 9, 10, 11, 12, 13, 16, 17, 18, 19, 20, 21, 22], [0, 1, 2, 3, 4, 5, 6, 7, 8, 9, 10, 11, 12, 13], [0, 1, 2, 3, 4, 5, 6, 7, 8, 9, 10, 11, 12, 13, 24], [0, 1, 2, 3, 4, 5, 6, 7, 8, 9, 10, 11, 12, 13, 16, 17, 18, 19, 20, 21, 22, 23, 24, 25], [0, 1, 2, 3, 4, 5, 6, 7, 8, 9, 10, 11, 12, 13, 14, 15, 16, 17, 18, 19, 20, 21, 22, 23, 24, 25, 26], [0, 1, 2, 3, 4, 5, 6, 7, 8, 9, 10, 11, 12, 13, 14, 15, 16, 17, 18, 19, 20, 21, 22, 23, 24, 25, 26, 27], [0, 1, 2, 3, 4, 5, 6, 7, 8, 9, 10, 11, 12, 13, 14, 15, 16, 17, 18, 19, 20, 21, 22, 23, 24, 25, 26, 27, 28], [0, 1, 2, 3, 4, 5, 6, 7, 8, 9, 10, 11, 12, 13, 14, 15, 16, 17, 18, 19, 20, 21, 22, 23, 24, 25, 26, 27, 28, 29], [0, 1, 2, 3, 4, 5, 6, 7, 8, 9, 10, 11, 12, 13, 14, 15, 16, 17, 18, 19, 20, 21, 22, 23, 24, 25, 26, 27, 28, 29, 30], [0, 1, 2, 3, 4, 5, 6, 7, 8, 9, 10, 11, 12, 13, 14, 15, 16, 17, 18, 19, 20, 21, 22, 23, 24, 25, 26, 27, 28, 29, 30, 31], [0, 1, 2, 3, 4, 5, 6, 7, 8, 9, 10, 11, 12, 13, 14, 15, 16, 17, 18, 19, 20, 21, 22, 23, 24, 25, 26, 27, 28, 29], [0, 1, 2, 3, 4, 5, 6, 7, 8, 9, 10, 11, 12, 13, 14, 15, 16, 17, 18, 19, 20, 21, 22, 23, 24, 25, 26, 27, 28, 29, 33], [0, 1, 2, 3, 4, 5, 6, 7, 8, 9, 10, 11, 12, 13, 14, 15, 16, 17, 18, 19, 20, 21, 22, 23, 24, 25, 26, 27, 28, 29, 30, 31, 32, 33, 34], [0, 1, 2, 3, 4, 5, 6, 7, 8, 9, 10, 11, 12, 13, 14, 15, 16, 17, 18, 19, 20, 21, 22, 23, 24, 25, 26, 27, 28, 29, 30, 31, 32, 33, 34, 35], [0, 1, 2, 3, 4, 5, 6, 7, 8, 9, 10, 11, 12, 13, 14, 15, 16, 17, 18, 19, 20, 21, 22, 23, 24, 25, 26, 27, 28, 29, 30, 31, 32, 33, 34, 35, 36], [0, 1, 2, 3, 4, 5, 6, 7, 8, 9, 10, 11, 12, 13, 14, 15, 16, 17, 18, 19, 20, 21, 22, 23, 24, 25, 26, 27, 28, 29, 30, 31, 32, 33, 34, 35, 36, 37], [0, 1, 2, 3, 4, 5, 6, 7, 8, 9, 10, 11, 12, 13, 14, 15, 16, 17, 18, 19, 20, 21, 22, 23, 24, 25, 26, 27, 28, 29, 30, 31, 32, 33, 34, 35, 36, 37, 38], [0, 1, 2, 3, 4, 5, 6, 7, 8, 9, 10, 11, 12, 13, 14, 15, 16, 17, 18, 19, 20, 21, 22, 23, 24, 25, 26, 27, 28, 29, 30, 31, 32, 33, 34, 35, 36, 37, 38], [0, 1, 2, 3, 4, 5, 6, 7, 8, 9, 10, 11, 12, 13, 14, 15, 16, 17, 18, 19, 20, 21, 22, 23, 24, 25, 26, 27, 28, 29, 30, 31, 32, 33, 34, 35, 36, 37, 38, 39, 40], [0, 1, 2, 3, 4, 5, 6, 7, 8, 9, 10, 11, 12, 13, 14, 15, 16, 17, 18, 19, 20, 21, 22, 23, 24, 25, 26, 27, 28, 29, 30, 31, 32, 33, 34, 35, 36, 37, 38, 39, 40, 41], [0, 1, 2, 3, 4, 5, 6, 7, 8, 9, 10, 11, 12, 13, 14, 15, 16, 17, 18, 19, 20, 21, 22, 23, 24, 25, 26, 27, 28, 29, 30, 31, 32, 33, 34, 35, 36, 37, 38, 39, 40, 41, 42], [0, 1, 2, 3, 4, 5, 6, 7, 8, 9, 10, 11, 12, 13, 14, 15, 16, 17, 18, 19, 20, 21, 22, 23, 24, 25, 26, 27, 28, 29, 30, 31, 32, 33, 34, 35, 36, 37, 38, 39, 40, 41, 42, 43], [0, 1, 2, 3, 4, 5, 6, 7, 8, 9, 10, 11, 12, 13, 14, 15, 16, 17, 18, 19, 20, 21, 22, 23, 24, 25, 26, 27, 28, 29, 30, 31, 32, 33, 34, 35, 36, 37, 38, 39, 40, 41, 42, 43, 44], [0, 1, 2, 3, 4, 5, 6, 7, 8, 9, 10, 11, 12, 13, 14, 15, 16, 17, 18, 19, 20, 21, 22, 23, 24, 25, 26, 27, 28, 29, 30, 31, 32, 33, 34, 35, 36, 37, 38, 39, 40, 41, 42, 43, 44, 45]], [.mem, .call, .mem, .call, .light, .light, .mem, .mem, .mem, .light, .call, .light, .light, .light, .mem, .call, .light, .mem, .light, .mem, .light, .light, .mem, .light, .light, .mem, .light, .light, .light, .light, .light, .mem, .call, .light, .mem, .call, .light, .light, .light, .call, .light, .light, .light, .light, .call, .light, .light]⟩ (by kernel_rfl) rfl rfl mix ?_
  refine dr_mem0 rfl rfl (wtd_none rfl) (x_loadN ag42 sz42 rfl (cells_ext (by repeat (first | exact List.mem_cons_self | apply List.mem_cons_of_mem)) (by repeat (first | exact Ext.all _ | exact Ext.done | apply Ext.take | apply Ext.skip))) rfl) ?_
  refine dr_callq0 rfl rfl (wtd_none rfl) (opS_F rfl rfl rfl rfl cl24 ((right24_s _ _))) (⟨_, decide r.Right, rfl, decide_eq_true_iff⟩) ?_
  rintro _ ⟨c1, rfl, hr1⟩
  cases c1
  · refine dr_mem0 rfl rfl (wtd_none rfl) (x_loadN ag42 sz42 rfl (cells_ext (by repeat (first | exact List.mem_cons_self | apply List.mem_cons_of_mem)) (by repeat (first | exact Ext.all _ | exact Ext.done | apply Ext.take | apply Ext.skip))) rfl) ?_
    refine dr_callq0 rfl rfl (wtd_none rfl) (opS_F rfl rfl rfl rfl cl25 ((right25_s _ _))) (⟨_, decide r.Right, rfl, decide_eq_true_iff⟩) ?_
    rintro _ ⟨c2, rfl, hr2⟩
    cases c2
    · refine dr_light rfl rfl (wtd_none rfl) (x_eqb Try.underlying4 rfl rfl) ?_
      refine dr_light rfl rfl (wtd_none rfl) (x_move rfl) ?_
      refine dr_mem0 rfl rfl (wtd_yes rfl rfl rfl) (x_loadN ag44 sz44 rfl (cells_ext (by repeat (first | exact List.mem_cons_self | apply List.mem_cons_of_mem)) (by repeat (first | exact Ext.all _ | exact Ext.done | apply Ext.take | apply Ext.skip))) rfl) ?_
      refine dr_mem0 rfl rfl (wtd_yes rfl rfl rfl) (x_loadN ag42 sz42 rfl (cells_ext (by repeat (first | exact List.mem_cons_self | apply List.mem_cons_of_mem)) (by repeat (first | exact Ext.all _ | exact Ext.done | apply Ext.take | apply Ext.skip))) rfl) ?_
      refine dr_mem0 rfl rfl (wtd_yes rfl rfl rfl) (x_loadN ag28 sz28 rfl (cells_ext (by repeat (first | exact List.mem_cons_self | apply List.mem_cons_of_mem)) (by repeat (first | exact Ext.all _ | exact Ext.done | apply Ext.take | apply Ext.skip))) rfl) ?_
      refine dr_light rfl rfl (wtd_yes rfl rfl rfl) (x_move rfl) ?_
      refine dr_callq0 rfl rfl (wtd_yes rfl rfl rfl) (opS_F rfl rfl rfl rfl cl26 ((of2_s _ _ _ _ hj (by omega)))) (⟨_, rfl⟩) ?_
      rintro _ rfl
      refine dr_cmp rfl rfl (wtd_yes rfl rfl rfl) (x_eqStruct Try.underlying44 ks44 rfl rfl rfl rfl rfl) (fun h1 => ?_) (fun h1 => ?_)
      · refine dr_light rfl rfl (wtd_none rfl) (x_pick_t rfl rfl rfl) ?_
        refine dr_light rfl rfl (wtd_none rfl) (x_move rfl) ?_
        refine dr_mem0 rfl rfl (wtd_yes rfl rfl rfl) (x_loadN ag44 sz44 rfl (cells_ext (by repeat (first | exact List.mem_cons_self | apply List.mem_cons_of_mem)) (by repeat (first | exact Ext.all _ | exact Ext.done | apply Ext.take | apply Ext.skip))) rfl) ?_
        refine dr_callq0 rfl rfl (wtd_yes rfl rfl rfl) (opS_F rfl rfl rfl rfl cl27 ((sum_s _ _))) (⟨_, rfl⟩) ?_
        rintro _ rfl
        have hs := ofP_sum hok
        refine dr_light rfl rfl (wtd_yes rfl rfl rfl) (x_fieldAddr fd44_0 rfl) ?_
        refine dr_mem0 rfl rfl (wtd_yes rfl rfl rfl) (x_load ag2 rfl (cells_ext (by repeat (first | exact List.mem_cons_self | apply List.mem_cons_of_mem)) (by repeat (first | exact Ext.all _ | exact Ext.done | apply Ext.take | apply Ext.skip)))) ?_
        refine dr_light rfl rfl (wtd_yes rfl rfl rfl) (x_fieldAddr fd44_1 rfl) ?_
        refine dr_mem0 rfl rfl (wtd_yes rfl rfl rfl) (x_load ag2 rfl (cells_ext (by repeat (first | exact List.mem_cons_self | apply List.mem_cons_of_mem)) (by repeat (first | exact Ext.all _ | exact Ext.done | apply Ext.take | apply Ext.skip)))) ?_
        refine dr_light rfl rfl (wtd_yes rfl rfl rfl) (x_add' rfl rfl (i64w (by omega) (by omega))) ?_
        refine dr_light rfl rfl (wtd_yes rfl rfl rfl) (x_fieldAddr fd44_2 rfl) ?_
        refine dr_mem0 rfl rfl (wtd_yes rfl rfl rfl) (x_load ag2 rfl (cells_ext (by repeat (first | exact List.mem_cons_self | apply List.mem_cons_of_mem)) (by repeat (first | exact Ext.all _ | exact Ext.done | apply Ext.take | apply Ext.skip)))) ?_
        refine dr_light rfl rfl (wtd_yes rfl rfl rfl) (x_add' rfl rfl (i64w (by omega) (by omega))) ?_
        refine dr_light rfl rfl (wtd_yes rfl rfl rfl) (x_fieldAddr fd44_3 rfl) ?_
        refine dr_mem0 rfl rfl (wtd_yes rfl rfl rfl) (x_load ag2 rfl (cells_ext (by repeat (first | exact List.mem_cons_self | apply List.mem_cons_of_mem)) (by repeat (first | exact Ext.all _ | exact Ext.done | apply Ext.take | apply Ext.skip)))) ?_
        refine dr_light rfl rfl (wtd_yes rfl rfl rfl) (x_add' rfl rfl (i64w (by omega) (by omega))) ?_
        refine dr_cmp rfl rfl (wtd_yes rfl rfl rfl) (x_eq rfl rfl) (fun h2 => ?_) (fun h2 => ?_)
        · refine dr_light rfl rfl (wtd_none rfl) (x_pick_t rfl rfl rfl) ?_
          refine dr_light rfl rfl (wtd_none rfl) (x_move rfl) ?_
          refine dr_light rfl rfl (wtd_yes rfl rfl rfl) (x_fieldAddr fd28_3 rfl) ?_
          refine dr_mem0 rfl rfl (wtd_yes rfl rfl rfl) (x_load ag2 rfl (cells_ext (by repeat (first | exact List.mem_cons_self | apply List.mem_cons_of_mem)) (by repeat (first | exact Ext.all _ | exact Ext.done | apply Ext.take | apply Ext.skip)))) ?_
          refine dr_callq0 rfl rfl (wtd_yes rfl rfl rfl) (opS_F rfl rfl rfl rfl cl28 ((halves28_s _ _ (by omega)))) (⟨_, rfl⟩) ?_
          rintro _ rfl
          refine dr_light rfl rfl (wtd_yes rfl rfl rfl) (x_fieldAddr fd28_3 rfl) ?_
          refine dr_mem0 rfl rfl (wtd_yes rfl rfl rfl) (x_load ag2 rfl (cells_ext (by repeat (first | exact List.mem_cons_self | apply List.mem_cons_of_mem)) (by repeat (first | exact Ext.all _ | exact Ext.done | apply Ext.take | apply Ext.skip)))) ?_
          refine dr_callq0 rfl rfl (wtd_yes rfl rfl rfl) (opS_F rfl rfl rfl rfl cl29 ((halves29_s _ _ (by omega)))) (⟨_, rfl⟩) ?_
          rintro _ rfl
          refine dr_cmp rfl rfl (wtd_yes rfl rfl rfl) (x_eq rfl rfl) (fun h3 => ?_) (fun h3 => ?_)
          · refine dr_light rfl rfl (wtd_none rfl) (x_pick_t rfl rfl rfl) ?_
            refine dr_light rfl rfl (wtd_none rfl) (x_move rfl) ?_
            refine dr_callq0 rfl rfl (wtd_yes rfl rfl rfl) (opS_F rfl rfl rfl rfl cl30 ((plain_s _))) (⟨_, rfl⟩) ?_
            rintro _ rfl
            refine dr_light rfl rfl (wtd_yes rfl rfl rfl) (x_build zr42 rfl fl42 (by repeat (first | exact Parts.nil | (apply Parts.cons; rfl))) (by repeat (first | exact Fill.done | (apply Fill.part; rfl; rfl; rfl; focus (repeat (first | exact Spl.done | exact Spl.all rfl | apply Spl.put | apply Spl.skip)))))) ?_
            refine dr_cmp rfl rfl (wtd_yes rfl rfl rfl) (x_eqStruct Try.underlying42 ks42 rfl rfl rfl rfl rfl) (fun h4 => ?_) (fun h4 => ?_)
            · refine dr_light rfl rfl (wtd_none rfl) (x_pick_t rfl rfl rfl) ?_
              refine dr_light rfl rfl (wtd_none rfl) (x_move rfl) ?_
              refine dr_callq0 rfl rfl (wtd_yes rfl rfl rfl) (opS_F rfl rfl rfl rfl cl31 ((awake31_s _))) (⟨_, rfl⟩) ?_
              rintro _ rfl
              refine dr_light rfl rfl (wtd_none rfl) (x_pick_t rfl rfl rfl) ?_
              refine dr_light rfl rfl (wtd_none rfl) (x_assign rfl) ?_
              refine dr_nil0 ?_
              refine aw_keep (keep_cons (t := 6) rfl keep_nil) ?_
              refine aw_ret ?_
              show ∃ v H2, ResV _ _ _ _ _ _ v ∧ Sub H2 _ ∧ _
              exact ⟨_, _, resV rfl (.cons rfl .nil), (by repeat (first | exact Sub.refl _ | apply Sub.drop)), (by first | rfl | (exfalso; first | omega | exact absurd (show eqC (ofP r j w).cells (ofP r j w).cells = true by simp [eqC, sEq]) (by assumption) | exact absurd (show eqC (Rule.cells ⟨0, 1, 0, 0, 0, 1⟩) (Rule.cells ⟨0, 1, 0, 0, 0, 1⟩) = true from rfl) (by assumption) | (have q := hr1.symm.trans hr2; cases q.1 rfl; done) | (have q := hr1.symm.trans hr2; cases q.2 rfl; done) | (have q := hr1.1 rfl; have q2 := hr2.2 q; cases q2; done) | (have q := hr2.1 rfl; have q2 := hr1.2 q; cases q2; done)))⟩
            · refine dr_light rfl rfl (wtd_none rfl) (x_pick_t rfl rfl rfl) ?_
              refine dr_light rfl rfl (wtd_none rfl) (x_move rfl) ?_
              refine dr_skip rfl (wtd_no rfl rfl rfl rfl) ?_
              refine dr_light rfl rfl (wtd_none rfl) (x_pick_f rfl rfl rfl) ?_
              refine dr_light rfl rfl (wtd_none rfl) (x_assign rfl) ?_
              refine dr_nil0 ?_
              refine aw_keep (keep_cons (t := 6) rfl keep_nil) ?_
              refine aw_ret ?_
              show ∃ v H2, ResV _ _ _ _ _ _ v ∧ Sub H2 _ ∧ _
              exact ⟨_, _, resV rfl (.cons rfl .nil), (by repeat (first | exact Sub.refl _ | apply Sub.drop)), (by first | rfl | (exfalso; first | omega | exact absurd (show eqC (ofP r j w).cells (ofP r j w).cells = true by simp [eqC, sEq]) (by assumption) | exact absurd (show eqC (Rule.cells ⟨0, 1, 0, 0, 0, 1⟩) (Rule.cells ⟨0, 1, 0, 0, 0, 1⟩) = true from rfl) (by assumption) | (have q := hr1.symm.trans hr2; cases q.1 rfl; done) | (have q := hr1.symm.trans hr2; cases q.2 rfl; done) | (have q := hr1.1 rfl; have q2 := hr2.2 q; cases q2; done) | (have q := hr2.1 rfl; have q2 := hr1.2 q; cases q2; done)))⟩
          · refine dr_light rfl rfl (wtd_none rfl) (x_pick_t rfl rfl rfl) ?_
            refine dr_light rfl rfl (wtd_none rfl) (x_move rfl) ?_
            refine dr_skip rfl (wtd_no rfl rfl rfl rfl) ?_
            refine dr_skip rfl (wtd_no rfl rfl rfl rfl) ?_
            refine dr_skip rfl (wtd_no rfl rfl rfl rfl) ?_
            refine dr_light rfl rfl (wtd_none rfl) (x_pick_f rfl rfl rfl) ?_
            refine dr_light rfl rfl (wtd_none rfl) (x_move rfl) ?_
            refine dr_skip rfl (wtd_no rfl rfl rfl rfl) ?_
            refine dr_light rfl rfl (wtd_none rfl) (x_pick_f rfl rfl rfl) ?_
            refine dr_light rfl rfl (wtd_none rfl) (x_assign rfl) ?_
            refine dr_nil0 ?_
            refine aw_keep (keep_cons (t := 6) rfl keep_nil) ?_
            refine aw_ret ?_
            show ∃ v H2, ResV _ _ _ _ _ _ v ∧ Sub H2 _ ∧ _
            exact ⟨_, _, resV rfl (.cons rfl .nil), (by repeat (first | exact Sub.refl _ | apply Sub.drop)), (by first | rfl | (exfalso; first | omega | exact absurd (show eqC (ofP r j w).cells (ofP r j w).cells = true by simp [eqC, sEq]) (by assumption) | exact absurd (show eqC (Rule.cells ⟨0, 1, 0, 0, 0, 1⟩) (Rule.cells ⟨0, 1, 0, 0, 0, 1⟩) = true from rfl) (by assumption) | (have q := hr1.symm.trans hr2; cases q.1 rfl; done) | (have q := hr1.symm.trans hr2; cases q.2 rfl; done) | (have q := hr1.1 rfl; have q2 := hr2.2 q; cases q2; done) | (have q := hr2.1 rfl; have q2 := hr1.2 q; cases q2; done)))⟩
        · refine dr_light rfl rfl (wtd_none rfl) (x_pick_t rfl rfl rfl) ?_
          refine dr_light rfl rfl (wtd_none rfl) (x_move rfl) ?_
          refine dr_skip rfl (wtd_no rfl rfl rfl rfl) ?_
          refine dr_skip rfl (wtd_no rfl rfl rfl rfl) ?_
          refine dr_skip rfl (wtd_no rfl rfl rfl rfl) ?_
          refine dr_skip rfl (wtd_no rfl rfl rfl rfl) ?_
          refine dr_skip rfl (wtd_no rfl rfl rfl rfl) ?_
          refine dr_skip rfl (wtd_no rfl rfl rfl rfl) ?_
          refine dr_skip rfl (wtd_no rfl rfl rfl rfl) ?_
          refine dr_light rfl rfl (wtd_none rfl) (x_pick_f rfl rfl rfl) ?_
          refine dr_light rfl rfl (wtd_none rfl) (x_move rfl) ?_
          refine dr_skip rfl (wtd_no rfl rfl rfl rfl) ?_
          refine dr_skip rfl (wtd_no rfl rfl rfl rfl) ?_
          refine dr_skip rfl (wtd_no rfl rfl rfl rfl) ?_
          refine dr_light rfl rfl (wtd_none rfl) (x_pick_f rfl rfl rfl) ?_
          refine dr_light rfl rfl (wtd_none rfl) (x_move rfl) ?_
          refine dr_skip rfl (wtd_no rfl rfl rfl rfl) ?_
          refine dr_light rfl rfl (wtd_none rfl) (x_pick_f rfl rfl rfl) ?_
          refine dr_light rfl rfl (wtd_none rfl) (x_assign rfl) ?_
          refine dr_nil0 ?_
          refine aw_keep (keep_cons (t := 6) rfl keep_nil) ?_
          refine aw_ret ?_
          show ∃ v H2, ResV _ _ _ _ _ _ v ∧ Sub H2 _ ∧ _
          exact ⟨_, _, resV rfl (.cons rfl .nil), (by repeat (first | exact Sub.refl _ | apply Sub.drop)), (by first | rfl | (exfalso; first | omega | exact absurd (show eqC (ofP r j w).cells (ofP r j w).cells = true by simp [eqC, sEq]) (by assumption) | exact absurd (show eqC (Rule.cells ⟨0, 1, 0, 0, 0, 1⟩) (Rule.cells ⟨0, 1, 0, 0, 0, 1⟩) = true from rfl) (by assumption) | (have q := hr1.symm.trans hr2; cases q.1 rfl; done) | (have q := hr1.symm.trans hr2; cases q.2 rfl; done) | (have q := hr1.1 rfl; have q2 := hr2.2 q; cases q2; done) | (have q := hr2.1 rfl; have q2 := hr1.2 q; cases q2; done)))⟩
      · refine dr_light rfl rfl (wtd_none rfl) (x_pick_t rfl rfl rfl) ?_
        refine dr_light rfl rfl (wtd_none rfl) (x_move rfl) ?_
        refine dr_skip rfl (wtd_no rfl rfl rfl rfl) ?_
        refine dr_skip rfl (wtd_no rfl rfl rfl rfl) ?_
        refine dr_skip rfl (wtd_no rfl rfl rfl rfl) ?_
        refine dr_skip rfl (wtd_no rfl rfl rfl rfl) ?_
        refine dr_skip rfl (wtd_no rfl rfl rfl rfl) ?_
        refine dr_skip rfl (wtd_no rfl rfl rfl rfl) ?_
        refine dr_skip rfl (wtd_no rfl rfl rfl rfl) ?_
        refine dr_skip rfl (wtd_no rfl rfl rfl rfl) ?_
        refine dr_skip rfl (wtd_no rfl rfl rfl rfl) ?_
        refine dr_skip rfl (wtd_no rfl rfl rfl rfl) ?_
        refine dr_skip rfl (wtd_no rfl rfl rfl rfl) ?_
        refine dr_skip rfl (wtd_no rfl rfl rfl rfl) ?_
        refine dr_skip rfl (wtd_no rfl rfl rfl rfl) ?_
        refine dr_skip rfl (wtd_no rfl rfl rfl rfl) ?_
        refine dr_light rfl rfl (wtd_none rfl) (x_pick_f rfl rfl rfl) ?_
        refine dr_light rfl rfl (wtd_none rfl) (x_move rfl) ?_
        refine dr_skip rfl (wtd_no rfl rfl rfl rfl) ?_
        refine dr_skip rfl (wtd_no rfl rfl rfl rfl) ?_
        refine dr_skip rfl (wtd_no rfl rfl rfl rfl) ?_
        refine dr_skip rfl (wtd_no rfl rfl rfl rfl) ?_
        refine dr_skip rfl (wtd_no rfl rfl rfl rfl) ?_
        refine dr_skip rfl (wtd_no rfl rfl rfl rfl) ?_
        refine dr_skip rfl (wtd_no rfl rfl rfl rfl) ?_
        refine dr_light rfl rfl (wtd_none rfl) (x_pick_f rfl rfl rfl) ?_
        refine dr_light rfl rfl (wtd_none rfl) (x_move rfl) ?_
        refine dr_skip rfl (wtd_no rfl rfl rfl rfl) ?_
        refine dr_skip rfl (wtd_no rfl rfl rfl rfl) ?_
        refine dr_skip rfl (wtd_no rfl rfl rfl rfl) ?_
        refine dr_light rfl rfl (wtd_none rfl) (x_pick_f rfl rfl rfl) ?_
        refine dr_light rfl rfl (wtd_none rfl) (x_move rfl) ?_
        refine dr_skip rfl (wtd_no rfl rfl rfl rfl) ?_
        refine dr_light rfl rfl (wtd_none rfl) (x_pick_f rfl rfl rfl) ?_
        refine dr_light rfl rfl (wtd_none rfl) (x_assign rfl) ?_
        refine dr_nil0 ?_
        refine aw_keep (keep_cons (t := 6) rfl keep_nil) ?_
        refine aw_ret ?_
        show ∃ v H2, ResV _ _ _ _ _ _ v ∧ Sub H2 _ ∧ _
        exact ⟨_, _, resV rfl (.cons rfl .nil), (by repeat (first | exact Sub.refl _ | apply Sub.drop)), (by first | rfl | (exfalso; first | omega | exact absurd (show eqC (ofP r j w).cells (ofP r j w).cells = true by simp [eqC, sEq]) (by assumption) | exact absurd (show eqC (Rule.cells ⟨0, 1, 0, 0, 0, 1⟩) (Rule.cells ⟨0, 1, 0, 0, 0, 1⟩) = true from rfl) (by assumption) | (have q := hr1.symm.trans hr2; cases q.1 rfl; done) | (have q := hr1.symm.trans hr2; cases q.2 rfl; done) | (have q := hr1.1 rfl; have q2 := hr2.2 q; cases q2; done) | (have q := hr2.1 rfl; have q2 := hr1.2 q; cases q2; done)))⟩
    · refine dr_light rfl rfl (wtd_none rfl) (x_eqb Try.underlying4 rfl rfl) ?_
      refine dr_light rfl rfl (wtd_none rfl) (x_move rfl) ?_
      refine dr_skip rfl (wtd_no rfl rfl rfl rfl) ?_
      refine dr_skip rfl (wtd_no rfl rfl rfl rfl) ?_
      refine dr_skip rfl (wtd_no rfl rfl rfl rfl) ?_
      refine dr_skip rfl (wtd_no rfl rfl rfl rfl) ?_
      refine dr_skip rfl (wtd_no rfl rfl rfl rfl) ?_
      refine dr_skip rfl (wtd_no rfl rfl rfl rfl) ?_
      refine dr_light rfl rfl (wtd_none rfl) (x_pick_f rfl rfl rfl) ?_
      refine dr_light rfl rfl (wtd_none rfl) (x_move rfl) ?_
      refine dr_skip rfl (wtd_no rfl rfl rfl rfl) ?_
      refine dr_skip rfl (wtd_no rfl rfl rfl rfl) ?_
      refine dr_skip rfl (wtd_no rfl rfl rfl rfl) ?_
      refine dr_skip rfl (wtd_no rfl rfl rfl rfl) ?_
      refine dr_skip rfl (wtd_no rfl rfl rfl rfl) ?_
      refine dr_skip rfl (wtd_no rfl rfl rfl rfl) ?_
      refine dr_skip rfl (wtd_no rfl rfl rfl rfl) ?_
      refine dr_skip rfl (wtd_no rfl rfl rfl rfl) ?_
      refine dr_skip rfl (wtd_no rfl rfl rfl rfl) ?_
      refine dr_skip rfl (wtd_no rfl rfl rfl rfl) ?_
      refine dr_skip rfl (wtd_no rfl rfl rfl rfl) ?_
      refine dr_skip rfl (wtd_no rfl rfl rfl rfl) ?_
      refine dr_skip rfl (wtd_no rfl rfl rfl rfl) ?_
      refine dr_skip rfl (wtd_no rfl rfl rfl rfl) ?_
      refine dr_light rfl rfl (wtd_none rfl) (x_pick_f rfl rfl rfl) ?_
      refine dr_light rfl rfl (wtd_none rfl) (x_move rfl) ?_
      refine dr_skip rfl (wtd_no rfl rfl rfl rfl) ?_
      refine dr_skip rfl (wtd_no rfl rfl rfl rfl) ?_
      refine dr_skip rfl (wtd_no rfl rfl rfl rfl) ?_
      refine dr_skip rfl (wtd_no rfl rfl rfl rfl) ?_
      refine dr_skip rfl (wtd_no rfl rfl rfl rfl) ?_
      refine dr_skip rfl (wtd_no rfl rfl rfl rfl) ?_
      refine dr_skip rfl (wtd_no rfl rfl rfl rfl) ?_
      refine dr_light rfl rfl (wtd_none rfl) (x_pick_f rfl rfl rfl) ?_
      refine dr_light rfl rfl (wtd_none rfl) (x_move rfl) ?_
      refine dr_skip rfl (wtd_no rfl rfl rfl rfl) ?_
      refine dr_skip rfl (wtd_no rfl rfl rfl rfl) ?_
      refine dr_skip rfl (wtd_no rfl rfl rfl rfl) ?_
      refine dr_light rfl rfl (wtd_none rfl) (x_pick_f rfl rfl rfl) ?_
      refine dr_light rfl rfl (wtd_none rfl) (x_move rfl) ?_
      refine dr_skip rfl (wtd_no rfl rfl rfl rfl) ?_
      refine dr_light rfl rfl (wtd_none rfl) (x_pick_f rfl rfl rfl) ?_
      refine dr_light rfl rfl (wtd_none rfl) (x_assign rfl) ?_
      refine dr_nil0 ?_
      refine aw_keep (keep_cons (t := 6) rfl keep_nil) ?_
      refine aw_ret ?_
      show ∃ v H2, ResV _ _ _ _ _ _ v ∧ Sub H2 _ ∧ _
      exact ⟨_, _, resV rfl (.cons rfl .nil), (by repeat (first | exact Sub.refl _ | apply Sub.drop)), (by first | rfl | (exfalso; first | omega | exact absurd (show eqC (ofP r j w).cells (ofP r j w).cells = true by simp [eqC, sEq]) (by assumption) | exact absurd (show eqC (Rule.cells ⟨0, 1, 0, 0, 0, 1⟩) (Rule.cells ⟨0, 1, 0, 0, 0, 1⟩) = true from rfl) (by assumption) | (have q := hr1.symm.trans hr2; cases q.1 rfl; done) | (have q := hr1.symm.trans hr2; cases q.2 rfl; done) | (have q := hr1.1 rfl; have q2 := hr2.2 q; cases q2; done) | (have q := hr2.1 rfl; have q2 := hr1.2 q; cases q2; done)))⟩
  · refine dr_mem0 rfl rfl (wtd_none rfl) (x_loadN ag42 sz42 rfl (cells_ext (by repeat (first | exact List.mem_cons_self | apply List.mem_cons_of_mem)) (by repeat (first | exact Ext.all _ | exact Ext.done | apply Ext.take | apply Ext.skip))) rfl) ?_
    refine dr_callq0 rfl rfl (wtd_none rfl) (opS_F rfl rfl rfl rfl cl25 ((right25_s _ _))) (⟨_, decide r.Right, rfl, decide_eq_true_iff⟩) ?_
    rintro _ ⟨c2, rfl, hr2⟩
    cases c2
    · refine dr_light rfl rfl (wtd_none rfl) (x_eqb Try.underlying4 rfl rfl) ?_
      refine dr_light rfl rfl (wtd_none rfl) (x_move rfl) ?_
      refine dr_skip rfl (wtd_no rfl rfl rfl rfl) ?_
      refine dr_skip rfl (wtd_no rfl rfl rfl rfl) ?_
      refine dr_skip rfl (wtd_no rfl rfl rfl rfl) ?_
      refine dr_skip rfl (wtd_no rfl rfl rfl rfl) ?_
      refine dr_skip rfl (wtd_no rfl rfl rfl rfl) ?_
      refine dr_skip rfl (wtd_no rfl rfl rfl rfl) ?_
      refine dr_light rfl rfl (wtd_none rfl) (x_pick_f rfl rfl rfl) ?_
      refine dr_light rfl rfl (wtd_none rfl) (x_move rfl) ?_
      refine dr_skip rfl (wtd_no rfl rfl rfl rfl) ?_
      refine dr_skip rfl (wtd_no rfl rfl rfl rfl) ?_
      refine dr_skip rfl (wtd_no rfl rfl rfl rfl) ?_
      refine dr_skip rfl (wtd_no rfl rfl rfl rfl) ?_
      refine dr_skip rfl (wtd_no rfl rfl rfl rfl) ?_
      refine dr_skip rfl (wtd_no rfl rfl rfl rfl) ?_
      refine dr_skip rfl (wtd_no rfl rfl rfl rfl) ?_
      refine dr_skip rfl (wtd_no rfl rfl rfl rfl) ?_
      refine dr_skip rfl (wtd_no rfl rfl rfl rfl) ?_
      refine dr_skip rfl (wtd_no rfl rfl rfl rfl) ?_
      refine dr_skip rfl (wtd_no rfl rfl rfl rfl) ?_
      refine dr_skip rfl (wtd_no rfl rfl rfl rfl) ?_
      refine dr_skip rfl (wtd_no rfl rfl rfl rfl) ?_
      refine dr_skip rfl (wtd_no rfl rfl rfl rfl) ?_
      refine dr_light rfl rfl (wtd_none rfl) (x_pick_f rfl rfl rfl) ?_
      refine dr_light rfl rfl (wtd_none rfl) (x_move rfl) ?_
      refine dr_skip rfl (wtd_no rfl rfl rfl rfl) ?_
      refine dr_skip rfl (wtd_no rfl rfl rfl rfl) ?_
      refine dr_skip rfl (wtd_no rfl rfl rfl rfl) ?_
      refine dr_skip rfl (wtd_no rfl rfl rfl rfl) ?_
      refine dr_skip rfl (wtd_no rfl rfl rfl rfl) ?_
      refine dr_skip rfl (wtd_no rfl rfl rfl rfl) ?_
      refine dr_skip rfl (wtd_no rfl rfl rfl rfl) ?_
      refine dr_light rfl rfl (wtd_none rfl) (x_pick_f rfl rfl rfl) ?_
      refine dr_light rfl rfl (wtd_none rfl) (x_move rfl) ?_
      refine dr_skip rfl (wtd_no rfl rfl rfl rfl) ?_
      refine dr_skip rfl (wtd_no rfl rfl rfl rfl) ?_
      refine dr_skip rfl (wtd_no rfl rfl rfl rfl) ?_
      refine dr_light rfl rfl (wtd_none rfl) (x_pick_f rfl rfl rfl) ?_
      refine dr_light rfl rfl (wtd_none rfl) (x_move rfl) ?_
      refine dr_skip rfl (wtd_no rfl rfl rfl rfl) ?_
      refine dr_light rfl rfl (wtd_none rfl) (x_pick_f rfl rfl rfl) ?_
      refine dr_light rfl rfl (wtd_none rfl) (x_assign rfl) ?_
      refine dr_nil0 ?_
      refine aw_keep (keep_cons (t := 6) rfl keep_nil) ?_
      refine aw_ret ?_
      show ∃ v H2, ResV _ _ _ _ _ _ v ∧ Sub H2 _ ∧ _
      exact ⟨_, _, resV rfl (.cons rfl .nil), (by repeat (first | exact Sub.refl _ | apply Sub.drop)), (by first | rfl | (exfalso; first | omega | exact absurd (show eqC (ofP r j w).cells (ofP r j w).cells = true by simp [eqC, sEq]) (by assumption) | exact absurd (show eqC (Rule.cells ⟨0, 1, 0, 0, 0, 1⟩) (Rule.cells ⟨0, 1, 0, 0, 0, 1⟩) = true from rfl) (by assumption) | (have q := hr1.symm.trans hr2; cases q.1 rfl; done) | (have q := hr1.symm.trans hr2; cases q.2 rfl; done) | (have q := hr1.1 rfl; have q2 := hr2.2 q; cases q2; done) | (have q := hr2.1 rfl; have q2 := hr1.2 q; cases q2; done)))⟩
    · refine dr_light rfl rfl (wtd_none rfl) (x_eqb Try.underlying4 rfl rfl) ?_
      refine dr_light rfl rfl (wtd_none rfl) (x_move rfl) ?_
      refine dr_mem0 rfl rfl (wtd_yes rfl rfl rfl) (x_loadN ag44 sz44 rfl (cells_ext (by repeat (first | exact List.mem_cons_self | apply List.mem_cons_of_mem)) (by repeat (first | exact Ext.all _ | exact Ext.done | apply Ext.take | apply Ext.skip))) rfl) ?_
      refine dr_mem0 rfl rfl (wtd_yes rfl rfl rfl) (x_loadN ag42 sz42 rfl (cells_ext (by repeat (first | exact List.mem_cons_self | apply List.mem_cons_of_mem)) (by repeat (first | exact Ext.all _ | exact Ext.done | apply Ext.take | apply Ext.skip))) rfl) ?_
      refine dr_mem0 rfl rfl (wtd_yes rfl rfl rfl) (x_loadN ag28 sz28 rfl (cells_ext (by repeat (first | exact List.mem_cons_self | apply List.mem_cons_of_mem)) (by repeat (first | exact Ext.all _ | exact Ext.done | apply Ext.take | apply Ext.skip))) rfl) ?_
      refine dr_light rfl rfl (wtd_yes rfl rfl rfl) (x_move rfl) ?_
      refine dr_callq0 rfl rfl (wtd_yes rfl rfl rfl) (opS_F rfl rfl rfl rfl cl26 ((of2_s _ _ _ _ hj (by omega)))) (⟨_, rfl⟩) ?_
      rintro _ rfl
      refine dr_cmp rfl rfl (wtd_yes rfl rfl rfl) (x_eqStruct Try.underlying44 ks44 rfl rfl rfl rfl rfl) (fun h5 => ?_) (fun h5 => ?_)
      · refine dr_light rfl rfl (wtd_none rfl) (x_pick_t rfl rfl rfl) ?_
        refine dr_light rfl rfl (wtd_none rfl) (x_move rfl) ?_
        refine dr_mem0 rfl rfl (wtd_yes rfl rfl rfl) (x_loadN ag44 sz44 rfl (cells_ext (by repeat (first | exact List.mem_cons_self | apply List.mem_cons_of_mem)) (by repeat (first | exact Ext.all _ | exact Ext.done | apply Ext.take | apply Ext.skip))) rfl) ?_
        refine dr_callq0 rfl rfl (wtd_yes rfl rfl rfl) (opS_F rfl rfl rfl rfl cl27 ((sum_s _ _))) (⟨_, rfl⟩) ?_
        rintro _ rfl
        have hs := ofP_sum hok
        refine dr_light rfl rfl (wtd_yes rfl rfl rfl) (x_fieldAddr fd44_0 rfl) ?_
        refine dr_mem0 rfl rfl (wtd_yes rfl rfl rfl) (x_load ag2 rfl (cells_ext (by repeat (first | exact List.mem_cons_self | apply List.mem_cons_of_mem)) (by repeat (first | exact Ext.all _ | exact Ext.done | apply Ext.take | apply Ext.skip)))) ?_
        refine dr_light rfl rfl (wtd_yes rfl rfl rfl) (x_fieldAddr fd44_1 rfl) ?_
        refine dr_mem0 rfl rfl (wtd_yes rfl rfl rfl) (x_load ag2 rfl (cells_ext (by repeat (first | exact List.mem_cons_self | apply List.mem_cons_of_mem)) (by repeat (first | exact Ext.all _ | exact Ext.done | apply Ext.take | apply Ext.skip)))) ?_
        refine dr_light rfl rfl (wtd_yes rfl rfl rfl) (x_add' rfl rfl (i64w (by omega) (by omega))) ?_
        refine dr_light rfl rfl (wtd_yes rfl rfl rfl) (x_fieldAddr fd44_2 rfl) ?_
        refine dr_mem0 rfl rfl (wtd_yes rfl rfl rfl) (x_load ag2 rfl (cells_ext (by repeat (first | exact List.mem_cons_self | apply List.mem_cons_of_mem)) (by repeat (first | exact Ext.all _ | exact Ext.done | apply Ext.take | apply Ext.skip)))) ?_
        refine dr_light rfl rfl (wtd_yes rfl rfl rfl) (x_add' rfl rfl (i64w (by omega) (by omega))) ?_
        refine dr_light rfl rfl (wtd_yes rfl rfl rfl) (x_fieldAddr fd44_3 rfl) ?_
        refine dr_mem0 rfl rfl (wtd_yes rfl rfl rfl) (x_load ag2 rfl (cells_ext (by repeat (first | exact List.mem_cons_self | apply List.mem_cons_of_mem)) (by repeat (first | exact Ext.all _ | exact Ext.done | apply Ext.take | apply Ext.skip)))) ?_
        refine dr_light rfl rfl (wtd_yes rfl rfl rfl) (x_add' rfl rfl (i64w (by omega) (by omega))) ?_
        refine dr_cmp rfl rfl (wtd_yes rfl rfl rfl) (x_eq rfl rfl) (fun h6 => ?_) (fun h6 => ?_)
        · refine dr_light rfl rfl (wtd_none rfl) (x_pick_t rfl rfl rfl) ?_
          refine dr_light rfl rfl (wtd_none rfl) (x_move rfl) ?_
          refine dr_light rfl rfl (wtd_yes rfl rfl rfl) (x_fieldAddr fd28_3 rfl) ?_
          refine dr_mem0 rfl rfl (wtd_yes rfl rfl rfl) (x_load ag2 rfl (cells_ext (by repeat (first | exact List.mem_cons_self | apply List.mem_cons_of_mem)) (by repeat (first | exact Ext.all _ | exact Ext.done | apply Ext.take | apply Ext.skip)))) ?_
          refine dr_callq0 rfl rfl (wtd_yes rfl rfl rfl) (opS_F rfl rfl rfl rfl cl28 ((halves28_s _ _ (by omega)))) (⟨_, rfl⟩) ?_
          rintro _ rfl
          refine dr_light rfl rfl (wtd_yes rfl rfl rfl) (x_fieldAddr fd28_3 rfl) ?_
          refine dr_mem0 rfl rfl (wtd_yes rfl rfl rfl) (x_load ag2 rfl (cells_ext (by repeat (first | exact List.mem_cons_self | apply List.mem_cons_of_mem)) (by repeat (first | exact Ext.all _ | exact Ext.done | apply Ext.take | apply Ext.skip)))) ?_
          refine dr_callq0 rfl rfl (wtd_yes rfl rfl rfl) (opS_F rfl rfl rfl rfl cl29 ((halves29_s _ _ (by omega)))) (⟨_, rfl⟩) ?_
          rintro _ rfl
          refine dr_cmp rfl rfl (wtd_yes rfl rfl rfl) (x_eq rfl rfl) (fun h7 => ?_) (fun h7 => ?_)
          · refine dr_light rfl rfl (wtd_none rfl) (x_pick_t rfl rfl rfl) ?_
            refine dr_light rfl rfl (wtd_none rfl) (x_move rfl) ?_
            refine dr_callq0 rfl rfl (wtd_yes rfl rfl rfl) (opS_F rfl rfl rfl rfl cl30 ((plain_s _))) (⟨_, rfl⟩) ?_
            rintro _ rfl
            refine dr_light rfl rfl (wtd_yes rfl rfl rfl) (x_build zr42 rfl fl42 (by repeat (first | exact Parts.nil | (apply Parts.cons; rfl))) (by repeat (first | exact Fill.done | (apply Fill.part; rfl; rfl; rfl; focus (repeat (first | exact Spl.done | exact Spl.all rfl | apply Spl.put | apply Spl.skip)))))) ?_
            refine dr_cmp rfl rfl (wtd_yes rfl rfl rfl) (x_eqStruct Try.underlying42 ks42 rfl rfl rfl rfl rfl) (fun h8 => ?_) (fun h8 => ?_)
            · refine dr_light rfl rfl (wtd_none rfl) (x_pick_t rfl rfl rfl) ?_
              refine dr_light rfl rfl (wtd_none rfl) (x_move rfl) ?_
              refine dr_callq0 rfl rfl (wtd_yes rfl rfl rfl) (opS_F rfl rfl rfl rfl cl31 ((awake31_s _))) (⟨_, rfl⟩) ?_
              rintro _ rfl
              refine dr_light rfl rfl (wtd_none rfl) (x_pick_t rfl rfl rfl) ?_
              refine dr_light rfl rfl (wtd_none rfl) (x_assign rfl) ?_
              refine dr_nil0 ?_
              refine aw_keep (keep_cons (t := 6) rfl keep_nil) ?_
              refine aw_ret ?_
              show ∃ v H2, ResV _ _ _ _ _ _ v ∧ Sub H2 _ ∧ _
              exact ⟨_, _, resV rfl (.cons rfl .nil), (by repeat (first | exact Sub.refl _ | apply Sub.drop)), (by first | rfl | (exfalso; first | omega | exact absurd (show eqC (ofP r j w).cells (ofP r j w).cells = true by simp [eqC, sEq]) (by assumption) | exact absurd (show eqC (Rule.cells ⟨0, 1, 0, 0, 0, 1⟩) (Rule.cells ⟨0, 1, 0, 0, 0, 1⟩) = true from rfl) (by assumption) | (have q := hr1.symm.trans hr2; cases q.1 rfl; done) | (have q := hr1.symm.trans hr2; cases q.2 rfl; done) | (have q := hr1.1 rfl; have q2 := hr2.2 q; cases q2; done) | (have q := hr2.1 rfl; have q2 := hr1.2 q; cases q2; done)))⟩
            · refine dr_light rfl rfl (wtd_none rfl) (x_pick_t rfl rfl rfl) ?_
              refine dr_light rfl rfl (wtd_none rfl) (x_move rfl) ?_
              refine dr_skip rfl (wtd_no rfl rfl rfl rfl) ?_
              refine dr_light rfl rfl (wtd_none rfl) (x_pick_f rfl rfl rfl) ?_
              refine dr_light rfl rfl (wtd_none rfl) (x_assign rfl) ?_
              refine dr_nil0 ?_
              refine aw_keep (keep_cons (t := 6) rfl keep_nil) ?_
              refine aw_ret ?_
              show ∃ v H2, ResV _ _ _ _ _ _ v ∧ Sub H2 _ ∧ _
              exact ⟨_, _, resV rfl (.cons rfl .nil), (by repeat (first | exact Sub.refl _ | apply Sub.drop)), (by first | rfl | (exfalso; first | omega | exact absurd (show eqC (ofP r j w).cells (ofP r j w).cells = true by simp [eqC, sEq]) (by assumption) | exact absurd (show eqC (Rule.cells ⟨0, 1, 0, 0, 0, 1⟩) (Rule.cells ⟨0, 1, 0, 0, 0, 1⟩) = true from rfl) (by assumption) | (have q := hr1.symm.trans hr2; cases q.1 rfl; done) | (have q := hr1.symm.trans hr2; cases q.2 rfl; done) | (have q := hr1.1 rfl; have q2 := hr2.2 q; cases q2; done) | (have q := hr2.1 rfl; have q2 := hr1.2 q; cases q2; done)))⟩
          · refine dr_light rfl rfl (wtd_none rfl) (x_pick_t rfl rfl rfl) ?_
            refine dr_light rfl rfl (wtd_none rfl) (x_move rfl) ?_
            refine dr_skip rfl (wtd_no rfl rfl rfl rfl) ?_
            refine dr_skip rfl (wtd_no rfl rfl rfl rfl) ?_
            refine dr_skip rfl (wtd_no rfl rfl rfl rfl) ?_
            refine dr_light rfl rfl (wtd_none rfl) (x_pick_f rfl rfl rfl) ?_
            refine dr_light rfl rfl (wtd_none rfl) (x_move rfl) ?_
            refine dr_skip rfl (wtd_no rfl rfl rfl rfl) ?_
            refine dr_light rfl rfl (wtd_none rfl) (x_pick_f rfl rfl rfl) ?_
            refine dr_light rfl rfl (wtd_none rfl) (x_assign rfl) ?_
            refine dr_nil0 ?_
            refine aw_keep (keep_cons (t := 6) rfl keep_nil) ?_
            refine aw_ret ?_
            show ∃ v H2, ResV _ _ _ _ _ _ v ∧ Sub H2 _ ∧ _
            exact ⟨_, _, resV rfl (.cons rfl .nil), (by repeat (first | exact Sub.refl _ | apply Sub.drop)), (by first | rfl | (exfalso; first | omega | exact absurd (show eqC (ofP r j w).cells (ofP r j w).cells = true by simp [eqC, sEq]) (by assumption) | exact absurd (show eqC (Rule.cells ⟨0, 1, 0, 0, 0, 1⟩) (Rule.cells ⟨0, 1, 0, 0, 0, 1⟩) = true from rfl) (by assumption) | (have q := hr1.symm.trans hr2; cases q.1 rfl; done) | (have q := hr1.symm.trans hr2; cases q.2 rfl; done) | (have q := hr1.1 rfl; have q2 := hr2.2 q; cases q2; done) | (have q := hr2.1 rfl; have q2 := hr1.2 q; cases q2; done)))⟩
        · refine dr_light rfl rfl (wtd_none rfl) (x_pick_t rfl rfl rfl) ?_
          refine dr_light rfl rfl (wtd_none rfl) (x_move rfl) ?_
          refine dr_skip rfl (wtd_no rfl rfl rfl rfl) ?_
          refine dr_skip rfl (wtd_no rfl rfl rfl rfl) ?_
          refine dr_skip rfl (wtd_no rfl rfl rfl rfl) ?_
          refine dr_skip rfl (wtd_no rfl rfl rfl rfl) ?_
          refine dr_skip rfl (wtd_no rfl rfl rfl rfl) ?_
          refine dr_skip rfl (wtd_no rfl rfl rfl rfl) ?_
          refine dr_skip rfl (wtd_no rfl rfl rfl rfl) ?_
          refine dr_light rfl rfl (wtd_none rfl) (x_pick_f rfl rfl rfl) ?_
          refine dr_light rfl rfl (wtd_none rfl) (x_move rfl) ?_
          refine dr_skip rfl (wtd_no rfl rfl rfl rfl) ?_
          refine dr_skip rfl (wtd_no rfl rfl rfl rfl) ?_
          refine dr_skip rfl (wtd_no rfl rfl rfl rfl) ?_
          refine dr_light rfl rfl (wtd_none rfl) (x_pick_f rfl rfl rfl) ?_
          refine dr_light rfl rfl (wtd_none rfl) (x_move rfl) ?_
          refine dr_skip rfl (wtd_no rfl rfl rfl rfl) ?_
          refine dr_light rfl rfl (wtd_none rfl) (x_pick_f rfl rfl rfl) ?_
          refine dr_light rfl rfl (wtd_none rfl) (x_assign rfl) ?_
          refine dr_nil0 ?_
          refine aw_keep (keep_cons (t := 6) rfl keep_nil) ?_
          refine aw_ret ?_
          show ∃ v H2, ResV _ _ _ _ _ _ v ∧ Sub H2 _ ∧ _
          exact ⟨_, _, resV rfl (.cons rfl .nil), (by repeat (first | exact Sub.refl _ | apply Sub.drop)), (by first | rfl | (exfalso; first | omega | exact absurd (show eqC (ofP r j w).cells (ofP r j w).cells = true by simp [eqC, sEq]) (by assumption) | exact absurd (show eqC (Rule.cells ⟨0, 1, 0, 0, 0, 1⟩) (Rule.cells ⟨0, 1, 0, 0, 0, 1⟩) = true from rfl) (by assumption) | (have q := hr1.symm.trans hr2; cases q.1 rfl; done) | (have q := hr1.symm.trans hr2; cases q.2 rfl; done) | (have q := hr1.1 rfl; have q2 := hr2.2 q; cases q2; done) | (have q := hr2.1 rfl; have q2 := hr1.2 q; cases q2; done)))⟩
      · refine dr_light rfl rfl (wtd_none rfl) (x_pick_t rfl rfl rfl) ?_
        refine dr_light rfl rfl (wtd_none rfl) (x_move rfl) ?_
        refine dr_skip rfl (wtd_no rfl rfl rfl rfl) ?_
        refine dr_skip rfl (wtd_no rfl rfl rfl rfl) ?_
        refine dr_skip rfl (wtd_no rfl rfl rfl rfl) ?_
        refine dr_skip rfl (wtd_no rfl rfl rfl rfl) ?_
        refine dr_skip rfl (wtd_no rfl rfl rfl rfl) ?_
        refine dr_skip rfl (wtd_no rfl rfl rfl rfl) ?_
        refine dr_skip rfl (wtd_no rfl rfl rfl rfl) ?_
        refine dr_skip rfl (wtd_no rfl rfl rfl rfl) ?_
        refine dr_skip rfl (wtd_no rfl rfl rfl rfl) ?_
        refine dr_skip rfl (wtd_no rfl rfl rfl rfl) ?_
        refine dr_skip rfl (wtd_no rfl rfl rfl rfl) ?_
        refine dr_skip rfl (wtd_no rfl rfl rfl rfl) ?_
        refine dr_skip rfl (wtd_no rfl rfl rfl rfl) ?_
        refine dr_skip rfl (wtd_no rfl rfl rfl rfl) ?_
        refine dr_light rfl rfl (wtd_none rfl) (x_pick_f rfl rfl rfl) ?_
        refine dr_light rfl rfl (wtd_none rfl) (x_move rfl) ?_
        refine dr_skip rfl (wtd_no rfl rfl rfl rfl) ?_
        refine dr_skip rfl (wtd_no rfl rfl rfl rfl) ?_
        refine dr_skip rfl (wtd_no rfl rfl rfl rfl) ?_
        refine dr_skip rfl (wtd_no rfl rfl rfl rfl) ?_
        refine dr_skip rfl (wtd_no rfl rfl rfl rfl) ?_
        refine dr_skip rfl (wtd_no rfl rfl rfl rfl) ?_
        refine dr_skip rfl (wtd_no rfl rfl rfl rfl) ?_
        refine dr_light rfl rfl (wtd_none rfl) (x_pick_f rfl rfl rfl) ?_
        refine dr_light rfl rfl (wtd_none rfl) (x_move rfl) ?_
        refine dr_skip rfl (wtd_no rfl rfl rfl rfl) ?_
        refine dr_skip rfl (wtd_no rfl rfl rfl rfl) ?_
        refine dr_skip rfl (wtd_no rfl rfl rfl rfl) ?_
        refine dr_light rfl rfl (wtd_none rfl) (x_pick_f rfl rfl rfl) ?_
        refine dr_light rfl rfl (wtd_none rfl) (x_move rfl) ?_
        refine dr_skip rfl (wtd_no rfl rfl rfl rfl) ?_
        refine dr_light rfl rfl (wtd_none rfl) (x_pick_f rfl rfl rfl) ?_
        refine dr_light rfl rfl (wtd_none rfl) (x_assign rfl) ?_
        refine dr_nil0 ?_
        refine aw_keep (keep_cons (t := 6) rfl keep_nil) ?_
        refine aw_ret ?_
        show ∃ v H2, ResV _ _ _ _ _ _ v ∧ Sub H2 _ ∧ _
        exact ⟨_, _, resV rfl (.cons rfl .nil), (by repeat (first | exact Sub.refl _ | apply Sub.drop)), (by first | rfl | (exfalso; first | omega | exact absurd (show eqC (ofP r j w).cells (ofP r j w).cells = true by simp [eqC, sEq]) (by assumption) | exact absurd (show eqC (Rule.cells ⟨0, 1, 0, 0, 0, 1⟩) (Rule.cells ⟨0, 1, 0, 0, 0, 1⟩) = true from rfl) (by assumption) | (have q := hr1.symm.trans hr2; cases q.1 rfl; done) | (have q := hr1.symm.trans hr2; cases q.2 rfl; done) | (have q := hr1.1 rfl; have q2 := hr2.2 q; cases q2; done) | (have q := hr2.1 rfl; have q2 := hr1.2 q; cases q2; done)))⟩
end
namespace AgePointsRow
open Go.ChangeShapes Go.WideShapes Go.ChangeAt Go.RowKit
theorem own : ownKnob Try.prog.godebug = none := by kernel_rfl
theorem laid : laidOutB Try.prog = true := by kernel_rfl
set_option maxRecDepth 100000 in
theorem lifted (os : Os) (started : os.Started) (H : Type) (enc : TypeId × Value → H) :
    ReturnsInHanded {} Try.checked os 6 .any (Rows.agePointsSpec.pre6 enc Try.prog Try.f6 Rows.agePointsRow.domain false) (Rows.agePointsSpec.post enc Try.prog Try.f6 false true false false) := by
  refine law_lifted (C := Try.checked) (tb := 4) own started (by kernel_rfl) Try.func6 (ChangeSpec.witness6 (enc := enc) (C := Try.checked) false ⟨#[], #[.agg #[.int .i64 0, .int .i64 0, .int .i64 0, .int .i64 0, .int .i64 0, .int .i64 0], .agg #[.int .i64 0, .int .i64 0, .int .i64 0, .int .i64 0, .int .i64 0, .int .i64 0, .int .i64 0, .int .i64 0, .int .i64 0, .int .u64 0], .int .i64 0], []⟩ 8 (by kernel_rfl) (by kernel_rfl) (by kernel_rfl) (by kernel_rfl)) rfl Try.underlying4 rfl laid (by kernel_rfl) ?_ ?_
  · intro ds h
    match ds, h with
    | [a0, a1, a2], _ => rfl
  · intro W base args ds ps hval hA hlt hsz
    have hA' : DataW.TrodAll enc Try.prog W 0 (fun _ => true) true [42, 28, 2] args ds ps := hA
    clear hA
    obtain ⟨v0, vs0, d0, ds0, p0, q0, rfl, rfl, rfl, h0, r0⟩ := trodAll_cons hA'
    obtain ⟨v1, vs1, d1, ds1, p1, q1, rfl, rfl, rfl, h1, r1⟩ := trodAll_cons r0
    obtain ⟨v2, vs2, d2, ds2, p2, q2, rfl, rfl, rfl, h2, r2⟩ := trodAll_cons r1
    obtain ⟨rfl, rfl, rfl⟩ := trodAll_nil r2
    obtain ⟨r, rfl, _⟩ := open_Rule (hval 0 42 v0 rfl rfl) h0
    obtain ⟨j, rfl, hj⟩ := open_Job (hval 1 28 v1 rfl rfl) h1
    obtain ⟨n, rfl, hn⟩ := opn_int Try.underlying2 (hval 2 2 v2 rfl rfl) h2
    exact agePoints_s r j n hj hn.2
theorem over : Rows.agePointsRow.holds Try.pinned (OpenSpec.ofChange Rows.agePointsSpec) :=
  OpenClaim.holds_of_wide 6 Try.f6 rfl rfl rfl rfl rfl rfl rfl ⟨rfl, rfl, rfl, rfl, rfl⟩ rfl rfl rfl rfl rfl (by kernel_rfl) Try.func6 (by kernel_rfl)
    (of_decide_eq_true (by kernel_rfl)) (by unfold Func.isWrapper; first | (rw [if_pos (by decide +kernel)]; kernel_rfl) | (rw [if_neg (by decide +kernel)]; exact ⟨rfl, rfl⟩))
    (fun os started H enc _ => lifted os started H enc)
theorem proved : Rows.AgePointsSaid := over
#print axioms proved
end AgePointsRow
end Go.Proofs.Ytlhmoojffopheaa
