/- Which jobs are asked for again: Again, for any job. -/
import Derived.Test.YteilocpjikmmdaaRet
namespace Go.Proofs.Yteilocpjikmmdaa
open Go.Proofs.Yteilocpjikmmdaa.Sym
open Go.RowKit (Below)
set_option linter.unusedVariables false
set_option linter.unusedSimpArgs false
section
variable {W0 : World}
set_option maxRecDepth 100000 in
set_option maxHeartbeats 2000000 in
theorem again56_11 (r : Rule) (j : Job) (tries : Int) (H : SHeap) (ht : r.timed = true) (hc : r.cancel = true) : AC Try.prog W0 56 [r.v, j.v, .int .i64 tries] H (fun v H' => v = againV r j tries ∧ H' = H) := by
  refine ac_of Try.func56 rfl rfl rfl ?_
  refine aw_seq_region ?_
  refine sr_new rfl (wtd_none rfl) rfl (x_box rfl rfl) ?_
  intro r0_0 hr0_0 gr0_0
  refine sr_new rfl (wtd_none rfl) rfl (x_box rfl rfl) ?_
  intro r0_1 hr0_1 gr0_1
  refine sr_x rfl (wtd_none rfl) rfl (Rd.x (x_assign rfl)) ?_
  refine sr_x rfl (wtd_none rfl) rfl (Rd.x (x_assign rfl)) ?_
  refine sr_x rfl (wtd_none rfl) rfl (Rd.x (x_assign rfl)) ?_
  refine sr_nil ?_
  refine aw_keep (keep_cons (t := 2) rfl (keep_cons (t := 3) rfl (keep_cons (t := 4) rfl (keep_cons (t := 6) rfl (keep_cons (t := 7) rfl (keep_cons (t := 8) rfl keep_nil)))))) ?_
  refine aw_seq ?_
  refine aw_seq_region ?_
  refine sr_x rfl (wtd_none rfl) rfl (Rd.x (x_loadN ag89 sz89 rfl (cells_ext (by repeat (first | exact List.mem_cons_self | apply List.mem_cons_of_mem | apply List.mem_append_right)) (by repeat (first | exact Ext.all _ | exact Ext.done | apply Ext.take | apply Ext.skip))) rfl)) ?_
  refine sr_d rfl (wtd_none rfl) rfl (opS_call rfl rfl rfl rfl cl54 (rright54_s _ _)) ?_
  rintro _ H ⟨rfl, rfl⟩
  by_cases hrr : RRight r
  · rw [decide_eq_true hrr]
    refine sr_x rfl (wtd_none rfl) rfl (Rd.x (x_not rfl)) ?_
    refine sr_x rfl (wtd_none rfl) rfl (Rd.x (x_move rfl)) ?_
    refine sr_x rfl (wtd_yes rfl rfl rfl) rfl (Rd.x (x_move rfl)) ?_
    refine sr_cmp rfl (wtd_yes rfl rfl rfl) rfl (Rd.x (x_lt rfl rfl)) (fun h1 => ?_) (fun h1 => ?_)
    · refine sr_x rfl (wtd_none rfl) rfl (Rd.x (x_pick_f rfl rfl rfl)) ?_
      refine sr_x rfl (wtd_none rfl) rfl (Rd.x (x_move rfl)) ?_
      refine sr_skip rfl (wtd_no rfl rfl rfl rfl) rfl ?_
      refine sr_skip rfl (wtd_no rfl rfl rfl rfl) rfl ?_
      refine sr_skip rfl (wtd_no rfl rfl rfl rfl) rfl ?_
      refine sr_skip rfl (wtd_no rfl rfl rfl rfl) rfl ?_
      refine sr_x rfl (wtd_none rfl) rfl (Rd.x (x_pick_t rfl rfl rfl)) ?_
      refine sr_x rfl (wtd_none rfl) rfl (Rd.x (x_move rfl)) ?_
      refine sr_skip rfl (wtd_no rfl rfl rfl rfl) rfl ?_
      refine sr_skip rfl (wtd_no rfl rfl rfl rfl) rfl ?_
      refine sr_skip rfl (wtd_no rfl rfl rfl rfl) rfl ?_
      refine sr_x rfl (wtd_none rfl) rfl (Rd.x (x_pick_t rfl rfl rfl)) ?_
      refine sr_x rfl (wtd_none rfl) rfl (Rd.x (x_move rfl)) ?_
      refine sr_skip rfl (wtd_no rfl rfl rfl rfl) rfl ?_
      refine sr_skip rfl (wtd_no rfl rfl rfl rfl) rfl ?_
      refine sr_skip rfl (wtd_no rfl rfl rfl rfl) rfl ?_
      refine sr_x rfl (wtd_none rfl) rfl (Rd.x (x_pick_t rfl rfl rfl)) ?_
      refine sr_nil ?_
      refine aw_keep (keep_cons (t := 2) rfl (keep_cons (t := 3) rfl (keep_cons (t := 4) rfl (keep_cons (t := 6) rfl (keep_cons (t := 7) rfl (keep_cons (t := 8) rfl (keep_cons (t := 31) rfl keep_nil))))))) ?_
      refine aw_true rfl ?_
      refine aw_seq_region ?_
      refine sr_x rfl (wtd_none rfl) rfl (Rd.x (x_assign rfl)) ?_
      refine sr_x rfl (wtd_none rfl) rfl (Rd.x (x_assign rfl)) ?_
      refine sr_x rfl (wtd_none rfl) rfl (Rd.x (x_assign rfl)) ?_
      refine sr_nil ?_
      refine aw_keep (keep_cons (t := 2) rfl (keep_cons (t := 3) rfl (keep_cons (t := 4) rfl (keep_cons (t := 6) rfl (keep_cons (t := 7) rfl (keep_cons (t := 8) rfl keep_nil)))))) ?_
      refine aw_ret ?_
      show ∃ v H2, ResV _ _ _ _ _ _ v ∧ Sub H2 _ ∧ _
      exact ⟨_, H, resV rfl (.cons rfl (.cons rfl (.cons rfl .nil))), (by repeat (first | exact Sub.refl _ | apply Sub.drop)), (by first | exact ⟨(if_neg (fun h => by obtain ⟨h91, h92, h93, h94⟩ := h; first | exact hrr h91 | (exfalso; omega) | (rcases h94 with ⟨h95, h96⟩ | ⟨h95, h96⟩ <;> first | omega | (rw [ht] at h96; cases h96) | (rw [hc] at h96; cases h96)))).symm, rfl⟩ | exact ⟨(if_pos ⟨hrr, by omega, by omega, by first | exact .inl ⟨by assumption, ht⟩ | exact .inr ⟨by assumption, hc⟩⟩).symm, rfl⟩)⟩
    · refine sr_x rfl (wtd_none rfl) rfl (Rd.x (x_pick_f rfl rfl rfl)) ?_
      refine sr_x rfl (wtd_none rfl) rfl (Rd.x (x_move rfl)) ?_
      refine sr_x rfl (wtd_yes rfl rfl rfl) rfl (Rd.x (x_move rfl)) ?_
      refine sr_x rfl (wtd_yes rfl rfl rfl) rfl (Rd.x (x_fieldAddr fd89_0 rfl)) ?_
      refine sr_x rfl (wtd_yes rfl rfl rfl) rfl (Rd.x (x_load ag3 rfl (cells_ext (by repeat (first | exact List.mem_cons_self | apply List.mem_cons_of_mem | apply List.mem_append_right)) (by repeat (first | exact Ext.all _ | exact Ext.done | apply Ext.take | apply Ext.skip))))) ?_
      refine sr_cmp rfl (wtd_yes rfl rfl rfl) rfl (Rd.x (x_ge rfl rfl)) (fun h2 => ?_) (fun h2 => ?_)
      · refine sr_x rfl (wtd_none rfl) rfl (Rd.x (x_pick_f rfl rfl rfl)) ?_
        refine sr_x rfl (wtd_none rfl) rfl (Rd.x (x_move rfl)) ?_
        refine sr_skip rfl (wtd_no rfl rfl rfl rfl) rfl ?_
        refine sr_skip rfl (wtd_no rfl rfl rfl rfl) rfl ?_
        refine sr_skip rfl (wtd_no rfl rfl rfl rfl) rfl ?_
        refine sr_x rfl (wtd_none rfl) rfl (Rd.x (x_pick_t rfl rfl rfl)) ?_
        refine sr_x rfl (wtd_none rfl) rfl (Rd.x (x_move rfl)) ?_
        refine sr_skip rfl (wtd_no rfl rfl rfl rfl) rfl ?_
        refine sr_skip rfl (wtd_no rfl rfl rfl rfl) rfl ?_
        refine sr_skip rfl (wtd_no rfl rfl rfl rfl) rfl ?_
        refine sr_x rfl (wtd_none rfl) rfl (Rd.x (x_pick_t rfl rfl rfl)) ?_
        refine sr_nil ?_
        refine aw_keep (keep_cons (t := 2) rfl (keep_cons (t := 3) rfl (keep_cons (t := 4) rfl (keep_cons (t := 6) rfl (keep_cons (t := 7) rfl (keep_cons (t := 8) rfl (keep_cons (t := 31) rfl keep_nil))))))) ?_
        refine aw_true rfl ?_
        refine aw_seq_region ?_
        refine sr_x rfl (wtd_none rfl) rfl (Rd.x (x_assign rfl)) ?_
        refine sr_x rfl (wtd_none rfl) rfl (Rd.x (x_assign rfl)) ?_
        refine sr_x rfl (wtd_none rfl) rfl (Rd.x (x_assign rfl)) ?_
        refine sr_nil ?_
        refine aw_keep (keep_cons (t := 2) rfl (keep_cons (t := 3) rfl (keep_cons (t := 4) rfl (keep_cons (t := 6) rfl (keep_cons (t := 7) rfl (keep_cons (t := 8) rfl keep_nil)))))) ?_
        refine aw_ret ?_
        show ∃ v H2, ResV _ _ _ _ _ _ v ∧ Sub H2 _ ∧ _
        exact ⟨_, H, resV rfl (.cons rfl (.cons rfl (.cons rfl .nil))), (by repeat (first | exact Sub.refl _ | apply Sub.drop)), (by first | exact ⟨(if_neg (fun h => by obtain ⟨h91, h92, h93, h94⟩ := h; first | exact hrr h91 | (exfalso; omega) | (rcases h94 with ⟨h95, h96⟩ | ⟨h95, h96⟩ <;> first | omega | (rw [ht] at h96; cases h96) | (rw [hc] at h96; cases h96)))).symm, rfl⟩ | exact ⟨(if_pos ⟨hrr, by omega, by omega, by first | exact .inl ⟨by assumption, ht⟩ | exact .inr ⟨by assumption, hc⟩⟩).symm, rfl⟩)⟩
      · refine sr_x rfl (wtd_none rfl) rfl (Rd.x (x_pick_f rfl rfl rfl)) ?_
        refine sr_x rfl (wtd_none rfl) rfl (Rd.x (x_move rfl)) ?_
        refine sr_x rfl (wtd_yes rfl rfl rfl) rfl (Rd.x (x_fieldAddr fd91_7 rfl)) ?_
        refine sr_x rfl (wtd_yes rfl rfl rfl) rfl (Rd.x (x_load ag2 rfl (cells_ext (by repeat (first | exact List.mem_cons_self | apply List.mem_cons_of_mem | apply List.mem_append_right)) (by repeat (first | exact Ext.all _ | exact Ext.done | apply Ext.take | apply Ext.skip))))) ?_
        refine sr_cmp rfl (wtd_yes rfl rfl rfl) rfl (Rd.x (x_lt rfl rfl)) (fun h3 => ?_) (fun h3 => ?_)
        · refine sr_x rfl (wtd_none rfl) rfl (Rd.x (x_pick_f rfl rfl rfl)) ?_
          refine sr_x rfl (wtd_none rfl) rfl (Rd.x (x_move rfl)) ?_
          refine sr_skip rfl (wtd_no rfl rfl rfl rfl) rfl ?_
          refine sr_skip rfl (wtd_no rfl rfl rfl rfl) rfl ?_
          refine sr_skip rfl (wtd_no rfl rfl rfl rfl) rfl ?_
          refine sr_x rfl (wtd_none rfl) rfl (Rd.x (x_pick_t rfl rfl rfl)) ?_
          refine sr_nil ?_
          refine aw_keep (keep_cons (t := 2) rfl (keep_cons (t := 3) rfl (keep_cons (t := 4) rfl (keep_cons (t := 6) rfl (keep_cons (t := 7) rfl (keep_cons (t := 8) rfl (keep_cons (t := 31) rfl keep_nil))))))) ?_
          refine aw_true rfl ?_
          refine aw_seq_region ?_
          refine sr_x rfl (wtd_none rfl) rfl (Rd.x (x_assign rfl)) ?_
          refine sr_x rfl (wtd_none rfl) rfl (Rd.x (x_assign rfl)) ?_
          refine sr_x rfl (wtd_none rfl) rfl (Rd.x (x_assign rfl)) ?_
          refine sr_nil ?_
          refine aw_keep (keep_cons (t := 2) rfl (keep_cons (t := 3) rfl (keep_cons (t := 4) rfl (keep_cons (t := 6) rfl (keep_cons (t := 7) rfl (keep_cons (t := 8) rfl keep_nil)))))) ?_
          refine aw_ret ?_
          show ∃ v H2, ResV _ _ _ _ _ _ v ∧ Sub H2 _ ∧ _
          exact ⟨_, H, resV rfl (.cons rfl (.cons rfl (.cons rfl .nil))), (by repeat (first | exact Sub.refl _ | apply Sub.drop)), (by first | exact ⟨(if_neg (fun h => by obtain ⟨h91, h92, h93, h94⟩ := h; first | exact hrr h91 | (exfalso; omega) | (rcases h94 with ⟨h95, h96⟩ | ⟨h95, h96⟩ <;> first | omega | (rw [ht] at h96; cases h96) | (rw [hc] at h96; cases h96)))).symm, rfl⟩ | exact ⟨(if_pos ⟨hrr, by omega, by omega, by first | exact .inl ⟨by assumption, ht⟩ | exact .inr ⟨by assumption, hc⟩⟩).symm, rfl⟩)⟩
        · refine sr_x rfl (wtd_none rfl) rfl (Rd.x (x_pick_f rfl rfl rfl)) ?_
          refine sr_x rfl (wtd_none rfl) rfl (Rd.x (x_move rfl)) ?_
          refine sr_x rfl (wtd_yes rfl rfl rfl) rfl (Rd.x (x_fieldAddr fd91_7 rfl)) ?_
          refine sr_x rfl (wtd_yes rfl rfl rfl) rfl (Rd.x (x_load ag2 rfl (cells_ext (by repeat (first | exact List.mem_cons_self | apply List.mem_cons_of_mem | apply List.mem_append_right)) (by repeat (first | exact Ext.all _ | exact Ext.done | apply Ext.take | apply Ext.skip))))) ?_
          refine sr_cmp rfl (wtd_yes rfl rfl rfl) rfl (Rd.x (x_gt rfl rfl)) (fun h4 => ?_) (fun h4 => ?_)
          · refine sr_x rfl (wtd_none rfl) rfl (Rd.x (x_pick_f rfl rfl rfl)) ?_
            refine sr_nil ?_
            refine aw_keep (keep_cons (t := 2) rfl (keep_cons (t := 3) rfl (keep_cons (t := 4) rfl (keep_cons (t := 6) rfl (keep_cons (t := 7) rfl (keep_cons (t := 8) rfl (keep_cons (t := 31) rfl keep_nil))))))) ?_
            refine aw_true rfl ?_
            refine aw_seq_region ?_
            refine sr_x rfl (wtd_none rfl) rfl (Rd.x (x_assign rfl)) ?_
            refine sr_x rfl (wtd_none rfl) rfl (Rd.x (x_assign rfl)) ?_
            refine sr_x rfl (wtd_none rfl) rfl (Rd.x (x_assign rfl)) ?_
            refine sr_nil ?_
            refine aw_keep (keep_cons (t := 2) rfl (keep_cons (t := 3) rfl (keep_cons (t := 4) rfl (keep_cons (t := 6) rfl (keep_cons (t := 7) rfl (keep_cons (t := 8) rfl keep_nil)))))) ?_
            refine aw_ret ?_
            show ∃ v H2, ResV _ _ _ _ _ _ v ∧ Sub H2 _ ∧ _
            exact ⟨_, H, resV rfl (.cons rfl (.cons rfl (.cons rfl .nil))), (by repeat (first | exact Sub.refl _ | apply Sub.drop)), (by first | exact ⟨(if_neg (fun h => by obtain ⟨h91, h92, h93, h94⟩ := h; first | exact hrr h91 | (exfalso; omega) | (rcases h94 with ⟨h95, h96⟩ | ⟨h95, h96⟩ <;> first | omega | (rw [ht] at h96; cases h96) | (rw [hc] at h96; cases h96)))).symm, rfl⟩ | exact ⟨(if_pos ⟨hrr, by omega, by omega, by first | exact .inl ⟨by assumption, ht⟩ | exact .inr ⟨by assumption, hc⟩⟩).symm, rfl⟩)⟩
          · refine sr_x rfl (wtd_none rfl) rfl (Rd.x (x_pick_f rfl rfl rfl)) ?_
            refine sr_nil ?_
            refine aw_keep (keep_cons (t := 2) rfl (keep_cons (t := 3) rfl (keep_cons (t := 4) rfl (keep_cons (t := 6) rfl (keep_cons (t := 7) rfl (keep_cons (t := 8) rfl (keep_cons (t := 31) rfl keep_nil))))))) ?_
            refine aw_false rfl ?_
            refine aw_skip ?_
            show AW _ _ _ _ _ _ _
            refine aw_seq ?_
            refine aw_seq_region ?_
            refine sr_x rfl (wtd_none rfl) rfl (Rd.x (x_fieldAddr fd91_5 rfl)) ?_
            refine sr_x rfl (wtd_none rfl) rfl (Rd.x (x_load ag3 rfl (cells_ext (by repeat (first | exact List.mem_cons_self | apply List.mem_cons_of_mem | apply List.mem_append_right)) (by repeat (first | exact Ext.all _ | exact Ext.done | apply Ext.take | apply Ext.skip))))) ?_
            refine sr_cmp rfl (wtd_none rfl) rfl (Rd.x (x_eq rfl rfl)) (fun h5 => ?_) (fun h5 => ?_)
            · refine sr_x rfl (wtd_none rfl) rfl (Rd.x (x_move rfl)) ?_
              refine sr_x rfl (wtd_yes rfl rfl rfl) rfl (Rd.x (x_fieldAddr fd89_1 rfl)) ?_
              refine sr_x rfl (wtd_yes rfl rfl rfl) rfl (Rd.x (x_cast (u := .bool true) (x_load ag4 rfl (cells_ext (by repeat (first | exact List.mem_cons_self | apply List.mem_cons_of_mem | apply List.mem_append_right)) (by repeat (first | exact Ext.all _ | exact Ext.done | apply Ext.take | apply Ext.skip)))) (congrArg Value.bool ht))) ?_
              refine sr_x rfl (wtd_none rfl) rfl (Rd.x (x_pick_t rfl rfl rfl)) ?_
              refine sr_x rfl (wtd_none rfl) rfl (Rd.x (x_move rfl)) ?_
              refine sr_skip rfl (wtd_no rfl rfl rfl rfl) rfl ?_
              refine sr_skip rfl (wtd_no rfl rfl rfl rfl) rfl ?_
              refine sr_skip rfl (wtd_no rfl rfl rfl rfl) rfl ?_
              refine sr_skip rfl (wtd_no rfl rfl rfl rfl) rfl ?_
              refine sr_skip rfl (wtd_un rfl rfl rfl) rfl ?_
              refine sr_skip rfl (wtd_un rfl rfl rfl) rfl ?_
              refine sr_skip rfl (wtd_no rfl rfl rfl rfl) rfl ?_
              refine sr_x rfl (wtd_none rfl) rfl (Rd.x (x_pick_t rfl rfl rfl)) ?_
              refine sr_x rfl (wtd_none rfl) rfl (Rd.x (x_not rfl)) ?_
              refine sr_nil ?_
              refine aw_keep (keep_cons (t := 2) rfl (keep_cons (t := 3) rfl (keep_cons (t := 4) rfl (keep_cons (t := 6) rfl (keep_cons (t := 7) rfl (keep_cons (t := 8) rfl (keep_cons (t := 48) rfl keep_nil))))))) ?_
              refine aw_false rfl ?_
              refine aw_skip ?_
              show AW _ _ _ _ _ _ _
              refine aw_seq_dr ⟨_, 15, 61, [[], [0], [], [], [2, 3], [0, 1, 2, 3, 4], [0, 1, 2, 3, 4, 5], [], [], [8], [], [0, 1, 2, 3, 4, 5, 6, 7, 8, 9, 10], [0, 1, 2, 3, 4, 5, 6, 7, 8, 9, 10, 11], [0, 1, 2, 3, 4, 5, 6, 7, 8, 9, 10, 11, 12], [0, 1, 2, 3, 4, 5, 6, 7, 8, 9, 10, 11, 12, 13]], [.light, .mem, .mem, .light, .call, .alloc, .call, .mem, .light, .mem, .light, .call, .light, .light, .light]⟩ (by kernel_rfl) rfl rfl mix ?_
              refine dr_light rfl rfl (wtd_none rfl) (x_fieldAddr fd91_7 rfl) ?_
              refine dr_mem0 rfl rfl (wtd_none rfl) (x_load ag2 rfl (cells_ext (by repeat (first | exact List.mem_cons_self | apply List.mem_cons_of_mem | apply List.mem_append_right)) (by repeat (first | exact Ext.all _ | exact Ext.done | apply Ext.take | apply Ext.skip)))) ?_
              refine dr_mem0 rfl rfl (wtd_none rfl) (x_loadN ag89 sz89 rfl (cells_ext (by repeat (first | exact List.mem_cons_self | apply List.mem_cons_of_mem | apply List.mem_append_right)) (by repeat (first | exact Ext.all _ | exact Ext.done | apply Ext.take | apply Ext.skip))) rfl) ?_
              refine dr_light rfl rfl (wtd_none rfl) (x_move rfl) ?_
              refine dr_callq0 rfl rfl (wtd_none rfl) (opS_F rfl rfl rfl rfl cl63 ((wait63_s _ _ _))) (⟨_, rfl⟩) ?_
              rintro _ rfl
              refine dr_alloc rfl rfl (wtd_none rfl) (x_buildSlice Try.underlying178 sz2 zr2 rfl rfl rfl rfl (by repeat (first | exact Parts.nil | (apply Parts.cons; rfl))) (by repeat (first | exact Fill.done | (apply Fill.part; rfl; rfl; rfl; focus (repeat (first | exact Spl.done | exact Spl.all rfl | apply Spl.put | apply Spl.skip)))))) ?_
              intro r5_5 hr5_5 gr5_5
              refine dr_callq rfl (V := [(r5_5, _)]) rfl rfl rfl (wtd_none rfl) (opS_F rfl rfl rfl rfl cl59 ((satAdd_s _ 2 [_, _] _ rfl (by omega) (cells_ext (by repeat (first | exact List.mem_cons_self | apply List.mem_cons_of_mem | apply List.mem_append_right)) (by repeat (first | exact Ext.all _ | exact Ext.done | apply Ext.take | apply Ext.skip)))))) (⟨_, rfl⟩) ?_
              rintro _ rfl
              refine dr_mem rfl (V := []) rfl rfl (wtd_none rfl) (x_loadN ag89 sz89 rfl (cells_ext (by repeat (first | exact List.mem_cons_self | apply List.mem_cons_of_mem | apply List.mem_append_right)) (by repeat (first | exact Ext.all _ | exact Ext.done | apply Ext.take | apply Ext.skip))) rfl) ?_
              refine dr_light rfl rfl (wtd_none rfl) (x_fieldAddr fd91_3 rfl) ?_
              refine dr_mem rfl (V := []) rfl rfl (wtd_none rfl) (x_load ag2 rfl (cells_ext (by repeat (first | exact List.mem_cons_self | apply List.mem_cons_of_mem | apply List.mem_append_right)) (by repeat (first | exact Ext.all _ | exact Ext.done | apply Ext.take | apply Ext.skip)))) ?_
              refine dr_light rfl rfl (wtd_none rfl) (x_move rfl) ?_
              refine dr_callq rfl (V := [(r5_5, _)]) rfl rfl rfl (wtd_none rfl) (opS_F rfl rfl rfl rfl cl62 ((limit62_s _ _ _ _ hrr))) (⟨_, rfl⟩) ?_
              rintro _ rfl
              refine dr_light rfl rfl (wtd_none rfl) (x_assign rfl) ?_
              refine dr_light rfl rfl (wtd_none rfl) (x_assign rfl) ?_
              refine dr_light rfl rfl (wtd_none rfl) (x_assign rfl) ?_
              refine dr_drop ?_
              refine aw_keep (keep_cons (t := 6) rfl (keep_cons (t := 7) rfl (keep_cons (t := 8) rfl keep_nil))) ?_
              refine aw_ret ?_
              show ∃ v H2, ResV _ _ _ _ _ _ v ∧ Sub H2 _ ∧ _
              exact ⟨_, H, resV rfl (.cons rfl (.cons rfl (.cons rfl .nil))), (by repeat (first | exact Sub.refl _ | apply Sub.drop)), (by first | exact ⟨(if_neg (fun h => by obtain ⟨h91, h92, h93, h94⟩ := h; first | exact hrr h91 | (exfalso; omega) | (rcases h94 with ⟨h95, h96⟩ | ⟨h95, h96⟩ <;> first | omega | (rw [ht] at h96; cases h96) | (rw [hc] at h96; cases h96)))).symm, rfl⟩ | exact ⟨(if_pos ⟨hrr, by omega, by omega, by first | exact .inl ⟨by assumption, ht⟩ | exact .inr ⟨by assumption, hc⟩⟩).symm, rfl⟩)⟩
            · refine sr_x rfl (wtd_none rfl) rfl (Rd.x (x_move rfl)) ?_
              refine sr_skip rfl (wtd_no rfl rfl rfl rfl) rfl ?_
              refine sr_skip rfl (wtd_no rfl rfl rfl rfl) rfl ?_
              refine sr_x rfl (wtd_none rfl) rfl (Rd.x (x_pick_f rfl rfl rfl)) ?_
              refine sr_x rfl (wtd_none rfl) rfl (Rd.x (x_move rfl)) ?_
              refine sr_x rfl (wtd_yes rfl rfl rfl) rfl (Rd.x (x_fieldAddr fd91_5 rfl)) ?_
              refine sr_x rfl (wtd_yes rfl rfl rfl) rfl (Rd.x (x_load ag3 rfl (cells_ext (by repeat (first | exact List.mem_cons_self | apply List.mem_cons_of_mem | apply List.mem_append_right)) (by repeat (first | exact Ext.all _ | exact Ext.done | apply Ext.take | apply Ext.skip))))) ?_
              refine sr_cmp rfl (wtd_yes rfl rfl rfl) rfl (Rd.x (x_eq rfl rfl)) (fun h6 => ?_) (fun h6 => ?_)
              · refine sr_x rfl (wtd_yes rfl rfl rfl) rfl (Rd.x (x_move rfl)) ?_
                refine sr_x rfl (wtd_yes rfl rfl rfl) rfl (Rd.x (x_fieldAddr fd89_2 rfl)) ?_
                refine sr_x rfl (wtd_yes rfl rfl rfl) rfl (Rd.x (x_cast (u := .bool true) (x_load ag4 rfl (cells_ext (by repeat (first | exact List.mem_cons_self | apply List.mem_cons_of_mem | apply List.mem_append_right)) (by repeat (first | exact Ext.all _ | exact Ext.done | apply Ext.take | apply Ext.skip)))) (congrArg Value.bool hc))) ?_
                refine sr_x rfl (wtd_yes rfl rfl rfl) rfl (Rd.x (x_pick_t rfl rfl rfl)) ?_
                refine sr_x rfl (wtd_none rfl) rfl (Rd.x (x_pick_f rfl rfl rfl)) ?_
                refine sr_x rfl (wtd_none rfl) rfl (Rd.x (x_not rfl)) ?_
                refine sr_nil ?_
                refine aw_keep (keep_cons (t := 2) rfl (keep_cons (t := 3) rfl (keep_cons (t := 4) rfl (keep_cons (t := 6) rfl (keep_cons (t := 7) rfl (keep_cons (t := 8) rfl (keep_cons (t := 48) rfl keep_nil))))))) ?_
                refine aw_false rfl ?_
                refine aw_skip ?_
                show AW _ _ _ _ _ _ _
                refine aw_seq_dr ⟨_, 15, 61, [[], [0], [], [], [2, 3], [0, 1, 2, 3, 4], [0, 1, 2, 3, 4, 5], [], [], [8], [], [0, 1, 2, 3, 4, 5, 6, 7, 8, 9, 10], [0, 1, 2, 3, 4, 5, 6, 7, 8, 9, 10, 11], [0, 1, 2, 3, 4, 5, 6, 7, 8, 9, 10, 11, 12], [0, 1, 2, 3, 4, 5, 6, 7, 8, 9, 10, 11, 12, 13]], [.light, .mem, .mem, .light, .call, .alloc, .call, .mem, .light, .mem, .light, .call, .light, .light, .light]⟩ (by kernel_rfl) rfl rfl mix ?_
                refine dr_light rfl rfl (wtd_none rfl) (x_fieldAddr fd91_7 rfl) ?_
                refine dr_mem0 rfl rfl (wtd_none rfl) (x_load ag2 rfl (cells_ext (by repeat (first | exact List.mem_cons_self | apply List.mem_cons_of_mem | apply List.mem_append_right)) (by repeat (first | exact Ext.all _ | exact Ext.done | apply Ext.take | apply Ext.skip)))) ?_
                refine dr_mem0 rfl rfl (wtd_none rfl) (x_loadN ag89 sz89 rfl (cells_ext (by repeat (first | exact List.mem_cons_self | apply List.mem_cons_of_mem | apply List.mem_append_right)) (by repeat (first | exact Ext.all _ | exact Ext.done | apply Ext.take | apply Ext.skip))) rfl) ?_
                refine dr_light rfl rfl (wtd_none rfl) (x_move rfl) ?_
                refine dr_callq0 rfl rfl (wtd_none rfl) (opS_F rfl rfl rfl rfl cl63 ((wait63_s _ _ _))) (⟨_, rfl⟩) ?_
                rintro _ rfl
                refine dr_alloc rfl rfl (wtd_none rfl) (x_buildSlice Try.underlying178 sz2 zr2 rfl rfl rfl rfl (by repeat (first | exact Parts.nil | (apply Parts.cons; rfl))) (by repeat (first | exact Fill.done | (apply Fill.part; rfl; rfl; rfl; focus (repeat (first | exact Spl.done | exact Spl.all rfl | apply Spl.put | apply Spl.skip)))))) ?_
                intro r5_5 hr5_5 gr5_5
                refine dr_callq rfl (V := [(r5_5, _)]) rfl rfl rfl (wtd_none rfl) (opS_F rfl rfl rfl rfl cl59 ((satAdd_s _ 2 [_, _] _ rfl (by omega) (cells_ext (by repeat (first | exact List.mem_cons_self | apply List.mem_cons_of_mem | apply List.mem_append_right)) (by repeat (first | exact Ext.all _ | exact Ext.done | apply Ext.take | apply Ext.skip)))))) (⟨_, rfl⟩) ?_
                rintro _ rfl
                refine dr_mem rfl (V := []) rfl rfl (wtd_none rfl) (x_loadN ag89 sz89 rfl (cells_ext (by repeat (first | exact List.mem_cons_self | apply List.mem_cons_of_mem | apply List.mem_append_right)) (by repeat (first | exact Ext.all _ | exact Ext.done | apply Ext.take | apply Ext.skip))) rfl) ?_
                refine dr_light rfl rfl (wtd_none rfl) (x_fieldAddr fd91_3 rfl) ?_
                refine dr_mem rfl (V := []) rfl rfl (wtd_none rfl) (x_load ag2 rfl (cells_ext (by repeat (first | exact List.mem_cons_self | apply List.mem_cons_of_mem | apply List.mem_append_right)) (by repeat (first | exact Ext.all _ | exact Ext.done | apply Ext.take | apply Ext.skip)))) ?_
                refine dr_light rfl rfl (wtd_none rfl) (x_move rfl) ?_
                refine dr_callq rfl (V := [(r5_5, _)]) rfl rfl rfl (wtd_none rfl) (opS_F rfl rfl rfl rfl cl62 ((limit62_s _ _ _ _ hrr))) (⟨_, rfl⟩) ?_
                rintro _ rfl
                refine dr_light rfl rfl (wtd_none rfl) (x_assign rfl) ?_
                refine dr_light rfl rfl (wtd_none rfl) (x_assign rfl) ?_
                refine dr_light rfl rfl (wtd_none rfl) (x_assign rfl) ?_
                refine dr_drop ?_
                refine aw_keep (keep_cons (t := 6) rfl (keep_cons (t := 7) rfl (keep_cons (t := 8) rfl keep_nil))) ?_
                refine aw_ret ?_
                show ∃ v H2, ResV _ _ _ _ _ _ v ∧ Sub H2 _ ∧ _
                exact ⟨_, H, resV rfl (.cons rfl (.cons rfl (.cons rfl .nil))), (by repeat (first | exact Sub.refl _ | apply Sub.drop)), (by first | exact ⟨(if_neg (fun h => by obtain ⟨h91, h92, h93, h94⟩ := h; first | exact hrr h91 | (exfalso; omega) | (rcases h94 with ⟨h95, h96⟩ | ⟨h95, h96⟩ <;> first | omega | (rw [ht] at h96; cases h96) | (rw [hc] at h96; cases h96)))).symm, rfl⟩ | exact ⟨(if_pos ⟨hrr, by omega, by omega, by first | exact .inl ⟨by assumption, ht⟩ | exact .inr ⟨by assumption, hc⟩⟩).symm, rfl⟩)⟩
              · refine sr_x rfl (wtd_yes rfl rfl rfl) rfl (Rd.x (x_move rfl)) ?_
                refine sr_skip rfl (wtd_no rfl rfl rfl rfl) rfl ?_
                refine sr_skip rfl (wtd_no rfl rfl rfl rfl) rfl ?_
                refine sr_x rfl (wtd_yes rfl rfl rfl) rfl (Rd.x (x_pick_f rfl rfl rfl)) ?_
                refine sr_x rfl (wtd_none rfl) rfl (Rd.x (x_pick_f rfl rfl rfl)) ?_
                refine sr_x rfl (wtd_none rfl) rfl (Rd.x (x_not rfl)) ?_
                refine sr_nil ?_
                refine aw_keep (keep_cons (t := 2) rfl (keep_cons (t := 3) rfl (keep_cons (t := 4) rfl (keep_cons (t := 6) rfl (keep_cons (t := 7) rfl (keep_cons (t := 8) rfl (keep_cons (t := 48) rfl keep_nil))))))) ?_
                refine aw_true rfl ?_
                refine aw_seq_region ?_
                refine sr_x rfl (wtd_none rfl) rfl (Rd.x (x_assign rfl)) ?_
                refine sr_x rfl (wtd_none rfl) rfl (Rd.x (x_assign rfl)) ?_
                refine sr_x rfl (wtd_none rfl) rfl (Rd.x (x_assign rfl)) ?_
                refine sr_nil ?_
                refine aw_keep (keep_cons (t := 2) rfl (keep_cons (t := 3) rfl (keep_cons (t := 4) rfl (keep_cons (t := 6) rfl (keep_cons (t := 7) rfl (keep_cons (t := 8) rfl keep_nil)))))) ?_
                refine aw_ret ?_
                show ∃ v H2, ResV _ _ _ _ _ _ v ∧ Sub H2 _ ∧ _
                exact ⟨_, H, resV rfl (.cons rfl (.cons rfl (.cons rfl .nil))), (by repeat (first | exact Sub.refl _ | apply Sub.drop)), (by first | exact ⟨(if_neg (fun h => by obtain ⟨h91, h92, h93, h94⟩ := h; first | exact hrr h91 | (exfalso; omega) | (rcases h94 with ⟨h95, h96⟩ | ⟨h95, h96⟩ <;> first | omega | (rw [ht] at h96; cases h96) | (rw [hc] at h96; cases h96)))).symm, rfl⟩ | exact ⟨(if_pos ⟨hrr, by omega, by omega, by first | exact .inl ⟨by assumption, ht⟩ | exact .inr ⟨by assumption, hc⟩⟩).symm, rfl⟩)⟩
  · rw [decide_eq_false hrr]
    refine sr_x rfl (wtd_none rfl) rfl (Rd.x (x_not rfl)) ?_
    refine sr_x rfl (wtd_none rfl) rfl (Rd.x (x_move rfl)) ?_
    refine sr_skip rfl (wtd_no rfl rfl rfl rfl) rfl ?_
    refine sr_skip rfl (wtd_no rfl rfl rfl rfl) rfl ?_
    refine sr_x rfl (wtd_none rfl) rfl (Rd.x (x_pick_t rfl rfl rfl)) ?_
    refine sr_x rfl (wtd_none rfl) rfl (Rd.x (x_move rfl)) ?_
    refine sr_skip rfl (wtd_no rfl rfl rfl rfl) rfl ?_
    refine sr_skip rfl (wtd_no rfl rfl rfl rfl) rfl ?_
    refine sr_skip rfl (wtd_no rfl rfl rfl rfl) rfl ?_
    refine sr_skip rfl (wtd_no rfl rfl rfl rfl) rfl ?_
    refine sr_x rfl (wtd_none rfl) rfl (Rd.x (x_pick_t rfl rfl rfl)) ?_
    refine sr_x rfl (wtd_none rfl) rfl (Rd.x (x_move rfl)) ?_
    refine sr_skip rfl (wtd_no rfl rfl rfl rfl) rfl ?_
    refine sr_skip rfl (wtd_no rfl rfl rfl rfl) rfl ?_
    refine sr_skip rfl (wtd_no rfl rfl rfl rfl) rfl ?_
    refine sr_x rfl (wtd_none rfl) rfl (Rd.x (x_pick_t rfl rfl rfl)) ?_
    refine sr_x rfl (wtd_none rfl) rfl (Rd.x (x_move rfl)) ?_
    refine sr_skip rfl (wtd_no rfl rfl rfl rfl) rfl ?_
    refine sr_skip rfl (wtd_no rfl rfl rfl rfl) rfl ?_
    refine sr_skip rfl (wtd_no rfl rfl rfl rfl) rfl ?_
    refine sr_x rfl (wtd_none rfl) rfl (Rd.x (x_pick_t rfl rfl rfl)) ?_
    refine sr_nil ?_
    refine aw_keep (keep_cons (t := 2) rfl (keep_cons (t := 3) rfl (keep_cons (t := 4) rfl (keep_cons (t := 6) rfl (keep_cons (t := 7) rfl (keep_cons (t := 8) rfl (keep_cons (t := 31) rfl keep_nil))))))) ?_
    refine aw_true rfl ?_
    refine aw_seq_region ?_
    refine sr_x rfl (wtd_none rfl) rfl (Rd.x (x_assign rfl)) ?_
    refine sr_x rfl (wtd_none rfl) rfl (Rd.x (x_assign rfl)) ?_
    refine sr_x rfl (wtd_none rfl) rfl (Rd.x (x_assign rfl)) ?_
    refine sr_nil ?_
    refine aw_keep (keep_cons (t := 2) rfl (keep_cons (t := 3) rfl (keep_cons (t := 4) rfl (keep_cons (t := 6) rfl (keep_cons (t := 7) rfl (keep_cons (t := 8) rfl keep_nil)))))) ?_
    refine aw_ret ?_
    show ∃ v H2, ResV _ _ _ _ _ _ v ∧ Sub H2 _ ∧ _
    exact ⟨_, H, resV rfl (.cons rfl (.cons rfl (.cons rfl .nil))), (by repeat (first | exact Sub.refl _ | apply Sub.drop)), (by first | exact ⟨(if_neg (fun h => by obtain ⟨h91, h92, h93, h94⟩ := h; first | exact hrr h91 | (exfalso; omega) | (rcases h94 with ⟨h95, h96⟩ | ⟨h95, h96⟩ <;> first | omega | (rw [ht] at h96; cases h96) | (rw [hc] at h96; cases h96)))).symm, rfl⟩ | exact ⟨(if_pos ⟨hrr, by omega, by omega, by first | exact .inl ⟨by assumption, ht⟩ | exact .inr ⟨by assumption, hc⟩⟩).symm, rfl⟩)⟩
set_option maxRecDepth 100000 in
set_option maxHeartbeats 2000000 in
theorem again56_10 (r : Rule) (j : Job) (tries : Int) (H : SHeap) (ht : r.timed = true) (hc : r.cancel = false) : AC Try.prog W0 56 [r.v, j.v, .int .i64 tries] H (fun v H' => v = againV r j tries ∧ H' = H) := by
  refine ac_of Try.func56 rfl rfl rfl ?_
  refine aw_seq_region ?_
  refine sr_new rfl (wtd_none rfl) rfl (x_box rfl rfl) ?_
  intro r0_0 hr0_0 gr0_0
  refine sr_new rfl (wtd_none rfl) rfl (x_box rfl rfl) ?_
  intro r0_1 hr0_1 gr0_1
  refine sr_x rfl (wtd_none rfl) rfl (Rd.x (x_assign rfl)) ?_
  refine sr_x rfl (wtd_none rfl) rfl (Rd.x (x_assign rfl)) ?_
  refine sr_x rfl (wtd_none rfl) rfl (Rd.x (x_assign rfl)) ?_
  refine sr_nil ?_
  refine aw_keep (keep_cons (t := 2) rfl (keep_cons (t := 3) rfl (keep_cons (t := 4) rfl (keep_cons (t := 6) rfl (keep_cons (t := 7) rfl (keep_cons (t := 8) rfl keep_nil)))))) ?_
  refine aw_seq ?_
  refine aw_seq_region ?_
  refine sr_x rfl (wtd_none rfl) rfl (Rd.x (x_loadN ag89 sz89 rfl (cells_ext (by repeat (first | exact List.mem_cons_self | apply List.mem_cons_of_mem | apply List.mem_append_right)) (by repeat (first | exact Ext.all _ | exact Ext.done | apply Ext.take | apply Ext.skip))) rfl)) ?_
  refine sr_d rfl (wtd_none rfl) rfl (opS_call rfl rfl rfl rfl cl54 (rright54_s _ _)) ?_
  rintro _ H ⟨rfl, rfl⟩
  by_cases hrr : RRight r
  · rw [decide_eq_true hrr]
    refine sr_x rfl (wtd_none rfl) rfl (Rd.x (x_not rfl)) ?_
    refine sr_x rfl (wtd_none rfl) rfl (Rd.x (x_move rfl)) ?_
    refine sr_x rfl (wtd_yes rfl rfl rfl) rfl (Rd.x (x_move rfl)) ?_
    refine sr_cmp rfl (wtd_yes rfl rfl rfl) rfl (Rd.x (x_lt rfl rfl)) (fun h1 => ?_) (fun h1 => ?_)
    · refine sr_x rfl (wtd_none rfl) rfl (Rd.x (x_pick_f rfl rfl rfl)) ?_
      refine sr_x rfl (wtd_none rfl) rfl (Rd.x (x_move rfl)) ?_
      refine sr_skip rfl (wtd_no rfl rfl rfl rfl) rfl ?_
      refine sr_skip rfl (wtd_no rfl rfl rfl rfl) rfl ?_
      refine sr_skip rfl (wtd_no rfl rfl rfl rfl) rfl ?_
      refine sr_skip rfl (wtd_no rfl rfl rfl rfl) rfl ?_
      refine sr_x rfl (wtd_none rfl) rfl (Rd.x (x_pick_t rfl rfl rfl)) ?_
      refine sr_x rfl (wtd_none rfl) rfl (Rd.x (x_move rfl)) ?_
      refine sr_skip rfl (wtd_no rfl rfl rfl rfl) rfl ?_
      refine sr_skip rfl (wtd_no rfl rfl rfl rfl) rfl ?_
      refine sr_skip rfl (wtd_no rfl rfl rfl rfl) rfl ?_
      refine sr_x rfl (wtd_none rfl) rfl (Rd.x (x_pick_t rfl rfl rfl)) ?_
      refine sr_x rfl (wtd_none rfl) rfl (Rd.x (x_move rfl)) ?_
      refine sr_skip rfl (wtd_no rfl rfl rfl rfl) rfl ?_
      refine sr_skip rfl (wtd_no rfl rfl rfl rfl) rfl ?_
      refine sr_skip rfl (wtd_no rfl rfl rfl rfl) rfl ?_
      refine sr_x rfl (wtd_none rfl) rfl (Rd.x (x_pick_t rfl rfl rfl)) ?_
      refine sr_nil ?_
      refine aw_keep (keep_cons (t := 2) rfl (keep_cons (t := 3) rfl (keep_cons (t := 4) rfl (keep_cons (t := 6) rfl (keep_cons (t := 7) rfl (keep_cons (t := 8) rfl (keep_cons (t := 31) rfl keep_nil))))))) ?_
      refine aw_true rfl ?_
      refine aw_seq_region ?_
      refine sr_x rfl (wtd_none rfl) rfl (Rd.x (x_assign rfl)) ?_
      refine sr_x rfl (wtd_none rfl) rfl (Rd.x (x_assign rfl)) ?_
      refine sr_x rfl (wtd_none rfl) rfl (Rd.x (x_assign rfl)) ?_
      refine sr_nil ?_
      refine aw_keep (keep_cons (t := 2) rfl (keep_cons (t := 3) rfl (keep_cons (t := 4) rfl (keep_cons (t := 6) rfl (keep_cons (t := 7) rfl (keep_cons (t := 8) rfl keep_nil)))))) ?_
      refine aw_ret ?_
      show ∃ v H2, ResV _ _ _ _ _ _ v ∧ Sub H2 _ ∧ _
      exact ⟨_, H, resV rfl (.cons rfl (.cons rfl (.cons rfl .nil))), (by repeat (first | exact Sub.refl _ | apply Sub.drop)), (by first | exact ⟨(if_neg (fun h => by obtain ⟨h91, h92, h93, h94⟩ := h; first | exact hrr h91 | (exfalso; omega) | (rcases h94 with ⟨h95, h96⟩ | ⟨h95, h96⟩ <;> first | omega | (rw [ht] at h96; cases h96) | (rw [hc] at h96; cases h96)))).symm, rfl⟩ | exact ⟨(if_pos ⟨hrr, by omega, by omega, by first | exact .inl ⟨by assumption, ht⟩ | exact .inr ⟨by assumption, hc⟩⟩).symm, rfl⟩)⟩
    · refine sr_x rfl (wtd_none rfl) rfl (Rd.x (x_pick_f rfl rfl rfl)) ?_
      refine sr_x rfl (wtd_none rfl) rfl (Rd.x (x_move rfl)) ?_
      refine sr_x rfl (wtd_yes rfl rfl rfl) rfl (Rd.x (x_move rfl)) ?_
      refine sr_x rfl (wtd_yes rfl rfl rfl) rfl (Rd.x (x_fieldAddr fd89_0 rfl)) ?_
      refine sr_x rfl (wtd_yes rfl rfl rfl) rfl (Rd.x (x_load ag3 rfl (cells_ext (by repeat (first | exact List.mem_cons_self | apply List.mem_cons_of_mem | apply List.mem_append_right)) (by repeat (first | exact Ext.all _ | exact Ext.done | apply Ext.take | apply Ext.skip))))) ?_
      refine sr_cmp rfl (wtd_yes rfl rfl rfl) rfl (Rd.x (x_ge rfl rfl)) (fun h2 => ?_) (fun h2 => ?_)
      · refine sr_x rfl (wtd_none rfl) rfl (Rd.x (x_pick_f rfl rfl rfl)) ?_
        refine sr_x rfl (wtd_none rfl) rfl (Rd.x (x_move rfl)) ?_
        refine sr_skip rfl (wtd_no rfl rfl rfl rfl) rfl ?_
        refine sr_skip rfl (wtd_no rfl rfl rfl rfl) rfl ?_
        refine sr_skip rfl (wtd_no rfl rfl rfl rfl) rfl ?_
        refine sr_x rfl (wtd_none rfl) rfl (Rd.x (x_pick_t rfl rfl rfl)) ?_
        refine sr_x rfl (wtd_none rfl) rfl (Rd.x (x_move rfl)) ?_
        refine sr_skip rfl (wtd_no rfl rfl rfl rfl) rfl ?_
        refine sr_skip rfl (wtd_no rfl rfl rfl rfl) rfl ?_
        refine sr_skip rfl (wtd_no rfl rfl rfl rfl) rfl ?_
        refine sr_x rfl (wtd_none rfl) rfl (Rd.x (x_pick_t rfl rfl rfl)) ?_
        refine sr_nil ?_
        refine aw_keep (keep_cons (t := 2) rfl (keep_cons (t := 3) rfl (keep_cons (t := 4) rfl (keep_cons (t := 6) rfl (keep_cons (t := 7) rfl (keep_cons (t := 8) rfl (keep_cons (t := 31) rfl keep_nil))))))) ?_
        refine aw_true rfl ?_
        refine aw_seq_region ?_
        refine sr_x rfl (wtd_none rfl) rfl (Rd.x (x_assign rfl)) ?_
        refine sr_x rfl (wtd_none rfl) rfl (Rd.x (x_assign rfl)) ?_
        refine sr_x rfl (wtd_none rfl) rfl (Rd.x (x_assign rfl)) ?_
        refine sr_nil ?_
        refine aw_keep (keep_cons (t := 2) rfl (keep_cons (t := 3) rfl (keep_cons (t := 4) rfl (keep_cons (t := 6) rfl (keep_cons (t := 7) rfl (keep_cons (t := 8) rfl keep_nil)))))) ?_
        refine aw_ret ?_
        show ∃ v H2, ResV _ _ _ _ _ _ v ∧ Sub H2 _ ∧ _
        exact ⟨_, H, resV rfl (.cons rfl (.cons rfl (.cons rfl .nil))), (by repeat (first | exact Sub.refl _ | apply Sub.drop)), (by first | exact ⟨(if_neg (fun h => by obtain ⟨h91, h92, h93, h94⟩ := h; first | exact hrr h91 | (exfalso; omega) | (rcases h94 with ⟨h95, h96⟩ | ⟨h95, h96⟩ <;> first | omega | (rw [ht] at h96; cases h96) | (rw [hc] at h96; cases h96)))).symm, rfl⟩ | exact ⟨(if_pos ⟨hrr, by omega, by omega, by first | exact .inl ⟨by assumption, ht⟩ | exact .inr ⟨by assumption, hc⟩⟩).symm, rfl⟩)⟩
      · refine sr_x rfl (wtd_none rfl) rfl (Rd.x (x_pick_f rfl rfl rfl)) ?_
        refine sr_x rfl (wtd_none rfl) rfl (Rd.x (x_move rfl)) ?_
        refine sr_x rfl (wtd_yes rfl rfl rfl) rfl (Rd.x (x_fieldAddr fd91_7 rfl)) ?_
        refine sr_x rfl (wtd_yes rfl rfl rfl) rfl (Rd.x (x_load ag2 rfl (cells_ext (by repeat (first | exact List.mem_cons_self | apply List.mem_cons_of_mem | apply List.mem_append_right)) (by repeat (first | exact Ext.all _ | exact Ext.done | apply Ext.take | apply Ext.skip))))) ?_
        refine sr_cmp rfl (wtd_yes rfl rfl rfl) rfl (Rd.x (x_lt rfl rfl)) (fun h3 => ?_) (fun h3 => ?_)
        · refine sr_x rfl (wtd_none rfl) rfl (Rd.x (x_pick_f rfl rfl rfl)) ?_
          refine sr_x rfl (wtd_none rfl) rfl (Rd.x (x_move rfl)) ?_
          refine sr_skip rfl (wtd_no rfl rfl rfl rfl) rfl ?_
          refine sr_skip rfl (wtd_no rfl rfl rfl rfl) rfl ?_
          refine sr_skip rfl (wtd_no rfl rfl rfl rfl) rfl ?_
          refine sr_x rfl (wtd_none rfl) rfl (Rd.x (x_pick_t rfl rfl rfl)) ?_
          refine sr_nil ?_
          refine aw_keep (keep_cons (t := 2) rfl (keep_cons (t := 3) rfl (keep_cons (t := 4) rfl (keep_cons (t := 6) rfl (keep_cons (t := 7) rfl (keep_cons (t := 8) rfl (keep_cons (t := 31) rfl keep_nil))))))) ?_
          refine aw_true rfl ?_
          refine aw_seq_region ?_
          refine sr_x rfl (wtd_none rfl) rfl (Rd.x (x_assign rfl)) ?_
          refine sr_x rfl (wtd_none rfl) rfl (Rd.x (x_assign rfl)) ?_
          refine sr_x rfl (wtd_none rfl) rfl (Rd.x (x_assign rfl)) ?_
          refine sr_nil ?_
          refine aw_keep (keep_cons (t := 2) rfl (keep_cons (t := 3) rfl (keep_cons (t := 4) rfl (keep_cons (t := 6) rfl (keep_cons (t := 7) rfl (keep_cons (t := 8) rfl keep_nil)))))) ?_
          refine aw_ret ?_
          show ∃ v H2, ResV _ _ _ _ _ _ v ∧ Sub H2 _ ∧ _
          exact ⟨_, H, resV rfl (.cons rfl (.cons rfl (.cons rfl .nil))), (by repeat (first | exact Sub.refl _ | apply Sub.drop)), (by first | exact ⟨(if_neg (fun h => by obtain ⟨h91, h92, h93, h94⟩ := h; first | exact hrr h91 | (exfalso; omega) | (rcases h94 with ⟨h95, h96⟩ | ⟨h95, h96⟩ <;> first | omega | (rw [ht] at h96; cases h96) | (rw [hc] at h96; cases h96)))).symm, rfl⟩ | exact ⟨(if_pos ⟨hrr, by omega, by omega, by first | exact .inl ⟨by assumption, ht⟩ | exact .inr ⟨by assumption, hc⟩⟩).symm, rfl⟩)⟩
        · refine sr_x rfl (wtd_none rfl) rfl (Rd.x (x_pick_f rfl rfl rfl)) ?_
          refine sr_x rfl (wtd_none rfl) rfl (Rd.x (x_move rfl)) ?_
          refine sr_x rfl (wtd_yes rfl rfl rfl) rfl (Rd.x (x_fieldAddr fd91_7 rfl)) ?_
          refine sr_x rfl (wtd_yes rfl rfl rfl) rfl (Rd.x (x_load ag2 rfl (cells_ext (by repeat (first | exact List.mem_cons_self | apply List.mem_cons_of_mem | apply List.mem_append_right)) (by repeat (first | exact Ext.all _ | exact Ext.done | apply Ext.take | apply Ext.skip))))) ?_
          refine sr_cmp rfl (wtd_yes rfl rfl rfl) rfl (Rd.x (x_gt rfl rfl)) (fun h4 => ?_) (fun h4 => ?_)
          · refine sr_x rfl (wtd_none rfl) rfl (Rd.x (x_pick_f rfl rfl rfl)) ?_
            refine sr_nil ?_
            refine aw_keep (keep_cons (t := 2) rfl (keep_cons (t := 3) rfl (keep_cons (t := 4) rfl (keep_cons (t := 6) rfl (keep_cons (t := 7) rfl (keep_cons (t := 8) rfl (keep_cons (t := 31) rfl keep_nil))))))) ?_
            refine aw_true rfl ?_
            refine aw_seq_region ?_
            refine sr_x rfl (wtd_none rfl) rfl (Rd.x (x_assign rfl)) ?_
            refine sr_x rfl (wtd_none rfl) rfl (Rd.x (x_assign rfl)) ?_
            refine sr_x rfl (wtd_none rfl) rfl (Rd.x (x_assign rfl)) ?_
            refine sr_nil ?_
            refine aw_keep (keep_cons (t := 2) rfl (keep_cons (t := 3) rfl (keep_cons (t := 4) rfl (keep_cons (t := 6) rfl (keep_cons (t := 7) rfl (keep_cons (t := 8) rfl keep_nil)))))) ?_
            refine aw_ret ?_
            show ∃ v H2, ResV _ _ _ _ _ _ v ∧ Sub H2 _ ∧ _
            exact ⟨_, H, resV rfl (.cons rfl (.cons rfl (.cons rfl .nil))), (by repeat (first | exact Sub.refl _ | apply Sub.drop)), (by first | exact ⟨(if_neg (fun h => by obtain ⟨h91, h92, h93, h94⟩ := h; first | exact hrr h91 | (exfalso; omega) | (rcases h94 with ⟨h95, h96⟩ | ⟨h95, h96⟩ <;> first | omega | (rw [ht] at h96; cases h96) | (rw [hc] at h96; cases h96)))).symm, rfl⟩ | exact ⟨(if_pos ⟨hrr, by omega, by omega, by first | exact .inl ⟨by assumption, ht⟩ | exact .inr ⟨by assumption, hc⟩⟩).symm, rfl⟩)⟩
          · refine sr_x rfl (wtd_none rfl) rfl (Rd.x (x_pick_f rfl rfl rfl)) ?_
            refine sr_nil ?_
            refine aw_keep (keep_cons (t := 2) rfl (keep_cons (t := 3) rfl (keep_cons (t := 4) rfl (keep_cons (t := 6) rfl (keep_cons (t := 7) rfl (keep_cons (t := 8) rfl (keep_cons (t := 31) rfl keep_nil))))))) ?_
            refine aw_false rfl ?_
            refine aw_skip ?_
            show AW _ _ _ _ _ _ _
            refine aw_seq ?_
            refine aw_seq_region ?_
            refine sr_x rfl (wtd_none rfl) rfl (Rd.x (x_fieldAddr fd91_5 rfl)) ?_
            refine sr_x rfl (wtd_none rfl) rfl (Rd.x (x_load ag3 rfl (cells_ext (by repeat (first | exact List.mem_cons_self | apply List.mem_cons_of_mem | apply List.mem_append_right)) (by repeat (first | exact Ext.all _ | exact Ext.done | apply Ext.take | apply Ext.skip))))) ?_
            refine sr_cmp rfl (wtd_none rfl) rfl (Rd.x (x_eq rfl rfl)) (fun h5 => ?_) (fun h5 => ?_)
            · refine sr_x rfl (wtd_none rfl) rfl (Rd.x (x_move rfl)) ?_
              refine sr_x rfl (wtd_yes rfl rfl rfl) rfl (Rd.x (x_fieldAddr fd89_1 rfl)) ?_
              refine sr_x rfl (wtd_yes rfl rfl rfl) rfl (Rd.x (x_cast (u := .bool true) (x_load ag4 rfl (cells_ext (by repeat (first | exact List.mem_cons_self | apply List.mem_cons_of_mem | apply List.mem_append_right)) (by repeat (first | exact Ext.all _ | exact Ext.done | apply Ext.take | apply Ext.skip)))) (congrArg Value.bool ht))) ?_
              refine sr_x rfl (wtd_none rfl) rfl (Rd.x (x_pick_t rfl rfl rfl)) ?_
              refine sr_x rfl (wtd_none rfl) rfl (Rd.x (x_move rfl)) ?_
              refine sr_skip rfl (wtd_no rfl rfl rfl rfl) rfl ?_
              refine sr_skip rfl (wtd_no rfl rfl rfl rfl) rfl ?_
              refine sr_skip rfl (wtd_no rfl rfl rfl rfl) rfl ?_
              refine sr_skip rfl (wtd_no rfl rfl rfl rfl) rfl ?_
              refine sr_skip rfl (wtd_un rfl rfl rfl) rfl ?_
              refine sr_skip rfl (wtd_un rfl rfl rfl) rfl ?_
              refine sr_skip rfl (wtd_no rfl rfl rfl rfl) rfl ?_
              refine sr_x rfl (wtd_none rfl) rfl (Rd.x (x_pick_t rfl rfl rfl)) ?_
              refine sr_x rfl (wtd_none rfl) rfl (Rd.x (x_not rfl)) ?_
              refine sr_nil ?_
              refine aw_keep (keep_cons (t := 2) rfl (keep_cons (t := 3) rfl (keep_cons (t := 4) rfl (keep_cons (t := 6) rfl (keep_cons (t := 7) rfl (keep_cons (t := 8) rfl (keep_cons (t := 48) rfl keep_nil))))))) ?_
              refine aw_false rfl ?_
              refine aw_skip ?_
              show AW _ _ _ _ _ _ _
              refine aw_seq_dr ⟨_, 15, 61, [[], [0], [], [], [2, 3], [0, 1, 2, 3, 4], [0, 1, 2, 3, 4, 5], [], [], [8], [], [0, 1, 2, 3, 4, 5, 6, 7, 8, 9, 10], [0, 1, 2, 3, 4, 5, 6, 7, 8, 9, 10, 11], [0, 1, 2, 3, 4, 5, 6, 7, 8, 9, 10, 11, 12], [0, 1, 2, 3, 4, 5, 6, 7, 8, 9, 10, 11, 12, 13]], [.light, .mem, .mem, .light, .call, .alloc, .call, .mem, .light, .mem, .light, .call, .light, .light, .light]⟩ (by kernel_rfl) rfl rfl mix ?_
              refine dr_light rfl rfl (wtd_none rfl) (x_fieldAddr fd91_7 rfl) ?_
              refine dr_mem0 rfl rfl (wtd_none rfl) (x_load ag2 rfl (cells_ext (by repeat (first | exact List.mem_cons_self | apply List.mem_cons_of_mem | apply List.mem_append_right)) (by repeat (first | exact Ext.all _ | exact Ext.done | apply Ext.take | apply Ext.skip)))) ?_
              refine dr_mem0 rfl rfl (wtd_none rfl) (x_loadN ag89 sz89 rfl (cells_ext (by repeat (first | exact List.mem_cons_self | apply List.mem_cons_of_mem | apply List.mem_append_right)) (by repeat (first | exact Ext.all _ | exact Ext.done | apply Ext.take | apply Ext.skip))) rfl) ?_
              refine dr_light rfl rfl (wtd_none rfl) (x_move rfl) ?_
              refine dr_callq0 rfl rfl (wtd_none rfl) (opS_F rfl rfl rfl rfl cl63 ((wait63_s _ _ _))) (⟨_, rfl⟩) ?_
              rintro _ rfl
              refine dr_alloc rfl rfl (wtd_none rfl) (x_buildSlice Try.underlying178 sz2 zr2 rfl rfl rfl rfl (by repeat (first | exact Parts.nil | (apply Parts.cons; rfl))) (by repeat (first | exact Fill.done | (apply Fill.part; rfl; rfl; rfl; focus (repeat (first | exact Spl.done | exact Spl.all rfl | apply Spl.put | apply Spl.skip)))))) ?_
              intro r5_5 hr5_5 gr5_5
              refine dr_callq rfl (V := [(r5_5, _)]) rfl rfl rfl (wtd_none rfl) (opS_F rfl rfl rfl rfl cl59 ((satAdd_s _ 2 [_, _] _ rfl (by omega) (cells_ext (by repeat (first | exact List.mem_cons_self | apply List.mem_cons_of_mem | apply List.mem_append_right)) (by repeat (first | exact Ext.all _ | exact Ext.done | apply Ext.take | apply Ext.skip)))))) (⟨_, rfl⟩) ?_
              rintro _ rfl
              refine dr_mem rfl (V := []) rfl rfl (wtd_none rfl) (x_loadN ag89 sz89 rfl (cells_ext (by repeat (first | exact List.mem_cons_self | apply List.mem_cons_of_mem | apply List.mem_append_right)) (by repeat (first | exact Ext.all _ | exact Ext.done | apply Ext.take | apply Ext.skip))) rfl) ?_
              refine dr_light rfl rfl (wtd_none rfl) (x_fieldAddr fd91_3 rfl) ?_
              refine dr_mem rfl (V := []) rfl rfl (wtd_none rfl) (x_load ag2 rfl (cells_ext (by repeat (first | exact List.mem_cons_self | apply List.mem_cons_of_mem | apply List.mem_append_right)) (by repeat (first | exact Ext.all _ | exact Ext.done | apply Ext.take | apply Ext.skip)))) ?_
              refine dr_light rfl rfl (wtd_none rfl) (x_move rfl) ?_
              refine dr_callq rfl (V := [(r5_5, _)]) rfl rfl rfl (wtd_none rfl) (opS_F rfl rfl rfl rfl cl62 ((limit62_s _ _ _ _ hrr))) (⟨_, rfl⟩) ?_
              rintro _ rfl
              refine dr_light rfl rfl (wtd_none rfl) (x_assign rfl) ?_
              refine dr_light rfl rfl (wtd_none rfl) (x_assign rfl) ?_
              refine dr_light rfl rfl (wtd_none rfl) (x_assign rfl) ?_
              refine dr_drop ?_
              refine aw_keep (keep_cons (t := 6) rfl (keep_cons (t := 7) rfl (keep_cons (t := 8) rfl keep_nil))) ?_
              refine aw_ret ?_
              show ∃ v H2, ResV _ _ _ _ _ _ v ∧ Sub H2 _ ∧ _
              exact ⟨_, H, resV rfl (.cons rfl (.cons rfl (.cons rfl .nil))), (by repeat (first | exact Sub.refl _ | apply Sub.drop)), (by first | exact ⟨(if_neg (fun h => by obtain ⟨h91, h92, h93, h94⟩ := h; first | exact hrr h91 | (exfalso; omega) | (rcases h94 with ⟨h95, h96⟩ | ⟨h95, h96⟩ <;> first | omega | (rw [ht] at h96; cases h96) | (rw [hc] at h96; cases h96)))).symm, rfl⟩ | exact ⟨(if_pos ⟨hrr, by omega, by omega, by first | exact .inl ⟨by assumption, ht⟩ | exact .inr ⟨by assumption, hc⟩⟩).symm, rfl⟩)⟩
            · refine sr_x rfl (wtd_none rfl) rfl (Rd.x (x_move rfl)) ?_
              refine sr_skip rfl (wtd_no rfl rfl rfl rfl) rfl ?_
              refine sr_skip rfl (wtd_no rfl rfl rfl rfl) rfl ?_
              refine sr_x rfl (wtd_none rfl) rfl (Rd.x (x_pick_f rfl rfl rfl)) ?_
              refine sr_x rfl (wtd_none rfl) rfl (Rd.x (x_move rfl)) ?_
              refine sr_x rfl (wtd_yes rfl rfl rfl) rfl (Rd.x (x_fieldAddr fd91_5 rfl)) ?_
              refine sr_x rfl (wtd_yes rfl rfl rfl) rfl (Rd.x (x_load ag3 rfl (cells_ext (by repeat (first | exact List.mem_cons_self | apply List.mem_cons_of_mem | apply List.mem_append_right)) (by repeat (first | exact Ext.all _ | exact Ext.done | apply Ext.take | apply Ext.skip))))) ?_
              refine sr_cmp rfl (wtd_yes rfl rfl rfl) rfl (Rd.x (x_eq rfl rfl)) (fun h6 => ?_) (fun h6 => ?_)
              · refine sr_x rfl (wtd_yes rfl rfl rfl) rfl (Rd.x (x_move rfl)) ?_
                refine sr_x rfl (wtd_yes rfl rfl rfl) rfl (Rd.x (x_fieldAddr fd89_2 rfl)) ?_
                refine sr_x rfl (wtd_yes rfl rfl rfl) rfl (Rd.x (x_cast (u := .bool false) (x_load ag4 rfl (cells_ext (by repeat (first | exact List.mem_cons_self | apply List.mem_cons_of_mem | apply List.mem_append_right)) (by repeat (first | exact Ext.all _ | exact Ext.done | apply Ext.take | apply Ext.skip)))) (congrArg Value.bool hc))) ?_
                refine sr_x rfl (wtd_yes rfl rfl rfl) rfl (Rd.x (x_pick_t rfl rfl rfl)) ?_
                refine sr_x rfl (wtd_none rfl) rfl (Rd.x (x_pick_f rfl rfl rfl)) ?_
                refine sr_x rfl (wtd_none rfl) rfl (Rd.x (x_not rfl)) ?_
                refine sr_nil ?_
                refine aw_keep (keep_cons (t := 2) rfl (keep_cons (t := 3) rfl (keep_cons (t := 4) rfl (keep_cons (t := 6) rfl (keep_cons (t := 7) rfl (keep_cons (t := 8) rfl (keep_cons (t := 48) rfl keep_nil))))))) ?_
                refine aw_true rfl ?_
                refine aw_seq_region ?_
                refine sr_x rfl (wtd_none rfl) rfl (Rd.x (x_assign rfl)) ?_
                refine sr_x rfl (wtd_none rfl) rfl (Rd.x (x_assign rfl)) ?_
                refine sr_x rfl (wtd_none rfl) rfl (Rd.x (x_assign rfl)) ?_
                refine sr_nil ?_
                refine aw_keep (keep_cons (t := 2) rfl (keep_cons (t := 3) rfl (keep_cons (t := 4) rfl (keep_cons (t := 6) rfl (keep_cons (t := 7) rfl (keep_cons (t := 8) rfl keep_nil)))))) ?_
                refine aw_ret ?_
                show ∃ v H2, ResV _ _ _ _ _ _ v ∧ Sub H2 _ ∧ _
                exact ⟨_, H, resV rfl (.cons rfl (.cons rfl (.cons rfl .nil))), (by repeat (first | exact Sub.refl _ | apply Sub.drop)), (by first | exact ⟨(if_neg (fun h => by obtain ⟨h91, h92, h93, h94⟩ := h; first | exact hrr h91 | (exfalso; omega) | (rcases h94 with ⟨h95, h96⟩ | ⟨h95, h96⟩ <;> first | omega | (rw [ht] at h96; cases h96) | (rw [hc] at h96; cases h96)))).symm, rfl⟩ | exact ⟨(if_pos ⟨hrr, by omega, by omega, by first | exact .inl ⟨by assumption, ht⟩ | exact .inr ⟨by assumption, hc⟩⟩).symm, rfl⟩)⟩
              · refine sr_x rfl (wtd_yes rfl rfl rfl) rfl (Rd.x (x_move rfl)) ?_
                refine sr_skip rfl (wtd_no rfl rfl rfl rfl) rfl ?_
                refine sr_skip rfl (wtd_no rfl rfl rfl rfl) rfl ?_
                refine sr_x rfl (wtd_yes rfl rfl rfl) rfl (Rd.x (x_pick_f rfl rfl rfl)) ?_
                refine sr_x rfl (wtd_none rfl) rfl (Rd.x (x_pick_f rfl rfl rfl)) ?_
                refine sr_x rfl (wtd_none rfl) rfl (Rd.x (x_not rfl)) ?_
                refine sr_nil ?_
                refine aw_keep (keep_cons (t := 2) rfl (keep_cons (t := 3) rfl (keep_cons (t := 4) rfl (keep_cons (t := 6) rfl (keep_cons (t := 7) rfl (keep_cons (t := 8) rfl (keep_cons (t := 48) rfl keep_nil))))))) ?_
                refine aw_true rfl ?_
                refine aw_seq_region ?_
                refine sr_x rfl (wtd_none rfl) rfl (Rd.x (x_assign rfl)) ?_
                refine sr_x rfl (wtd_none rfl) rfl (Rd.x (x_assign rfl)) ?_
                refine sr_x rfl (wtd_none rfl) rfl (Rd.x (x_assign rfl)) ?_
                refine sr_nil ?_
                refine aw_keep (keep_cons (t := 2) rfl (keep_cons (t := 3) rfl (keep_cons (t := 4) rfl (keep_cons (t := 6) rfl (keep_cons (t := 7) rfl (keep_cons (t := 8) rfl keep_nil)))))) ?_
                refine aw_ret ?_
                show ∃ v H2, ResV _ _ _ _ _ _ v ∧ Sub H2 _ ∧ _
                exact ⟨_, H, resV rfl (.cons rfl (.cons rfl (.cons rfl .nil))), (by repeat (first | exact Sub.refl _ | apply Sub.drop)), (by first | exact ⟨(if_neg (fun h => by obtain ⟨h91, h92, h93, h94⟩ := h; first | exact hrr h91 | (exfalso; omega) | (rcases h94 with ⟨h95, h96⟩ | ⟨h95, h96⟩ <;> first | omega | (rw [ht] at h96; cases h96) | (rw [hc] at h96; cases h96)))).symm, rfl⟩ | exact ⟨(if_pos ⟨hrr, by omega, by omega, by first | exact .inl ⟨by assumption, ht⟩ | exact .inr ⟨by assumption, hc⟩⟩).symm, rfl⟩)⟩
  · rw [decide_eq_false hrr]
    refine sr_x rfl (wtd_none rfl) rfl (Rd.x (x_not rfl)) ?_
    refine sr_x rfl (wtd_none rfl) rfl (Rd.x (x_move rfl)) ?_
    refine sr_skip rfl (wtd_no rfl rfl rfl rfl) rfl ?_
    refine sr_skip rfl (wtd_no rfl rfl rfl rfl) rfl ?_
    refine sr_x rfl (wtd_none rfl) rfl (Rd.x (x_pick_t rfl rfl rfl)) ?_
    refine sr_x rfl (wtd_none rfl) rfl (Rd.x (x_move rfl)) ?_
    refine sr_skip rfl (wtd_no rfl rfl rfl rfl) rfl ?_
    refine sr_skip rfl (wtd_no rfl rfl rfl rfl) rfl ?_
    refine sr_skip rfl (wtd_no rfl rfl rfl rfl) rfl ?_
    refine sr_skip rfl (wtd_no rfl rfl rfl rfl) rfl ?_
    refine sr_x rfl (wtd_none rfl) rfl (Rd.x (x_pick_t rfl rfl rfl)) ?_
    refine sr_x rfl (wtd_none rfl) rfl (Rd.x (x_move rfl)) ?_
    refine sr_skip rfl (wtd_no rfl rfl rfl rfl) rfl ?_
    refine sr_skip rfl (wtd_no rfl rfl rfl rfl) rfl ?_
    refine sr_skip rfl (wtd_no rfl rfl rfl rfl) rfl ?_
    refine sr_x rfl (wtd_none rfl) rfl (Rd.x (x_pick_t rfl rfl rfl)) ?_
    refine sr_x rfl (wtd_none rfl) rfl (Rd.x (x_move rfl)) ?_
    refine sr_skip rfl (wtd_no rfl rfl rfl rfl) rfl ?_
    refine sr_skip rfl (wtd_no rfl rfl rfl rfl) rfl ?_
    refine sr_skip rfl (wtd_no rfl rfl rfl rfl) rfl ?_
    refine sr_x rfl (wtd_none rfl) rfl (Rd.x (x_pick_t rfl rfl rfl)) ?_
    refine sr_nil ?_
    refine aw_keep (keep_cons (t := 2) rfl (keep_cons (t := 3) rfl (keep_cons (t := 4) rfl (keep_cons (t := 6) rfl (keep_cons (t := 7) rfl (keep_cons (t := 8) rfl (keep_cons (t := 31) rfl keep_nil))))))) ?_
    refine aw_true rfl ?_
    refine aw_seq_region ?_
    refine sr_x rfl (wtd_none rfl) rfl (Rd.x (x_assign rfl)) ?_
    refine sr_x rfl (wtd_none rfl) rfl (Rd.x (x_assign rfl)) ?_
    refine sr_x rfl (wtd_none rfl) rfl (Rd.x (x_assign rfl)) ?_
    refine sr_nil ?_
    refine aw_keep (keep_cons (t := 2) rfl (keep_cons (t := 3) rfl (keep_cons (t := 4) rfl (keep_cons (t := 6) rfl (keep_cons (t := 7) rfl (keep_cons (t := 8) rfl keep_nil)))))) ?_
    refine aw_ret ?_
    show ∃ v H2, ResV _ _ _ _ _ _ v ∧ Sub H2 _ ∧ _
    exact ⟨_, H, resV rfl (.cons rfl (.cons rfl (.cons rfl .nil))), (by repeat (first | exact Sub.refl _ | apply Sub.drop)), (by first | exact ⟨(if_neg (fun h => by obtain ⟨h91, h92, h93, h94⟩ := h; first | exact hrr h91 | (exfalso; omega) | (rcases h94 with ⟨h95, h96⟩ | ⟨h95, h96⟩ <;> first | omega | (rw [ht] at h96; cases h96) | (rw [hc] at h96; cases h96)))).symm, rfl⟩ | exact ⟨(if_pos ⟨hrr, by omega, by omega, by first | exact .inl ⟨by assumption, ht⟩ | exact .inr ⟨by assumption, hc⟩⟩).symm, rfl⟩)⟩
set_option maxRecDepth 100000 in
set_option maxHeartbeats 2000000 in
theorem again56_01 (r : Rule) (j : Job) (tries : Int) (H : SHeap) (ht : r.timed = false) (hc : r.cancel = true) : AC Try.prog W0 56 [r.v, j.v, .int .i64 tries] H (fun v H' => v = againV r j tries ∧ H' = H) := by
  refine ac_of Try.func56 rfl rfl rfl ?_
  refine aw_seq_region ?_
  refine sr_new rfl (wtd_none rfl) rfl (x_box rfl rfl) ?_
  intro r0_0 hr0_0 gr0_0
  refine sr_new rfl (wtd_none rfl) rfl (x_box rfl rfl) ?_
  intro r0_1 hr0_1 gr0_1
  refine sr_x rfl (wtd_none rfl) rfl (Rd.x (x_assign rfl)) ?_
  refine sr_x rfl (wtd_none rfl) rfl (Rd.x (x_assign rfl)) ?_
  refine sr_x rfl (wtd_none rfl) rfl (Rd.x (x_assign rfl)) ?_
  refine sr_nil ?_
  refine aw_keep (keep_cons (t := 2) rfl (keep_cons (t := 3) rfl (keep_cons (t := 4) rfl (keep_cons (t := 6) rfl (keep_cons (t := 7) rfl (keep_cons (t := 8) rfl keep_nil)))))) ?_
  refine aw_seq ?_
  refine aw_seq_region ?_
  refine sr_x rfl (wtd_none rfl) rfl (Rd.x (x_loadN ag89 sz89 rfl (cells_ext (by repeat (first | exact List.mem_cons_self | apply List.mem_cons_of_mem | apply List.mem_append_right)) (by repeat (first | exact Ext.all _ | exact Ext.done | apply Ext.take | apply Ext.skip))) rfl)) ?_
  refine sr_d rfl (wtd_none rfl) rfl (opS_call rfl rfl rfl rfl cl54 (rright54_s _ _)) ?_
  rintro _ H ⟨rfl, rfl⟩
  by_cases hrr : RRight r
  · rw [decide_eq_true hrr]
    refine sr_x rfl (wtd_none rfl) rfl (Rd.x (x_not rfl)) ?_
    refine sr_x rfl (wtd_none rfl) rfl (Rd.x (x_move rfl)) ?_
    refine sr_x rfl (wtd_yes rfl rfl rfl) rfl (Rd.x (x_move rfl)) ?_
    refine sr_cmp rfl (wtd_yes rfl rfl rfl) rfl (Rd.x (x_lt rfl rfl)) (fun h1 => ?_) (fun h1 => ?_)
    · refine sr_x rfl (wtd_none rfl) rfl (Rd.x (x_pick_f rfl rfl rfl)) ?_
      refine sr_x rfl (wtd_none rfl) rfl (Rd.x (x_move rfl)) ?_
      refine sr_skip rfl (wtd_no rfl rfl rfl rfl) rfl ?_
      refine sr_skip rfl (wtd_no rfl rfl rfl rfl) rfl ?_
      refine sr_skip rfl (wtd_no rfl rfl rfl rfl) rfl ?_
      refine sr_skip rfl (wtd_no rfl rfl rfl rfl) rfl ?_
      refine sr_x rfl (wtd_none rfl) rfl (Rd.x (x_pick_t rfl rfl rfl)) ?_
      refine sr_x rfl (wtd_none rfl) rfl (Rd.x (x_move rfl)) ?_
      refine sr_skip rfl (wtd_no rfl rfl rfl rfl) rfl ?_
      refine sr_skip rfl (wtd_no rfl rfl rfl rfl) rfl ?_
      refine sr_skip rfl (wtd_no rfl rfl rfl rfl) rfl ?_
      refine sr_x rfl (wtd_none rfl) rfl (Rd.x (x_pick_t rfl rfl rfl)) ?_
      refine sr_x rfl (wtd_none rfl) rfl (Rd.x (x_move rfl)) ?_
      refine sr_skip rfl (wtd_no rfl rfl rfl rfl) rfl ?_
      refine sr_skip rfl (wtd_no rfl rfl rfl rfl) rfl ?_
      refine sr_skip rfl (wtd_no rfl rfl rfl rfl) rfl ?_
      refine sr_x rfl (wtd_none rfl) rfl (Rd.x (x_pick_t rfl rfl rfl)) ?_
      refine sr_nil ?_
      refine aw_keep (keep_cons (t := 2) rfl (keep_cons (t := 3) rfl (keep_cons (t := 4) rfl (keep_cons (t := 6) rfl (keep_cons (t := 7) rfl (keep_cons (t := 8) rfl (keep_cons (t := 31) rfl keep_nil))))))) ?_
      refine aw_true rfl ?_
      refine aw_seq_region ?_
      refine sr_x rfl (wtd_none rfl) rfl (Rd.x (x_assign rfl)) ?_
      refine sr_x rfl (wtd_none rfl) rfl (Rd.x (x_assign rfl)) ?_
      refine sr_x rfl (wtd_none rfl) rfl (Rd.x (x_assign rfl)) ?_
      refine sr_nil ?_
      refine aw_keep (keep_cons (t := 2) rfl (keep_cons (t := 3) rfl (keep_cons (t := 4) rfl (keep_cons (t := 6) rfl (keep_cons (t := 7) rfl (keep_cons (t := 8) rfl keep_nil)))))) ?_
      refine aw_ret ?_
      show ∃ v H2, ResV _ _ _ _ _ _ v ∧ Sub H2 _ ∧ _
      exact ⟨_, H, resV rfl (.cons rfl (.cons rfl (.cons rfl .nil))), (by repeat (first | exact Sub.refl _ | apply Sub.drop)), (by first | exact ⟨(if_neg (fun h => by obtain ⟨h91, h92, h93, h94⟩ := h; first | exact hrr h91 | (exfalso; omega) | (rcases h94 with ⟨h95, h96⟩ | ⟨h95, h96⟩ <;> first | omega | (rw [ht] at h96; cases h96) | (rw [hc] at h96; cases h96)))).symm, rfl⟩ | exact ⟨(if_pos ⟨hrr, by omega, by omega, by first | exact .inl ⟨by assumption, ht⟩ | exact .inr ⟨by assumption, hc⟩⟩).symm, rfl⟩)⟩
    · refine sr_x rfl (wtd_none rfl) rfl (Rd.x (x_pick_f rfl rfl rfl)) ?_
      refine sr_x rfl (wtd_none rfl) rfl (Rd.x (x_move rfl)) ?_
      refine sr_x rfl (wtd_yes rfl rfl rfl) rfl (Rd.x (x_move rfl)) ?_
      refine sr_x rfl (wtd_yes rfl rfl rfl) rfl (Rd.x (x_fieldAddr fd89_0 rfl)) ?_
      refine sr_x rfl (wtd_yes rfl rfl rfl) rfl (Rd.x (x_load ag3 rfl (cells_ext (by repeat (first | exact List.mem_cons_self | apply List.mem_cons_of_mem | apply List.mem_append_right)) (by repeat (first | exact Ext.all _ | exact Ext.done | apply Ext.take | apply Ext.skip))))) ?_
      refine sr_cmp rfl (wtd_yes rfl rfl rfl) rfl (Rd.x (x_ge rfl rfl)) (fun h2 => ?_) (fun h2 => ?_)
      · refine sr_x rfl (wtd_none rfl) rfl (Rd.x (x_pick_f rfl rfl rfl)) ?_
        refine sr_x rfl (wtd_none rfl) rfl (Rd.x (x_move rfl)) ?_
        refine sr_skip rfl (wtd_no rfl rfl rfl rfl) rfl ?_
        refine sr_skip rfl (wtd_no rfl rfl rfl rfl) rfl ?_
        refine sr_skip rfl (wtd_no rfl rfl rfl rfl) rfl ?_
        refine sr_x rfl (wtd_none rfl) rfl (Rd.x (x_pick_t rfl rfl rfl)) ?_
        refine sr_x rfl (wtd_none rfl) rfl (Rd.x (x_move rfl)) ?_
        refine sr_skip rfl (wtd_no rfl rfl rfl rfl) rfl ?_
        refine sr_skip rfl (wtd_no rfl rfl rfl rfl) rfl ?_
        refine sr_skip rfl (wtd_no rfl rfl rfl rfl) rfl ?_
        refine sr_x rfl (wtd_none rfl) rfl (Rd.x (x_pick_t rfl rfl rfl)) ?_
        refine sr_nil ?_
        refine aw_keep (keep_cons (t := 2) rfl (keep_cons (t := 3) rfl (keep_cons (t := 4) rfl (keep_cons (t := 6) rfl (keep_cons (t := 7) rfl (keep_cons (t := 8) rfl (keep_cons (t := 31) rfl keep_nil))))))) ?_
        refine aw_true rfl ?_
        refine aw_seq_region ?_
        refine sr_x rfl (wtd_none rfl) rfl (Rd.x (x_assign rfl)) ?_
        refine sr_x rfl (wtd_none rfl) rfl (Rd.x (x_assign rfl)) ?_
        refine sr_x rfl (wtd_none rfl) rfl (Rd.x (x_assign rfl)) ?_
        refine sr_nil ?_
        refine aw_keep (keep_cons (t := 2) rfl (keep_cons (t := 3) rfl (keep_cons (t := 4) rfl (keep_cons (t := 6) rfl (keep_cons (t := 7) rfl (keep_cons (t := 8) rfl keep_nil)))))) ?_
        refine aw_ret ?_
        show ∃ v H2, ResV _ _ _ _ _ _ v ∧ Sub H2 _ ∧ _
        exact ⟨_, H, resV rfl (.cons rfl (.cons rfl (.cons rfl .nil))), (by repeat (first | exact Sub.refl _ | apply Sub.drop)), (by first | exact ⟨(if_neg (fun h => by obtain ⟨h91, h92, h93, h94⟩ := h; first | exact hrr h91 | (exfalso; omega) | (rcases h94 with ⟨h95, h96⟩ | ⟨h95, h96⟩ <;> first | omega | (rw [ht] at h96; cases h96) | (rw [hc] at h96; cases h96)))).symm, rfl⟩ | exact ⟨(if_pos ⟨hrr, by omega, by omega, by first | exact .inl ⟨by assumption, ht⟩ | exact .inr ⟨by assumption, hc⟩⟩).symm, rfl⟩)⟩
      · refine sr_x rfl (wtd_none rfl) rfl (Rd.x (x_pick_f rfl rfl rfl)) ?_
        refine sr_x rfl (wtd_none rfl) rfl (Rd.x (x_move rfl)) ?_
        refine sr_x rfl (wtd_yes rfl rfl rfl) rfl (Rd.x (x_fieldAddr fd91_7 rfl)) ?_
        refine sr_x rfl (wtd_yes rfl rfl rfl) rfl (Rd.x (x_load ag2 rfl (cells_ext (by repeat (first | exact List.mem_cons_self | apply List.mem_cons_of_mem | apply List.mem_append_right)) (by repeat (first | exact Ext.all _ | exact Ext.done | apply Ext.take | apply Ext.skip))))) ?_
        refine sr_cmp rfl (wtd_yes rfl rfl rfl) rfl (Rd.x (x_lt rfl rfl)) (fun h3 => ?_) (fun h3 => ?_)
        · refine sr_x rfl (wtd_none rfl) rfl (Rd.x (x_pick_f rfl rfl rfl)) ?_
          refine sr_x rfl (wtd_none rfl) rfl (Rd.x (x_move rfl)) ?_
          refine sr_skip rfl (wtd_no rfl rfl rfl rfl) rfl ?_
          refine sr_skip rfl (wtd_no rfl rfl rfl rfl) rfl ?_
          refine sr_skip rfl (wtd_no rfl rfl rfl rfl) rfl ?_
          refine sr_x rfl (wtd_none rfl) rfl (Rd.x (x_pick_t rfl rfl rfl)) ?_
          refine sr_nil ?_
          refine aw_keep (keep_cons (t := 2) rfl (keep_cons (t := 3) rfl (keep_cons (t := 4) rfl (keep_cons (t := 6) rfl (keep_cons (t := 7) rfl (keep_cons (t := 8) rfl (keep_cons (t := 31) rfl keep_nil))))))) ?_
          refine aw_true rfl ?_
          refine aw_seq_region ?_
          refine sr_x rfl (wtd_none rfl) rfl (Rd.x (x_assign rfl)) ?_
          refine sr_x rfl (wtd_none rfl) rfl (Rd.x (x_assign rfl)) ?_
          refine sr_x rfl (wtd_none rfl) rfl (Rd.x (x_assign rfl)) ?_
          refine sr_nil ?_
          refine aw_keep (keep_cons (t := 2) rfl (keep_cons (t := 3) rfl (keep_cons (t := 4) rfl (keep_cons (t := 6) rfl (keep_cons (t := 7) rfl (keep_cons (t := 8) rfl keep_nil)))))) ?_
          refine aw_ret ?_
          show ∃ v H2, ResV _ _ _ _ _ _ v ∧ Sub H2 _ ∧ _
          exact ⟨_, H, resV rfl (.cons rfl (.cons rfl (.cons rfl .nil))), (by repeat (first | exact Sub.refl _ | apply Sub.drop)), (by first | exact ⟨(if_neg (fun h => by obtain ⟨h91, h92, h93, h94⟩ := h; first | exact hrr h91 | (exfalso; omega) | (rcases h94 with ⟨h95, h96⟩ | ⟨h95, h96⟩ <;> first | omega | (rw [ht] at h96; cases h96) | (rw [hc] at h96; cases h96)))).symm, rfl⟩ | exact ⟨(if_pos ⟨hrr, by omega, by omega, by first | exact .inl ⟨by assumption, ht⟩ | exact .inr ⟨by assumption, hc⟩⟩).symm, rfl⟩)⟩
        · refine sr_x rfl (wtd_none rfl) rfl (Rd.x (x_pick_f rfl rfl rfl)) ?_
          refine sr_x rfl (wtd_none rfl) rfl (Rd.x (x_move rfl)) ?_
          refine sr_x rfl (wtd_yes rfl rfl rfl) rfl (Rd.x (x_fieldAddr fd91_7 rfl)) ?_
          refine sr_x rfl (wtd_yes rfl rfl rfl) rfl (Rd.x (x_load ag2 rfl (cells_ext (by repeat (first | exact List.mem_cons_self | apply List.mem_cons_of_mem | apply List.mem_append_right)) (by repeat (first | exact Ext.all _ | exact Ext.done | apply Ext.take | apply Ext.skip))))) ?_
          refine sr_cmp rfl (wtd_yes rfl rfl rfl) rfl (Rd.x (x_gt rfl rfl)) (fun h4 => ?_) (fun h4 => ?_)
          · refine sr_x rfl (wtd_none rfl) rfl (Rd.x (x_pick_f rfl rfl rfl)) ?_
            refine sr_nil ?_
            refine aw_keep (keep_cons (t := 2) rfl (keep_cons (t := 3) rfl (keep_cons (t := 4) rfl (keep_cons (t := 6) rfl (keep_cons (t := 7) rfl (keep_cons (t := 8) rfl (keep_cons (t := 31) rfl keep_nil))))))) ?_
            refine aw_true rfl ?_
            refine aw_seq_region ?_
            refine sr_x rfl (wtd_none rfl) rfl (Rd.x (x_assign rfl)) ?_
            refine sr_x rfl (wtd_none rfl) rfl (Rd.x (x_assign rfl)) ?_
            refine sr_x rfl (wtd_none rfl) rfl (Rd.x (x_assign rfl)) ?_
            refine sr_nil ?_
            refine aw_keep (keep_cons (t := 2) rfl (keep_cons (t := 3) rfl (keep_cons (t := 4) rfl (keep_cons (t := 6) rfl (keep_cons (t := 7) rfl (keep_cons (t := 8) rfl keep_nil)))))) ?_
            refine aw_ret ?_
            show ∃ v H2, ResV _ _ _ _ _ _ v ∧ Sub H2 _ ∧ _
            exact ⟨_, H, resV rfl (.cons rfl (.cons rfl (.cons rfl .nil))), (by repeat (first | exact Sub.refl _ | apply Sub.drop)), (by first | exact ⟨(if_neg (fun h => by obtain ⟨h91, h92, h93, h94⟩ := h; first | exact hrr h91 | (exfalso; omega) | (rcases h94 with ⟨h95, h96⟩ | ⟨h95, h96⟩ <;> first | omega | (rw [ht] at h96; cases h96) | (rw [hc] at h96; cases h96)))).symm, rfl⟩ | exact ⟨(if_pos ⟨hrr, by omega, by omega, by first | exact .inl ⟨by assumption, ht⟩ | exact .inr ⟨by assumption, hc⟩⟩).symm, rfl⟩)⟩
          · refine sr_x rfl (wtd_none rfl) rfl (Rd.x (x_pick_f rfl rfl rfl)) ?_
            refine sr_nil ?_
            refine aw_keep (keep_cons (t := 2) rfl (keep_cons (t := 3) rfl (keep_cons (t := 4) rfl (keep_cons (t := 6) rfl (keep_cons (t := 7) rfl (keep_cons (t := 8) rfl (keep_cons (t := 31) rfl keep_nil))))))) ?_
            refine aw_false rfl ?_
            refine aw_skip ?_
            show AW _ _ _ _ _ _ _
            refine aw_seq ?_
            refine aw_seq_region ?_
            refine sr_x rfl (wtd_none rfl) rfl (Rd.x (x_fieldAddr fd91_5 rfl)) ?_
            refine sr_x rfl (wtd_none rfl) rfl (Rd.x (x_load ag3 rfl (cells_ext (by repeat (first | exact List.mem_cons_self | apply List.mem_cons_of_mem | apply List.mem_append_right)) (by repeat (first | exact Ext.all _ | exact Ext.done | apply Ext.take | apply Ext.skip))))) ?_
            refine sr_cmp rfl (wtd_none rfl) rfl (Rd.x (x_eq rfl rfl)) (fun h5 => ?_) (fun h5 => ?_)
            · refine sr_x rfl (wtd_none rfl) rfl (Rd.x (x_move rfl)) ?_
              refine sr_x rfl (wtd_yes rfl rfl rfl) rfl (Rd.x (x_fieldAddr fd89_1 rfl)) ?_
              refine sr_x rfl (wtd_yes rfl rfl rfl) rfl (Rd.x (x_cast (u := .bool false) (x_load ag4 rfl (cells_ext (by repeat (first | exact List.mem_cons_self | apply List.mem_cons_of_mem | apply List.mem_append_right)) (by repeat (first | exact Ext.all _ | exact Ext.done | apply Ext.take | apply Ext.skip)))) (congrArg Value.bool ht))) ?_
              refine sr_x rfl (wtd_none rfl) rfl (Rd.x (x_pick_t rfl rfl rfl)) ?_
              refine sr_x rfl (wtd_none rfl) rfl (Rd.x (x_move rfl)) ?_
              refine sr_x rfl (wtd_yes rfl rfl rfl) rfl (Rd.x (x_fieldAddr fd91_5 rfl)) ?_
              refine sr_x rfl (wtd_yes rfl rfl rfl) rfl (Rd.x (x_load ag3 rfl (cells_ext (by repeat (first | exact List.mem_cons_self | apply List.mem_cons_of_mem | apply List.mem_append_right)) (by repeat (first | exact Ext.all _ | exact Ext.done | apply Ext.take | apply Ext.skip))))) ?_
              refine sr_cmp rfl (wtd_yes rfl rfl rfl) rfl (Rd.x (x_eq rfl rfl)) (fun h6 => ?_) (fun h6 => ?_)
              · refine sr_x rfl (wtd_yes rfl rfl rfl) rfl (Rd.x (x_move rfl)) ?_
                refine sr_x rfl (wtd_yes rfl rfl rfl) rfl (Rd.x (x_fieldAddr fd89_2 rfl)) ?_
                refine sr_x rfl (wtd_yes rfl rfl rfl) rfl (Rd.x (x_cast (u := .bool true) (x_load ag4 rfl (cells_ext (by repeat (first | exact List.mem_cons_self | apply List.mem_cons_of_mem | apply List.mem_append_right)) (by repeat (first | exact Ext.all _ | exact Ext.done | apply Ext.take | apply Ext.skip)))) (congrArg Value.bool hc))) ?_
                refine sr_x rfl (wtd_yes rfl rfl rfl) rfl (Rd.x (x_pick_t rfl rfl rfl)) ?_
                refine sr_x rfl (wtd_none rfl) rfl (Rd.x (x_pick_f rfl rfl rfl)) ?_
                refine sr_x rfl (wtd_none rfl) rfl (Rd.x (x_not rfl)) ?_
                refine sr_nil ?_
                refine aw_keep (keep_cons (t := 2) rfl (keep_cons (t := 3) rfl (keep_cons (t := 4) rfl (keep_cons (t := 6) rfl (keep_cons (t := 7) rfl (keep_cons (t := 8) rfl (keep_cons (t := 48) rfl keep_nil))))))) ?_
                refine aw_false rfl ?_
                refine aw_skip ?_
                show AW _ _ _ _ _ _ _
                refine aw_seq_dr ⟨_, 15, 61, [[], [0], [], [], [2, 3], [0, 1, 2, 3, 4], [0, 1, 2, 3, 4, 5], [], [], [8], [], [0, 1, 2, 3, 4, 5, 6, 7, 8, 9, 10], [0, 1, 2, 3, 4, 5, 6, 7, 8, 9, 10, 11], [0, 1, 2, 3, 4, 5, 6, 7, 8, 9, 10, 11, 12], [0, 1, 2, 3, 4, 5, 6, 7, 8, 9, 10, 11, 12, 13]], [.light, .mem, .mem, .light, .call, .alloc, .call, .mem, .light, .mem, .light, .call, .light, .light, .light]⟩ (by kernel_rfl) rfl rfl mix ?_
                refine dr_light rfl rfl (wtd_none rfl) (x_fieldAddr fd91_7 rfl) ?_
                refine dr_mem0 rfl rfl (wtd_none rfl) (x_load ag2 rfl (cells_ext (by repeat (first | exact List.mem_cons_self | apply List.mem_cons_of_mem | apply List.mem_append_right)) (by repeat (first | exact Ext.all _ | exact Ext.done | apply Ext.take | apply Ext.skip)))) ?_
                refine dr_mem0 rfl rfl (wtd_none rfl) (x_loadN ag89 sz89 rfl (cells_ext (by repeat (first | exact List.mem_cons_self | apply List.mem_cons_of_mem | apply List.mem_append_right)) (by repeat (first | exact Ext.all _ | exact Ext.done | apply Ext.take | apply Ext.skip))) rfl) ?_
                refine dr_light rfl rfl (wtd_none rfl) (x_move rfl) ?_
                refine dr_callq0 rfl rfl (wtd_none rfl) (opS_F rfl rfl rfl rfl cl63 ((wait63_s _ _ _))) (⟨_, rfl⟩) ?_
                rintro _ rfl
                refine dr_alloc rfl rfl (wtd_none rfl) (x_buildSlice Try.underlying178 sz2 zr2 rfl rfl rfl rfl (by repeat (first | exact Parts.nil | (apply Parts.cons; rfl))) (by repeat (first | exact Fill.done | (apply Fill.part; rfl; rfl; rfl; focus (repeat (first | exact Spl.done | exact Spl.all rfl | apply Spl.put | apply Spl.skip)))))) ?_
                intro r5_5 hr5_5 gr5_5
                refine dr_callq rfl (V := [(r5_5, _)]) rfl rfl rfl (wtd_none rfl) (opS_F rfl rfl rfl rfl cl59 ((satAdd_s _ 2 [_, _] _ rfl (by omega) (cells_ext (by repeat (first | exact List.mem_cons_self | apply List.mem_cons_of_mem | apply List.mem_append_right)) (by repeat (first | exact Ext.all _ | exact Ext.done | apply Ext.take | apply Ext.skip)))))) (⟨_, rfl⟩) ?_
                rintro _ rfl
                refine dr_mem rfl (V := []) rfl rfl (wtd_none rfl) (x_loadN ag89 sz89 rfl (cells_ext (by repeat (first | exact List.mem_cons_self | apply List.mem_cons_of_mem | apply List.mem_append_right)) (by repeat (first | exact Ext.all _ | exact Ext.done | apply Ext.take | apply Ext.skip))) rfl) ?_
                refine dr_light rfl rfl (wtd_none rfl) (x_fieldAddr fd91_3 rfl) ?_
                refine dr_mem rfl (V := []) rfl rfl (wtd_none rfl) (x_load ag2 rfl (cells_ext (by repeat (first | exact List.mem_cons_self | apply List.mem_cons_of_mem | apply List.mem_append_right)) (by repeat (first | exact Ext.all _ | exact Ext.done | apply Ext.take | apply Ext.skip)))) ?_
                refine dr_light rfl rfl (wtd_none rfl) (x_move rfl) ?_
                refine dr_callq rfl (V := [(r5_5, _)]) rfl rfl rfl (wtd_none rfl) (opS_F rfl rfl rfl rfl cl62 ((limit62_s _ _ _ _ hrr))) (⟨_, rfl⟩) ?_
                rintro _ rfl
                refine dr_light rfl rfl (wtd_none rfl) (x_assign rfl) ?_
                refine dr_light rfl rfl (wtd_none rfl) (x_assign rfl) ?_
                refine dr_light rfl rfl (wtd_none rfl) (x_assign rfl) ?_
                refine dr_drop ?_
                refine aw_keep (keep_cons (t := 6) rfl (keep_cons (t := 7) rfl (keep_cons (t := 8) rfl keep_nil))) ?_
                refine aw_ret ?_
                show ∃ v H2, ResV _ _ _ _ _ _ v ∧ Sub H2 _ ∧ _
                exact ⟨_, H, resV rfl (.cons rfl (.cons rfl (.cons rfl .nil))), (by repeat (first | exact Sub.refl _ | apply Sub.drop)), (by first | exact ⟨(if_neg (fun h => by obtain ⟨h91, h92, h93, h94⟩ := h; first | exact hrr h91 | (exfalso; omega) | (rcases h94 with ⟨h95, h96⟩ | ⟨h95, h96⟩ <;> first | omega | (rw [ht] at h96; cases h96) | (rw [hc] at h96; cases h96)))).symm, rfl⟩ | exact ⟨(if_pos ⟨hrr, by omega, by omega, by first | exact .inl ⟨by assumption, ht⟩ | exact .inr ⟨by assumption, hc⟩⟩).symm, rfl⟩)⟩
              · refine sr_x rfl (wtd_yes rfl rfl rfl) rfl (Rd.x (x_move rfl)) ?_
                refine sr_skip rfl (wtd_no rfl rfl rfl rfl) rfl ?_
                refine sr_skip rfl (wtd_no rfl rfl rfl rfl) rfl ?_
                refine sr_x rfl (wtd_yes rfl rfl rfl) rfl (Rd.x (x_pick_f rfl rfl rfl)) ?_
                refine sr_x rfl (wtd_none rfl) rfl (Rd.x (x_pick_f rfl rfl rfl)) ?_
                refine sr_x rfl (wtd_none rfl) rfl (Rd.x (x_not rfl)) ?_
                refine sr_nil ?_
                refine aw_keep (keep_cons (t := 2) rfl (keep_cons (t := 3) rfl (keep_cons (t := 4) rfl (keep_cons (t := 6) rfl (keep_cons (t := 7) rfl (keep_cons (t := 8) rfl (keep_cons (t := 48) rfl keep_nil))))))) ?_
                refine aw_true rfl ?_
                refine aw_seq_region ?_
                refine sr_x rfl (wtd_none rfl) rfl (Rd.x (x_assign rfl)) ?_
                refine sr_x rfl (wtd_none rfl) rfl (Rd.x (x_assign rfl)) ?_
                refine sr_x rfl (wtd_none rfl) rfl (Rd.x (x_assign rfl)) ?_
                refine sr_nil ?_
                refine aw_keep (keep_cons (t := 2) rfl (keep_cons (t := 3) rfl (keep_cons (t := 4) rfl (keep_cons (t := 6) rfl (keep_cons (t := 7) rfl (keep_cons (t := 8) rfl keep_nil)))))) ?_
                refine aw_ret ?_
                show ∃ v H2, ResV _ _ _ _ _ _ v ∧ Sub H2 _ ∧ _
                exact ⟨_, H, resV rfl (.cons rfl (.cons rfl (.cons rfl .nil))), (by repeat (first | exact Sub.refl _ | apply Sub.drop)), (by first | exact ⟨(if_neg (fun h => by obtain ⟨h91, h92, h93, h94⟩ := h; first | exact hrr h91 | (exfalso; omega) | (rcases h94 with ⟨h95, h96⟩ | ⟨h95, h96⟩ <;> first | omega | (rw [ht] at h96; cases h96) | (rw [hc] at h96; cases h96)))).symm, rfl⟩ | exact ⟨(if_pos ⟨hrr, by omega, by omega, by first | exact .inl ⟨by assumption, ht⟩ | exact .inr ⟨by assumption, hc⟩⟩).symm, rfl⟩)⟩
            · refine sr_x rfl (wtd_none rfl) rfl (Rd.x (x_move rfl)) ?_
              refine sr_skip rfl (wtd_no rfl rfl rfl rfl) rfl ?_
              refine sr_skip rfl (wtd_no rfl rfl rfl rfl) rfl ?_
              refine sr_x rfl (wtd_none rfl) rfl (Rd.x (x_pick_f rfl rfl rfl)) ?_
              refine sr_x rfl (wtd_none rfl) rfl (Rd.x (x_move rfl)) ?_
              refine sr_x rfl (wtd_yes rfl rfl rfl) rfl (Rd.x (x_fieldAddr fd91_5 rfl)) ?_
              refine sr_x rfl (wtd_yes rfl rfl rfl) rfl (Rd.x (x_load ag3 rfl (cells_ext (by repeat (first | exact List.mem_cons_self | apply List.mem_cons_of_mem | apply List.mem_append_right)) (by repeat (first | exact Ext.all _ | exact Ext.done | apply Ext.take | apply Ext.skip))))) ?_
              refine sr_cmp rfl (wtd_yes rfl rfl rfl) rfl (Rd.x (x_eq rfl rfl)) (fun h7 => ?_) (fun h7 => ?_)
              · refine sr_x rfl (wtd_yes rfl rfl rfl) rfl (Rd.x (x_move rfl)) ?_
                refine sr_x rfl (wtd_yes rfl rfl rfl) rfl (Rd.x (x_fieldAddr fd89_2 rfl)) ?_
                refine sr_x rfl (wtd_yes rfl rfl rfl) rfl (Rd.x (x_cast (u := .bool true) (x_load ag4 rfl (cells_ext (by repeat (first | exact List.mem_cons_self | apply List.mem_cons_of_mem | apply List.mem_append_right)) (by repeat (first | exact Ext.all _ | exact Ext.done | apply Ext.take | apply Ext.skip)))) (congrArg Value.bool hc))) ?_
                refine sr_x rfl (wtd_yes rfl rfl rfl) rfl (Rd.x (x_pick_t rfl rfl rfl)) ?_
                refine sr_x rfl (wtd_none rfl) rfl (Rd.x (x_pick_f rfl rfl rfl)) ?_
                refine sr_x rfl (wtd_none rfl) rfl (Rd.x (x_not rfl)) ?_
                refine sr_nil ?_
                refine aw_keep (keep_cons (t := 2) rfl (keep_cons (t := 3) rfl (keep_cons (t := 4) rfl (keep_cons (t := 6) rfl (keep_cons (t := 7) rfl (keep_cons (t := 8) rfl (keep_cons (t := 48) rfl keep_nil))))))) ?_
                refine aw_false rfl ?_
                refine aw_skip ?_
                show AW _ _ _ _ _ _ _
                refine aw_seq_dr ⟨_, 15, 61, [[], [0], [], [], [2, 3], [0, 1, 2, 3, 4], [0, 1, 2, 3, 4, 5], [], [], [8], [], [0, 1, 2, 3, 4, 5, 6, 7, 8, 9, 10], [0, 1, 2, 3, 4, 5, 6, 7, 8, 9, 10, 11], [0, 1, 2, 3, 4, 5, 6, 7, 8, 9, 10, 11, 12], [0, 1, 2, 3, 4, 5, 6, 7, 8, 9, 10, 11, 12, 13]], [.light, .mem, .mem, .light, .call, .alloc, .call, .mem, .light, .mem, .light, .call, .light, .light, .light]⟩ (by kernel_rfl) rfl rfl mix ?_
                refine dr_light rfl rfl (wtd_none rfl) (x_fieldAddr fd91_7 rfl) ?_
                refine dr_mem0 rfl rfl (wtd_none rfl) (x_load ag2 rfl (cells_ext (by repeat (first | exact List.mem_cons_self | apply List.mem_cons_of_mem | apply List.mem_append_right)) (by repeat (first | exact Ext.all _ | exact Ext.done | apply Ext.take | apply Ext.skip)))) ?_
                refine dr_mem0 rfl rfl (wtd_none rfl) (x_loadN ag89 sz89 rfl (cells_ext (by repeat (first | exact List.mem_cons_self | apply List.mem_cons_of_mem | apply List.mem_append_right)) (by repeat (first | exact Ext.all _ | exact Ext.done | apply Ext.take | apply Ext.skip))) rfl) ?_
                refine dr_light rfl rfl (wtd_none rfl) (x_move rfl) ?_
                refine dr_callq0 rfl rfl (wtd_none rfl) (opS_F rfl rfl rfl rfl cl63 ((wait63_s _ _ _))) (⟨_, rfl⟩) ?_
                rintro _ rfl
                refine dr_alloc rfl rfl (wtd_none rfl) (x_buildSlice Try.underlying178 sz2 zr2 rfl rfl rfl rfl (by repeat (first | exact Parts.nil | (apply Parts.cons; rfl))) (by repeat (first | exact Fill.done | (apply Fill.part; rfl; rfl; rfl; focus (repeat (first | exact Spl.done | exact Spl.all rfl | apply Spl.put | apply Spl.skip)))))) ?_
                intro r5_5 hr5_5 gr5_5
                refine dr_callq rfl (V := [(r5_5, _)]) rfl rfl rfl (wtd_none rfl) (opS_F rfl rfl rfl rfl cl59 ((satAdd_s _ 2 [_, _] _ rfl (by omega) (cells_ext (by repeat (first | exact List.mem_cons_self | apply List.mem_cons_of_mem | apply List.mem_append_right)) (by repeat (first | exact Ext.all _ | exact Ext.done | apply Ext.take | apply Ext.skip)))))) (⟨_, rfl⟩) ?_
                rintro _ rfl
                refine dr_mem rfl (V := []) rfl rfl (wtd_none rfl) (x_loadN ag89 sz89 rfl (cells_ext (by repeat (first | exact List.mem_cons_self | apply List.mem_cons_of_mem | apply List.mem_append_right)) (by repeat (first | exact Ext.all _ | exact Ext.done | apply Ext.take | apply Ext.skip))) rfl) ?_
                refine dr_light rfl rfl (wtd_none rfl) (x_fieldAddr fd91_3 rfl) ?_
                refine dr_mem rfl (V := []) rfl rfl (wtd_none rfl) (x_load ag2 rfl (cells_ext (by repeat (first | exact List.mem_cons_self | apply List.mem_cons_of_mem | apply List.mem_append_right)) (by repeat (first | exact Ext.all _ | exact Ext.done | apply Ext.take | apply Ext.skip)))) ?_
                refine dr_light rfl rfl (wtd_none rfl) (x_move rfl) ?_
                refine dr_callq rfl (V := [(r5_5, _)]) rfl rfl rfl (wtd_none rfl) (opS_F rfl rfl rfl rfl cl62 ((limit62_s _ _ _ _ hrr))) (⟨_, rfl⟩) ?_
                rintro _ rfl
                refine dr_light rfl rfl (wtd_none rfl) (x_assign rfl) ?_
                refine dr_light rfl rfl (wtd_none rfl) (x_assign rfl) ?_
                refine dr_light rfl rfl (wtd_none rfl) (x_assign rfl) ?_
                refine dr_drop ?_
                refine aw_keep (keep_cons (t := 6) rfl (keep_cons (t := 7) rfl (keep_cons (t := 8) rfl keep_nil))) ?_
                refine aw_ret ?_
                show ∃ v H2, ResV _ _ _ _ _ _ v ∧ Sub H2 _ ∧ _
                exact ⟨_, H, resV rfl (.cons rfl (.cons rfl (.cons rfl .nil))), (by repeat (first | exact Sub.refl _ | apply Sub.drop)), (by first | exact ⟨(if_neg (fun h => by obtain ⟨h91, h92, h93, h94⟩ := h; first | exact hrr h91 | (exfalso; omega) | (rcases h94 with ⟨h95, h96⟩ | ⟨h95, h96⟩ <;> first | omega | (rw [ht] at h96; cases h96) | (rw [hc] at h96; cases h96)))).symm, rfl⟩ | exact ⟨(if_pos ⟨hrr, by omega, by omega, by first | exact .inl ⟨by assumption, ht⟩ | exact .inr ⟨by assumption, hc⟩⟩).symm, rfl⟩)⟩
              · refine sr_x rfl (wtd_yes rfl rfl rfl) rfl (Rd.x (x_move rfl)) ?_
                refine sr_skip rfl (wtd_no rfl rfl rfl rfl) rfl ?_
                refine sr_skip rfl (wtd_no rfl rfl rfl rfl) rfl ?_
                refine sr_x rfl (wtd_yes rfl rfl rfl) rfl (Rd.x (x_pick_f rfl rfl rfl)) ?_
                refine sr_x rfl (wtd_none rfl) rfl (Rd.x (x_pick_f rfl rfl rfl)) ?_
                refine sr_x rfl (wtd_none rfl) rfl (Rd.x (x_not rfl)) ?_
                refine sr_nil ?_
                refine aw_keep (keep_cons (t := 2) rfl (keep_cons (t := 3) rfl (keep_cons (t := 4) rfl (keep_cons (t := 6) rfl (keep_cons (t := 7) rfl (keep_cons (t := 8) rfl (keep_cons (t := 48) rfl keep_nil))))))) ?_
                refine aw_true rfl ?_
                refine aw_seq_region ?_
                refine sr_x rfl (wtd_none rfl) rfl (Rd.x (x_assign rfl)) ?_
                refine sr_x rfl (wtd_none rfl) rfl (Rd.x (x_assign rfl)) ?_
                refine sr_x rfl (wtd_none rfl) rfl (Rd.x (x_assign rfl)) ?_
                refine sr_nil ?_
                refine aw_keep (keep_cons (t := 2) rfl (keep_cons (t := 3) rfl (keep_cons (t := 4) rfl (keep_cons (t := 6) rfl (keep_cons (t := 7) rfl (keep_cons (t := 8) rfl keep_nil)))))) ?_
                refine aw_ret ?_
                show ∃ v H2, ResV _ _ _ _ _ _ v ∧ Sub H2 _ ∧ _
                exact ⟨_, H, resV rfl (.cons rfl (.cons rfl (.cons rfl .nil))), (by repeat (first | exact Sub.refl _ | apply Sub.drop)), (by first | exact ⟨(if_neg (fun h => by obtain ⟨h91, h92, h93, h94⟩ := h; first | exact hrr h91 | (exfalso; omega) | (rcases h94 with ⟨h95, h96⟩ | ⟨h95, h96⟩ <;> first | omega | (rw [ht] at h96; cases h96) | (rw [hc] at h96; cases h96)))).symm, rfl⟩ | exact ⟨(if_pos ⟨hrr, by omega, by omega, by first | exact .inl ⟨by assumption, ht⟩ | exact .inr ⟨by assumption, hc⟩⟩).symm, rfl⟩)⟩
  · rw [decide_eq_false hrr]
    refine sr_x rfl (wtd_none rfl) rfl (Rd.x (x_not rfl)) ?_
    refine sr_x rfl (wtd_none rfl) rfl (Rd.x (x_move rfl)) ?_
    refine sr_skip rfl (wtd_no rfl rfl rfl rfl) rfl ?_
    refine sr_skip rfl (wtd_no rfl rfl rfl rfl) rfl ?_
    refine sr_x rfl (wtd_none rfl) rfl (Rd.x (x_pick_t rfl rfl rfl)) ?_
    refine sr_x rfl (wtd_none rfl) rfl (Rd.x (x_move rfl)) ?_
    refine sr_skip rfl (wtd_no rfl rfl rfl rfl) rfl ?_
    refine sr_skip rfl (wtd_no rfl rfl rfl rfl) rfl ?_
    refine sr_skip rfl (wtd_no rfl rfl rfl rfl) rfl ?_
    refine sr_skip rfl (wtd_no rfl rfl rfl rfl) rfl ?_
    refine sr_x rfl (wtd_none rfl) rfl (Rd.x (x_pick_t rfl rfl rfl)) ?_
    refine sr_x rfl (wtd_none rfl) rfl (Rd.x (x_move rfl)) ?_
    refine sr_skip rfl (wtd_no rfl rfl rfl rfl) rfl ?_
    refine sr_skip rfl (wtd_no rfl rfl rfl rfl) rfl ?_
    refine sr_skip rfl (wtd_no rfl rfl rfl rfl) rfl ?_
    refine sr_x rfl (wtd_none rfl) rfl (Rd.x (x_pick_t rfl rfl rfl)) ?_
    refine sr_x rfl (wtd_none rfl) rfl (Rd.x (x_move rfl)) ?_
    refine sr_skip rfl (wtd_no rfl rfl rfl rfl) rfl ?_
    refine sr_skip rfl (wtd_no rfl rfl rfl rfl) rfl ?_
    refine sr_skip rfl (wtd_no rfl rfl rfl rfl) rfl ?_
    refine sr_x rfl (wtd_none rfl) rfl (Rd.x (x_pick_t rfl rfl rfl)) ?_
    refine sr_nil ?_
    refine aw_keep (keep_cons (t := 2) rfl (keep_cons (t := 3) rfl (keep_cons (t := 4) rfl (keep_cons (t := 6) rfl (keep_cons (t := 7) rfl (keep_cons (t := 8) rfl (keep_cons (t := 31) rfl keep_nil))))))) ?_
    refine aw_true rfl ?_
    refine aw_seq_region ?_
    refine sr_x rfl (wtd_none rfl) rfl (Rd.x (x_assign rfl)) ?_
    refine sr_x rfl (wtd_none rfl) rfl (Rd.x (x_assign rfl)) ?_
    refine sr_x rfl (wtd_none rfl) rfl (Rd.x (x_assign rfl)) ?_
    refine sr_nil ?_
    refine aw_keep (keep_cons (t := 2) rfl (keep_cons (t := 3) rfl (keep_cons (t := 4) rfl (keep_cons (t := 6) rfl (keep_cons (t := 7) rfl (keep_cons (t := 8) rfl keep_nil)))))) ?_
    refine aw_ret ?_
    show ∃ v H2, ResV _ _ _ _ _ _ v ∧ Sub H2 _ ∧ _
    exact ⟨_, H, resV rfl (.cons rfl (.cons rfl (.cons rfl .nil))), (by repeat (first | exact Sub.refl _ | apply Sub.drop)), (by first | exact ⟨(if_neg (fun h => by obtain ⟨h91, h92, h93, h94⟩ := h; first | exact hrr h91 | (exfalso; omega) | (rcases h94 with ⟨h95, h96⟩ | ⟨h95, h96⟩ <;> first | omega | (rw [ht] at h96; cases h96) | (rw [hc] at h96; cases h96)))).symm, rfl⟩ | exact ⟨(if_pos ⟨hrr, by omega, by omega, by first | exact .inl ⟨by assumption, ht⟩ | exact .inr ⟨by assumption, hc⟩⟩).symm, rfl⟩)⟩
set_option maxRecDepth 100000 in
set_option maxHeartbeats 2000000 in
theorem again56_00 (r : Rule) (j : Job) (tries : Int) (H : SHeap) (ht : r.timed = false) (hc : r.cancel = false) : AC Try.prog W0 56 [r.v, j.v, .int .i64 tries] H (fun v H' => v = againV r j tries ∧ H' = H) := by
  refine ac_of Try.func56 rfl rfl rfl ?_
  refine aw_seq_region ?_
  refine sr_new rfl (wtd_none rfl) rfl (x_box rfl rfl) ?_
  intro r0_0 hr0_0 gr0_0
  refine sr_new rfl (wtd_none rfl) rfl (x_box rfl rfl) ?_
  intro r0_1 hr0_1 gr0_1
  refine sr_x rfl (wtd_none rfl) rfl (Rd.x (x_assign rfl)) ?_
  refine sr_x rfl (wtd_none rfl) rfl (Rd.x (x_assign rfl)) ?_
  refine sr_x rfl (wtd_none rfl) rfl (Rd.x (x_assign rfl)) ?_
  refine sr_nil ?_
  refine aw_keep (keep_cons (t := 2) rfl (keep_cons (t := 3) rfl (keep_cons (t := 4) rfl (keep_cons (t := 6) rfl (keep_cons (t := 7) rfl (keep_cons (t := 8) rfl keep_nil)))))) ?_
  refine aw_seq ?_
  refine aw_seq_region ?_
  refine sr_x rfl (wtd_none rfl) rfl (Rd.x (x_loadN ag89 sz89 rfl (cells_ext (by repeat (first | exact List.mem_cons_self | apply List.mem_cons_of_mem | apply List.mem_append_right)) (by repeat (first | exact Ext.all _ | exact Ext.done | apply Ext.take | apply Ext.skip))) rfl)) ?_
  refine sr_d rfl (wtd_none rfl) rfl (opS_call rfl rfl rfl rfl cl54 (rright54_s _ _)) ?_
  rintro _ H ⟨rfl, rfl⟩
  by_cases hrr : RRight r
  · rw [decide_eq_true hrr]
    refine sr_x rfl (wtd_none rfl) rfl (Rd.x (x_not rfl)) ?_
    refine sr_x rfl (wtd_none rfl) rfl (Rd.x (x_move rfl)) ?_
    refine sr_x rfl (wtd_yes rfl rfl rfl) rfl (Rd.x (x_move rfl)) ?_
    refine sr_cmp rfl (wtd_yes rfl rfl rfl) rfl (Rd.x (x_lt rfl rfl)) (fun h1 => ?_) (fun h1 => ?_)
    · refine sr_x rfl (wtd_none rfl) rfl (Rd.x (x_pick_f rfl rfl rfl)) ?_
      refine sr_x rfl (wtd_none rfl) rfl (Rd.x (x_move rfl)) ?_
      refine sr_skip rfl (wtd_no rfl rfl rfl rfl) rfl ?_
      refine sr_skip rfl (wtd_no rfl rfl rfl rfl) rfl ?_
      refine sr_skip rfl (wtd_no rfl rfl rfl rfl) rfl ?_
      refine sr_skip rfl (wtd_no rfl rfl rfl rfl) rfl ?_
      refine sr_x rfl (wtd_none rfl) rfl (Rd.x (x_pick_t rfl rfl rfl)) ?_
      refine sr_x rfl (wtd_none rfl) rfl (Rd.x (x_move rfl)) ?_
      refine sr_skip rfl (wtd_no rfl rfl rfl rfl) rfl ?_
      refine sr_skip rfl (wtd_no rfl rfl rfl rfl) rfl ?_
      refine sr_skip rfl (wtd_no rfl rfl rfl rfl) rfl ?_
      refine sr_x rfl (wtd_none rfl) rfl (Rd.x (x_pick_t rfl rfl rfl)) ?_
      refine sr_x rfl (wtd_none rfl) rfl (Rd.x (x_move rfl)) ?_
      refine sr_skip rfl (wtd_no rfl rfl rfl rfl) rfl ?_
      refine sr_skip rfl (wtd_no rfl rfl rfl rfl) rfl ?_
      refine sr_skip rfl (wtd_no rfl rfl rfl rfl) rfl ?_
      refine sr_x rfl (wtd_none rfl) rfl (Rd.x (x_pick_t rfl rfl rfl)) ?_
      refine sr_nil ?_
      refine aw_keep (keep_cons (t := 2) rfl (keep_cons (t := 3) rfl (keep_cons (t := 4) rfl (keep_cons (t := 6) rfl (keep_cons (t := 7) rfl (keep_cons (t := 8) rfl (keep_cons (t := 31) rfl keep_nil))))))) ?_
      refine aw_true rfl ?_
      refine aw_seq_region ?_
      refine sr_x rfl (wtd_none rfl) rfl (Rd.x (x_assign rfl)) ?_
      refine sr_x rfl (wtd_none rfl) rfl (Rd.x (x_assign rfl)) ?_
      refine sr_x rfl (wtd_none rfl) rfl (Rd.x (x_assign rfl)) ?_
      refine sr_nil ?_
      refine aw_keep (keep_cons (t := 2) rfl (keep_cons (t := 3) rfl (keep_cons (t := 4) rfl (keep_cons (t := 6) rfl (keep_cons (t := 7) rfl (keep_cons (t := 8) rfl keep_nil)))))) ?_
      refine aw_ret ?_
      show ∃ v H2, ResV _ _ _ _ _ _ v ∧ Sub H2 _ ∧ _
      exact ⟨_, H, resV rfl (.cons rfl (.cons rfl (.cons rfl .nil))), (by repeat (first | exact Sub.refl _ | apply Sub.drop)), (by first | exact ⟨(if_neg (fun h => by obtain ⟨h91, h92, h93, h94⟩ := h; first | exact hrr h91 | (exfalso; omega) | (rcases h94 with ⟨h95, h96⟩ | ⟨h95, h96⟩ <;> first | omega | (rw [ht] at h96; cases h96) | (rw [hc] at h96; cases h96)))).symm, rfl⟩ | exact ⟨(if_pos ⟨hrr, by omega, by omega, by first | exact .inl ⟨by assumption, ht⟩ | exact .inr ⟨by assumption, hc⟩⟩).symm, rfl⟩)⟩
    · refine sr_x rfl (wtd_none rfl) rfl (Rd.x (x_pick_f rfl rfl rfl)) ?_
      refine sr_x rfl (wtd_none rfl) rfl (Rd.x (x_move rfl)) ?_
      refine sr_x rfl (wtd_yes rfl rfl rfl) rfl (Rd.x (x_move rfl)) ?_
      refine sr_x rfl (wtd_yes rfl rfl rfl) rfl (Rd.x (x_fieldAddr fd89_0 rfl)) ?_
      refine sr_x rfl (wtd_yes rfl rfl rfl) rfl (Rd.x (x_load ag3 rfl (cells_ext (by repeat (first | exact List.mem_cons_self | apply List.mem_cons_of_mem | apply List.mem_append_right)) (by repeat (first | exact Ext.all _ | exact Ext.done | apply Ext.take | apply Ext.skip))))) ?_
      refine sr_cmp rfl (wtd_yes rfl rfl rfl) rfl (Rd.x (x_ge rfl rfl)) (fun h2 => ?_) (fun h2 => ?_)
      · refine sr_x rfl (wtd_none rfl) rfl (Rd.x (x_pick_f rfl rfl rfl)) ?_
        refine sr_x rfl (wtd_none rfl) rfl (Rd.x (x_move rfl)) ?_
        refine sr_skip rfl (wtd_no rfl rfl rfl rfl) rfl ?_
        refine sr_skip rfl (wtd_no rfl rfl rfl rfl) rfl ?_
        refine sr_skip rfl (wtd_no rfl rfl rfl rfl) rfl ?_
        refine sr_x rfl (wtd_none rfl) rfl (Rd.x (x_pick_t rfl rfl rfl)) ?_
        refine sr_x rfl (wtd_none rfl) rfl (Rd.x (x_move rfl)) ?_
        refine sr_skip rfl (wtd_no rfl rfl rfl rfl) rfl ?_
        refine sr_skip rfl (wtd_no rfl rfl rfl rfl) rfl ?_
        refine sr_skip rfl (wtd_no rfl rfl rfl rfl) rfl ?_
        refine sr_x rfl (wtd_none rfl) rfl (Rd.x (x_pick_t rfl rfl rfl)) ?_
        refine sr_nil ?_
        refine aw_keep (keep_cons (t := 2) rfl (keep_cons (t := 3) rfl (keep_cons (t := 4) rfl (keep_cons (t := 6) rfl (keep_cons (t := 7) rfl (keep_cons (t := 8) rfl (keep_cons (t := 31) rfl keep_nil))))))) ?_
        refine aw_true rfl ?_
        refine aw_seq_region ?_
        refine sr_x rfl (wtd_none rfl) rfl (Rd.x (x_assign rfl)) ?_
        refine sr_x rfl (wtd_none rfl) rfl (Rd.x (x_assign rfl)) ?_
        refine sr_x rfl (wtd_none rfl) rfl (Rd.x (x_assign rfl)) ?_
        refine sr_nil ?_
        refine aw_keep (keep_cons (t := 2) rfl (keep_cons (t := 3) rfl (keep_cons (t := 4) rfl (keep_cons (t := 6) rfl (keep_cons (t := 7) rfl (keep_cons (t := 8) rfl keep_nil)))))) ?_
        refine aw_ret ?_
        show ∃ v H2, ResV _ _ _ _ _ _ v ∧ Sub H2 _ ∧ _
        exact ⟨_, H, resV rfl (.cons rfl (.cons rfl (.cons rfl .nil))), (by repeat (first | exact Sub.refl _ | apply Sub.drop)), (by first | exact ⟨(if_neg (fun h => by obtain ⟨h91, h92, h93, h94⟩ := h; first | exact hrr h91 | (exfalso; omega) | (rcases h94 with ⟨h95, h96⟩ | ⟨h95, h96⟩ <;> first | omega | (rw [ht] at h96; cases h96) | (rw [hc] at h96; cases h96)))).symm, rfl⟩ | exact ⟨(if_pos ⟨hrr, by omega, by omega, by first | exact .inl ⟨by assumption, ht⟩ | exact .inr ⟨by assumption, hc⟩⟩).symm, rfl⟩)⟩
      · refine sr_x rfl (wtd_none rfl) rfl (Rd.x (x_pick_f rfl rfl rfl)) ?_
        refine sr_x rfl (wtd_none rfl) rfl (Rd.x (x_move rfl)) ?_
        refine sr_x rfl (wtd_yes rfl rfl rfl) rfl (Rd.x (x_fieldAddr fd91_7 rfl)) ?_
        refine sr_x rfl (wtd_yes rfl rfl rfl) rfl (Rd.x (x_load ag2 rfl (cells_ext (by repeat (first | exact List.mem_cons_self | apply List.mem_cons_of_mem | apply List.mem_append_right)) (by repeat (first | exact Ext.all _ | exact Ext.done | apply Ext.take | apply Ext.skip))))) ?_
        refine sr_cmp rfl (wtd_yes rfl rfl rfl) rfl (Rd.x (x_lt rfl rfl)) (fun h3 => ?_) (fun h3 => ?_)
        · refine sr_x rfl (wtd_none rfl) rfl (Rd.x (x_pick_f rfl rfl rfl)) ?_
          refine sr_x rfl (wtd_none rfl) rfl (Rd.x (x_move rfl)) ?_
          refine sr_skip rfl (wtd_no rfl rfl rfl rfl) rfl ?_
          refine sr_skip rfl (wtd_no rfl rfl rfl rfl) rfl ?_
          refine sr_skip rfl (wtd_no rfl rfl rfl rfl) rfl ?_
          refine sr_x rfl (wtd_none rfl) rfl (Rd.x (x_pick_t rfl rfl rfl)) ?_
          refine sr_nil ?_
          refine aw_keep (keep_cons (t := 2) rfl (keep_cons (t := 3) rfl (keep_cons (t := 4) rfl (keep_cons (t := 6) rfl (keep_cons (t := 7) rfl (keep_cons (t := 8) rfl (keep_cons (t := 31) rfl keep_nil))))))) ?_
          refine aw_true rfl ?_
          refine aw_seq_region ?_
          refine sr_x rfl (wtd_none rfl) rfl (Rd.x (x_assign rfl)) ?_
          refine sr_x rfl (wtd_none rfl) rfl (Rd.x (x_assign rfl)) ?_
          refine sr_x rfl (wtd_none rfl) rfl (Rd.x (x_assign rfl)) ?_
          refine sr_nil ?_
          refine aw_keep (keep_cons (t := 2) rfl (keep_cons (t := 3) rfl (keep_cons (t := 4) rfl (keep_cons (t := 6) rfl (keep_cons (t := 7) rfl (keep_cons (t := 8) rfl keep_nil)))))) ?_
          refine aw_ret ?_
          show ∃ v H2, ResV _ _ _ _ _ _ v ∧ Sub H2 _ ∧ _
          exact ⟨_, H, resV rfl (.cons rfl (.cons rfl (.cons rfl .nil))), (by repeat (first | exact Sub.refl _ | apply Sub.drop)), (by first | exact ⟨(if_neg (fun h => by obtain ⟨h91, h92, h93, h94⟩ := h; first | exact hrr h91 | (exfalso; omega) | (rcases h94 with ⟨h95, h96⟩ | ⟨h95, h96⟩ <;> first | omega | (rw [ht] at h96; cases h96) | (rw [hc] at h96; cases h96)))).symm, rfl⟩ | exact ⟨(if_pos ⟨hrr, by omega, by omega, by first | exact .inl ⟨by assumption, ht⟩ | exact .inr ⟨by assumption, hc⟩⟩).symm, rfl⟩)⟩
        · refine sr_x rfl (wtd_none rfl) rfl (Rd.x (x_pick_f rfl rfl rfl)) ?_
          refine sr_x rfl (wtd_none rfl) rfl (Rd.x (x_move rfl)) ?_
          refine sr_x rfl (wtd_yes rfl rfl rfl) rfl (Rd.x (x_fieldAddr fd91_7 rfl)) ?_
          refine sr_x rfl (wtd_yes rfl rfl rfl) rfl (Rd.x (x_load ag2 rfl (cells_ext (by repeat (first | exact List.mem_cons_self | apply List.mem_cons_of_mem | apply List.mem_append_right)) (by repeat (first | exact Ext.all _ | exact Ext.done | apply Ext.take | apply Ext.skip))))) ?_
          refine sr_cmp rfl (wtd_yes rfl rfl rfl) rfl (Rd.x (x_gt rfl rfl)) (fun h4 => ?_) (fun h4 => ?_)
          · refine sr_x rfl (wtd_none rfl) rfl (Rd.x (x_pick_f rfl rfl rfl)) ?_
            refine sr_nil ?_
            refine aw_keep (keep_cons (t := 2) rfl (keep_cons (t := 3) rfl (keep_cons (t := 4) rfl (keep_cons (t := 6) rfl (keep_cons (t := 7) rfl (keep_cons (t := 8) rfl (keep_cons (t := 31) rfl keep_nil))))))) ?_
            refine aw_true rfl ?_
            refine aw_seq_region ?_
            refine sr_x rfl (wtd_none rfl) rfl (Rd.x (x_assign rfl)) ?_
            refine sr_x rfl (wtd_none rfl) rfl (Rd.x (x_assign rfl)) ?_
            refine sr_x rfl (wtd_none rfl) rfl (Rd.x (x_assign rfl)) ?_
            refine sr_nil ?_
            refine aw_keep (keep_cons (t := 2) rfl (keep_cons (t := 3) rfl (keep_cons (t := 4) rfl (keep_cons (t := 6) rfl (keep_cons (t := 7) rfl (keep_cons (t := 8) rfl keep_nil)))))) ?_
            refine aw_ret ?_
            show ∃ v H2, ResV _ _ _ _ _ _ v ∧ Sub H2 _ ∧ _
            exact ⟨_, H, resV rfl (.cons rfl (.cons rfl (.cons rfl .nil))), (by repeat (first | exact Sub.refl _ | apply Sub.drop)), (by first | exact ⟨(if_neg (fun h => by obtain ⟨h91, h92, h93, h94⟩ := h; first | exact hrr h91 | (exfalso; omega) | (rcases h94 with ⟨h95, h96⟩ | ⟨h95, h96⟩ <;> first | omega | (rw [ht] at h96; cases h96) | (rw [hc] at h96; cases h96)))).symm, rfl⟩ | exact ⟨(if_pos ⟨hrr, by omega, by omega, by first | exact .inl ⟨by assumption, ht⟩ | exact .inr ⟨by assumption, hc⟩⟩).symm, rfl⟩)⟩
          · refine sr_x rfl (wtd_none rfl) rfl (Rd.x (x_pick_f rfl rfl rfl)) ?_
            refine sr_nil ?_
            refine aw_keep (keep_cons (t := 2) rfl (keep_cons (t := 3) rfl (keep_cons (t := 4) rfl (keep_cons (t := 6) rfl (keep_cons (t := 7) rfl (keep_cons (t := 8) rfl (keep_cons (t := 31) rfl keep_nil))))))) ?_
            refine aw_false rfl ?_
            refine aw_skip ?_
            show AW _ _ _ _ _ _ _
            refine aw_seq ?_
            refine aw_seq_region ?_
            refine sr_x rfl (wtd_none rfl) rfl (Rd.x (x_fieldAddr fd91_5 rfl)) ?_
            refine sr_x rfl (wtd_none rfl) rfl (Rd.x (x_load ag3 rfl (cells_ext (by repeat (first | exact List.mem_cons_self | apply List.mem_cons_of_mem | apply List.mem_append_right)) (by repeat (first | exact Ext.all _ | exact Ext.done | apply Ext.take | apply Ext.skip))))) ?_
            refine sr_cmp rfl (wtd_none rfl) rfl (Rd.x (x_eq rfl rfl)) (fun h5 => ?_) (fun h5 => ?_)
            · refine sr_x rfl (wtd_none rfl) rfl (Rd.x (x_move rfl)) ?_
              refine sr_x rfl (wtd_yes rfl rfl rfl) rfl (Rd.x (x_fieldAddr fd89_1 rfl)) ?_
              refine sr_x rfl (wtd_yes rfl rfl rfl) rfl (Rd.x (x_cast (u := .bool false) (x_load ag4 rfl (cells_ext (by repeat (first | exact List.mem_cons_self | apply List.mem_cons_of_mem | apply List.mem_append_right)) (by repeat (first | exact Ext.all _ | exact Ext.done | apply Ext.take | apply Ext.skip)))) (congrArg Value.bool ht))) ?_
              refine sr_x rfl (wtd_none rfl) rfl (Rd.x (x_pick_t rfl rfl rfl)) ?_
              refine sr_x rfl (wtd_none rfl) rfl (Rd.x (x_move rfl)) ?_
              refine sr_x rfl (wtd_yes rfl rfl rfl) rfl (Rd.x (x_fieldAddr fd91_5 rfl)) ?_
              refine sr_x rfl (wtd_yes rfl rfl rfl) rfl (Rd.x (x_load ag3 rfl (cells_ext (by repeat (first | exact List.mem_cons_self | apply List.mem_cons_of_mem | apply List.mem_append_right)) (by repeat (first | exact Ext.all _ | exact Ext.done | apply Ext.take | apply Ext.skip))))) ?_
              refine sr_cmp rfl (wtd_yes rfl rfl rfl) rfl (Rd.x (x_eq rfl rfl)) (fun h6 => ?_) (fun h6 => ?_)
              · refine sr_x rfl (wtd_yes rfl rfl rfl) rfl (Rd.x (x_move rfl)) ?_
                refine sr_x rfl (wtd_yes rfl rfl rfl) rfl (Rd.x (x_fieldAddr fd89_2 rfl)) ?_
                refine sr_x rfl (wtd_yes rfl rfl rfl) rfl (Rd.x (x_cast (u := .bool false) (x_load ag4 rfl (cells_ext (by repeat (first | exact List.mem_cons_self | apply List.mem_cons_of_mem | apply List.mem_append_right)) (by repeat (first | exact Ext.all _ | exact Ext.done | apply Ext.take | apply Ext.skip)))) (congrArg Value.bool hc))) ?_
                refine sr_x rfl (wtd_yes rfl rfl rfl) rfl (Rd.x (x_pick_t rfl rfl rfl)) ?_
                refine sr_x rfl (wtd_none rfl) rfl (Rd.x (x_pick_f rfl rfl rfl)) ?_
                refine sr_x rfl (wtd_none rfl) rfl (Rd.x (x_not rfl)) ?_
                refine sr_nil ?_
                refine aw_keep (keep_cons (t := 2) rfl (keep_cons (t := 3) rfl (keep_cons (t := 4) rfl (keep_cons (t := 6) rfl (keep_cons (t := 7) rfl (keep_cons (t := 8) rfl (keep_cons (t := 48) rfl keep_nil))))))) ?_
                refine aw_true rfl ?_
                refine aw_seq_region ?_
                refine sr_x rfl (wtd_none rfl) rfl (Rd.x (x_assign rfl)) ?_
                refine sr_x rfl (wtd_none rfl) rfl (Rd.x (x_assign rfl)) ?_
                refine sr_x rfl (wtd_none rfl) rfl (Rd.x (x_assign rfl)) ?_
                refine sr_nil ?_
                refine aw_keep (keep_cons (t := 2) rfl (keep_cons (t := 3) rfl (keep_cons (t := 4) rfl (keep_cons (t := 6) rfl (keep_cons (t := 7) rfl (keep_cons (t := 8) rfl keep_nil)))))) ?_
                refine aw_ret ?_
                show ∃ v H2, ResV _ _ _ _ _ _ v ∧ Sub H2 _ ∧ _
                exact ⟨_, H, resV rfl (.cons rfl (.cons rfl (.cons rfl .nil))), (by repeat (first | exact Sub.refl _ | apply Sub.drop)), (by first | exact ⟨(if_neg (fun h => by obtain ⟨h91, h92, h93, h94⟩ := h; first | exact hrr h91 | (exfalso; omega) | (rcases h94 with ⟨h95, h96⟩ | ⟨h95, h96⟩ <;> first | omega | (rw [ht] at h96; cases h96) | (rw [hc] at h96; cases h96)))).symm, rfl⟩ | exact ⟨(if_pos ⟨hrr, by omega, by omega, by first | exact .inl ⟨by assumption, ht⟩ | exact .inr ⟨by assumption, hc⟩⟩).symm, rfl⟩)⟩
              · refine sr_x rfl (wtd_yes rfl rfl rfl) rfl (Rd.x (x_move rfl)) ?_
                refine sr_skip rfl (wtd_no rfl rfl rfl rfl) rfl ?_
                refine sr_skip rfl (wtd_no rfl rfl rfl rfl) rfl ?_
                refine sr_x rfl (wtd_yes rfl rfl rfl) rfl (Rd.x (x_pick_f rfl rfl rfl)) ?_
                refine sr_x rfl (wtd_none rfl) rfl (Rd.x (x_pick_f rfl rfl rfl)) ?_
                refine sr_x rfl (wtd_none rfl) rfl (Rd.x (x_not rfl)) ?_
                refine sr_nil ?_
                refine aw_keep (keep_cons (t := 2) rfl (keep_cons (t := 3) rfl (keep_cons (t := 4) rfl (keep_cons (t := 6) rfl (keep_cons (t := 7) rfl (keep_cons (t := 8) rfl (keep_cons (t := 48) rfl keep_nil))))))) ?_
                refine aw_true rfl ?_
                refine aw_seq_region ?_
                refine sr_x rfl (wtd_none rfl) rfl (Rd.x (x_assign rfl)) ?_
                refine sr_x rfl (wtd_none rfl) rfl (Rd.x (x_assign rfl)) ?_
                refine sr_x rfl (wtd_none rfl) rfl (Rd.x (x_assign rfl)) ?_
                refine sr_nil ?_
                refine aw_keep (keep_cons (t := 2) rfl (keep_cons (t := 3) rfl (keep_cons (t := 4) rfl (keep_cons (t := 6) rfl (keep_cons (t := 7) rfl (keep_cons (t := 8) rfl keep_nil)))))) ?_
                refine aw_ret ?_
                show ∃ v H2, ResV _ _ _ _ _ _ v ∧ Sub H2 _ ∧ _
                exact ⟨_, H, resV rfl (.cons rfl (.cons rfl (.cons rfl .nil))), (by repeat (first | exact Sub.refl _ | apply Sub.drop)), (by first | exact ⟨(if_neg (fun h => by obtain ⟨h91, h92, h93, h94⟩ := h; first | exact hrr h91 | (exfalso; omega) | (rcases h94 with ⟨h95, h96⟩ | ⟨h95, h96⟩ <;> first | omega | (rw [ht] at h96; cases h96) | (rw [hc] at h96; cases h96)))).symm, rfl⟩ | exact ⟨(if_pos ⟨hrr, by omega, by omega, by first | exact .inl ⟨by assumption, ht⟩ | exact .inr ⟨by assumption, hc⟩⟩).symm, rfl⟩)⟩
            · refine sr_x rfl (wtd_none rfl) rfl (Rd.x (x_move rfl)) ?_
              refine sr_skip rfl (wtd_no rfl rfl rfl rfl) rfl ?_
              refine sr_skip rfl (wtd_no rfl rfl rfl rfl) rfl ?_
              refine sr_x rfl (wtd_none rfl) rfl (Rd.x (x_pick_f rfl rfl rfl)) ?_
              refine sr_x rfl (wtd_none rfl) rfl (Rd.x (x_move rfl)) ?_
              refine sr_x rfl (wtd_yes rfl rfl rfl) rfl (Rd.x (x_fieldAddr fd91_5 rfl)) ?_
              refine sr_x rfl (wtd_yes rfl rfl rfl) rfl (Rd.x (x_load ag3 rfl (cells_ext (by repeat (first | exact List.mem_cons_self | apply List.mem_cons_of_mem | apply List.mem_append_right)) (by repeat (first | exact Ext.all _ | exact Ext.done | apply Ext.take | apply Ext.skip))))) ?_
              refine sr_cmp rfl (wtd_yes rfl rfl rfl) rfl (Rd.x (x_eq rfl rfl)) (fun h7 => ?_) (fun h7 => ?_)
              · refine sr_x rfl (wtd_yes rfl rfl rfl) rfl (Rd.x (x_move rfl)) ?_
                refine sr_x rfl (wtd_yes rfl rfl rfl) rfl (Rd.x (x_fieldAddr fd89_2 rfl)) ?_
                refine sr_x rfl (wtd_yes rfl rfl rfl) rfl (Rd.x (x_cast (u := .bool false) (x_load ag4 rfl (cells_ext (by repeat (first | exact List.mem_cons_self | apply List.mem_cons_of_mem | apply List.mem_append_right)) (by repeat (first | exact Ext.all _ | exact Ext.done | apply Ext.take | apply Ext.skip)))) (congrArg Value.bool hc))) ?_
                refine sr_x rfl (wtd_yes rfl rfl rfl) rfl (Rd.x (x_pick_t rfl rfl rfl)) ?_
                refine sr_x rfl (wtd_none rfl) rfl (Rd.x (x_pick_f rfl rfl rfl)) ?_
                refine sr_x rfl (wtd_none rfl) rfl (Rd.x (x_not rfl)) ?_
                refine sr_nil ?_
                refine aw_keep (keep_cons (t := 2) rfl (keep_cons (t := 3) rfl (keep_cons (t := 4) rfl (keep_cons (t := 6) rfl (keep_cons (t := 7) rfl (keep_cons (t := 8) rfl (keep_cons (t := 48) rfl keep_nil))))))) ?_
                refine aw_true rfl ?_
                refine aw_seq_region ?_
                refine sr_x rfl (wtd_none rfl) rfl (Rd.x (x_assign rfl)) ?_
                refine sr_x rfl (wtd_none rfl) rfl (Rd.x (x_assign rfl)) ?_
                refine sr_x rfl (wtd_none rfl) rfl (Rd.x (x_assign rfl)) ?_
                refine sr_nil ?_
                refine aw_keep (keep_cons (t := 2) rfl (keep_cons (t := 3) rfl (keep_cons (t := 4) rfl (keep_cons (t := 6) rfl (keep_cons (t := 7) rfl (keep_cons (t := 8) rfl keep_nil)))))) ?_
                refine aw_ret ?_
                show ∃ v H2, ResV _ _ _ _ _ _ v ∧ Sub H2 _ ∧ _
                exact ⟨_, H, resV rfl (.cons rfl (.cons rfl (.cons rfl .nil))), (by repeat (first | exact Sub.refl _ | apply Sub.drop)), (by first | exact ⟨(if_neg (fun h => by obtain ⟨h91, h92, h93, h94⟩ := h; first | exact hrr h91 | (exfalso; omega) | (rcases h94 with ⟨h95, h96⟩ | ⟨h95, h96⟩ <;> first | omega | (rw [ht] at h96; cases h96) | (rw [hc] at h96; cases h96)))).symm, rfl⟩ | exact ⟨(if_pos ⟨hrr, by omega, by omega, by first | exact .inl ⟨by assumption, ht⟩ | exact .inr ⟨by assumption, hc⟩⟩).symm, rfl⟩)⟩
              · refine sr_x rfl (wtd_yes rfl rfl rfl) rfl (Rd.x (x_move rfl)) ?_
                refine sr_skip rfl (wtd_no rfl rfl rfl rfl) rfl ?_
                refine sr_skip rfl (wtd_no rfl rfl rfl rfl) rfl ?_
                refine sr_x rfl (wtd_yes rfl rfl rfl) rfl (Rd.x (x_pick_f rfl rfl rfl)) ?_
                refine sr_x rfl (wtd_none rfl) rfl (Rd.x (x_pick_f rfl rfl rfl)) ?_
                refine sr_x rfl (wtd_none rfl) rfl (Rd.x (x_not rfl)) ?_
                refine sr_nil ?_
                refine aw_keep (keep_cons (t := 2) rfl (keep_cons (t := 3) rfl (keep_cons (t := 4) rfl (keep_cons (t := 6) rfl (keep_cons (t := 7) rfl (keep_cons (t := 8) rfl (keep_cons (t := 48) rfl keep_nil))))))) ?_
                refine aw_true rfl ?_
                refine aw_seq_region ?_
                refine sr_x rfl (wtd_none rfl) rfl (Rd.x (x_assign rfl)) ?_
                refine sr_x rfl (wtd_none rfl) rfl (Rd.x (x_assign rfl)) ?_
                refine sr_x rfl (wtd_none rfl) rfl (Rd.x (x_assign rfl)) ?_
                refine sr_nil ?_
                refine aw_keep (keep_cons (t := 2) rfl (keep_cons (t := 3) rfl (keep_cons (t := 4) rfl (keep_cons (t := 6) rfl (keep_cons (t := 7) rfl (keep_cons (t := 8) rfl keep_nil)))))) ?_
                refine aw_ret ?_
                show ∃ v H2, ResV _ _ _ _ _ _ v ∧ Sub H2 _ ∧ _
                exact ⟨_, H, resV rfl (.cons rfl (.cons rfl (.cons rfl .nil))), (by repeat (first | exact Sub.refl _ | apply Sub.drop)), (by first | exact ⟨(if_neg (fun h => by obtain ⟨h91, h92, h93, h94⟩ := h; first | exact hrr h91 | (exfalso; omega) | (rcases h94 with ⟨h95, h96⟩ | ⟨h95, h96⟩ <;> first | omega | (rw [ht] at h96; cases h96) | (rw [hc] at h96; cases h96)))).symm, rfl⟩ | exact ⟨(if_pos ⟨hrr, by omega, by omega, by first | exact .inl ⟨by assumption, ht⟩ | exact .inr ⟨by assumption, hc⟩⟩).symm, rfl⟩)⟩
  · rw [decide_eq_false hrr]
    refine sr_x rfl (wtd_none rfl) rfl (Rd.x (x_not rfl)) ?_
    refine sr_x rfl (wtd_none rfl) rfl (Rd.x (x_move rfl)) ?_
    refine sr_skip rfl (wtd_no rfl rfl rfl rfl) rfl ?_
    refine sr_skip rfl (wtd_no rfl rfl rfl rfl) rfl ?_
    refine sr_x rfl (wtd_none rfl) rfl (Rd.x (x_pick_t rfl rfl rfl)) ?_
    refine sr_x rfl (wtd_none rfl) rfl (Rd.x (x_move rfl)) ?_
    refine sr_skip rfl (wtd_no rfl rfl rfl rfl) rfl ?_
    refine sr_skip rfl (wtd_no rfl rfl rfl rfl) rfl ?_
    refine sr_skip rfl (wtd_no rfl rfl rfl rfl) rfl ?_
    refine sr_skip rfl (wtd_no rfl rfl rfl rfl) rfl ?_
    refine sr_x rfl (wtd_none rfl) rfl (Rd.x (x_pick_t rfl rfl rfl)) ?_
    refine sr_x rfl (wtd_none rfl) rfl (Rd.x (x_move rfl)) ?_
    refine sr_skip rfl (wtd_no rfl rfl rfl rfl) rfl ?_
    refine sr_skip rfl (wtd_no rfl rfl rfl rfl) rfl ?_
    refine sr_skip rfl (wtd_no rfl rfl rfl rfl) rfl ?_
    refine sr_x rfl (wtd_none rfl) rfl (Rd.x (x_pick_t rfl rfl rfl)) ?_
    refine sr_x rfl (wtd_none rfl) rfl (Rd.x (x_move rfl)) ?_
    refine sr_skip rfl (wtd_no rfl rfl rfl rfl) rfl ?_
    refine sr_skip rfl (wtd_no rfl rfl rfl rfl) rfl ?_
    refine sr_skip rfl (wtd_no rfl rfl rfl rfl) rfl ?_
    refine sr_x rfl (wtd_none rfl) rfl (Rd.x (x_pick_t rfl rfl rfl)) ?_
    refine sr_nil ?_
    refine aw_keep (keep_cons (t := 2) rfl (keep_cons (t := 3) rfl (keep_cons (t := 4) rfl (keep_cons (t := 6) rfl (keep_cons (t := 7) rfl (keep_cons (t := 8) rfl (keep_cons (t := 31) rfl keep_nil))))))) ?_
    refine aw_true rfl ?_
    refine aw_seq_region ?_
    refine sr_x rfl (wtd_none rfl) rfl (Rd.x (x_assign rfl)) ?_
    refine sr_x rfl (wtd_none rfl) rfl (Rd.x (x_assign rfl)) ?_
    refine sr_x rfl (wtd_none rfl) rfl (Rd.x (x_assign rfl)) ?_
    refine sr_nil ?_
    refine aw_keep (keep_cons (t := 2) rfl (keep_cons (t := 3) rfl (keep_cons (t := 4) rfl (keep_cons (t := 6) rfl (keep_cons (t := 7) rfl (keep_cons (t := 8) rfl keep_nil)))))) ?_
    refine aw_ret ?_
    show ∃ v H2, ResV _ _ _ _ _ _ v ∧ Sub H2 _ ∧ _
    exact ⟨_, H, resV rfl (.cons rfl (.cons rfl (.cons rfl .nil))), (by repeat (first | exact Sub.refl _ | apply Sub.drop)), (by first | exact ⟨(if_neg (fun h => by obtain ⟨h91, h92, h93, h94⟩ := h; first | exact hrr h91 | (exfalso; omega) | (rcases h94 with ⟨h95, h96⟩ | ⟨h95, h96⟩ <;> first | omega | (rw [ht] at h96; cases h96) | (rw [hc] at h96; cases h96)))).symm, rfl⟩ | exact ⟨(if_pos ⟨hrr, by omega, by omega, by first | exact .inl ⟨by assumption, ht⟩ | exact .inr ⟨by assumption, hc⟩⟩).symm, rfl⟩)⟩
theorem again56_s (r : Rule) (j : Job) (tries : Int) (H : SHeap) : AC Try.prog W0 56 [r.v, j.v, .int .i64 tries] H (fun v H' => v = againV r j tries ∧ H' = H) := by
  by_cases ht : r.timed = true <;> by_cases hc : r.cancel = true
  · exact again56_11 r j tries H ht hc
  · exact again56_10 r j tries H ht (by simpa using hc)
  · exact again56_01 r j tries H (by simpa using ht) hc
  · exact again56_00 r j tries H (by simpa using ht) (by simpa using hc)
end
end Go.Proofs.Yteilocpjikmmdaa
