/- Which jobs may be asked for, and which states are those of a job that has not ended; no condition. -/
import Derived.Test.YteilocpjikmmdaaJobAw
import Derived.Test.YteilocpjikmmdaaRows
namespace Go.Proofs.Yteilocpjikmmdaa
open Go.Proofs.Yteilocpjikmmdaa.Sym
open Go.RowKit (Below)
set_option linter.unusedVariables false
set_option linter.unusedSimpArgs false
theorem cl30 : Callable Try.prog 30 := ⟨Try.f30, Try.func30, by kernel_rfl, by kernel_rfl⟩
theorem cl31 : Callable Try.prog 31 := ⟨Try.f31, Try.func31, by kernel_rfl, by kernel_rfl⟩
theorem cl32 : Callable Try.prog 32 := ⟨Try.f32, Try.func32, by kernel_rfl, by kernel_rfl⟩
section
variable {W0 : World}
set_option maxRecDepth 100000 in
set_option maxHeartbeats 400000 in
theorem jobRights_s (r : Request) (s : Int) : AC Try.prog W0 4 [r.v, .int .i64 s] [] (fun v _ => v = .bool true) := by
  refine ac_of Try.func4 rfl rfl rfl ?_
  refine aw_seq_region ?_
  refine sr_new rfl (wtd_none rfl) rfl (x_box rfl rfl) ?_
  intro r0_0 hr0_0 gr0_0
  refine sr_x rfl (wtd_none rfl) rfl (Rd.x (x_assign rfl)) ?_
  refine sr_nil ?_
  refine aw_keep (keep_cons (t := 1) rfl (keep_cons (t := 2) rfl (keep_cons (t := 4) rfl keep_nil))) ?_
  refine aw_seq_dr ⟨_, 20, 24, [[], [0], [], [0, 1, 2], [0, 1, 2, 3], [0, 1, 2, 3, 4], [0, 1, 2, 3, 4, 5], [0, 1, 2, 3, 4, 5, 6], [0, 1, 2, 3, 4, 5], [0, 1, 2, 3, 4, 5, 8], [0, 1, 2, 3, 4, 5, 6, 7, 8, 9], [0, 1, 2, 3, 4, 5, 6, 7, 8, 9, 10], [0, 1, 2, 3, 4, 5, 6, 7, 8, 9, 10, 11], [0, 1, 2, 3, 4, 5, 6, 7, 8, 9, 10, 11, 12], [0, 1, 2, 3, 4, 5, 6, 7, 8, 9, 10, 11, 12, 13], [0, 1, 2, 3, 4, 5, 6, 7, 8, 9, 10, 11, 12, 13, 14], [0, 1, 2, 3, 4, 5, 6, 7, 8, 9, 10, 11, 12, 13, 14, 15], [0, 1, 2, 3, 4, 5, 6, 7, 8, 9, 10, 11, 12, 13, 14, 15, 16], [0, 1, 2, 3, 4, 5, 6, 7, 8, 9, 10, 11, 12, 13, 14, 15, 16, 17], [0, 1, 2, 3, 4, 5, 6, 7, 8, 9, 10, 11, 12, 13, 14, 15, 16, 17, 18]], [.mem, .call, .mem, .call, .light, .light, .light, .call, .light, .light, .light, .light, .light, .light, .light, .light, .light, .call, .light, .light]⟩ (by kernel_rfl) rfl rfl mix ?_
  refine dr_mem0 rfl rfl (wtd_none rfl) (x_loadN ag36 sz36 rfl (cells_ext (by repeat (first | exact List.mem_cons_self | apply List.mem_cons_of_mem | apply List.mem_append_right)) (by repeat (first | exact Ext.all _ | exact Ext.done | apply Ext.take | apply Ext.skip))) rfl) ?_
  refine dr_callq0 rfl rfl (wtd_none rfl) (opS_F rfl rfl rfl rfl cl29 ((right29_s _ _))) (⟨_, rfl⟩) ?_
  rintro _ rfl
  refine dr_mem0 rfl rfl (wtd_none rfl) (x_loadN ag36 sz36 rfl (cells_ext (by repeat (first | exact List.mem_cons_self | apply List.mem_cons_of_mem | apply List.mem_append_right)) (by repeat (first | exact Ext.all _ | exact Ext.done | apply Ext.take | apply Ext.skip))) rfl) ?_
  refine dr_callq0 rfl rfl (wtd_none rfl) (opS_F rfl rfl rfl rfl cl30 ((right30_s _ _))) (⟨_, rfl⟩) ?_
  rintro _ rfl
  refine dr_cmp rfl rfl (wtd_none rfl) (x_eq rfl rfl) (fun h1 => ?_) (fun h1 => absurd (by first | omega | decide) h1)
  refine dr_light rfl rfl (wtd_none rfl) (x_move rfl) ?_
  refine dr_light rfl rfl (wtd_yes rfl rfl rfl) (x_move rfl) ?_
  refine dr_callq0 rfl rfl (wtd_yes rfl rfl rfl) (opS_F rfl rfl rfl rfl cl31 ((alive_s s _))) (⟨_, decide (1 ≤ s ∧ s ≤ 3), rfl, decide_eq_true_iff⟩) ?_
  rintro _ ⟨c0, rfl, hc0⟩
  cases c0
  · refine dr_light rfl rfl (wtd_yes rfl rfl rfl) (x_move rfl) ?_
    refine dr_cmp rfl rfl (wtd_yes rfl rfl rfl) (x_ge rfl rfl) (fun h2 => ?_) (fun h2 => ?_)
    · refine dr_light rfl rfl (wtd_yes rfl rfl rfl) (x_move rfl) ?_
      refine dr_light rfl rfl (wtd_yes rfl rfl rfl) (x_move rfl) ?_
      refine dr_cmp rfl rfl (wtd_yes rfl rfl rfl) (x_le rfl rfl) (fun h3 => ?_) (fun h3 => ?_)
      · refine dr_light rfl rfl (wtd_yes rfl rfl rfl) (x_pick_t rfl rfl rfl) ?_
        refine dr_light rfl rfl (wtd_yes rfl rfl rfl) (x_eqb Try.underlying4 rfl rfl) ?_
        refine dr_light rfl rfl (wtd_none rfl) (x_pick_t rfl rfl rfl) ?_
        refine dr_light rfl rfl (wtd_none rfl) (x_move rfl) ?_
        refine dr_skip rfl (wtd_no rfl rfl rfl rfl) ?_
        refine dr_light rfl rfl (wtd_none rfl) (x_pick_f rfl rfl rfl) ?_
        refine dr_light rfl rfl (wtd_none rfl) (x_assign rfl) ?_
        refine dr_nil0 ?_
        refine aw_keep (keep_cons (t := 4) rfl keep_nil) ?_
        refine aw_ret ?_
        show ∃ v H2, ResV _ _ _ _ _ _ v ∧ Sub H2 _ ∧ _
        exact ⟨_, _, resV rfl (.cons rfl .nil), (by repeat (first | exact Sub.refl _ | apply Sub.drop)), (by first | rfl | (exfalso; first | omega | (have := hc0.1 rfl; omega) | (have q := mt hc0.2 (by simp); omega)))⟩
      · refine dr_light rfl rfl (wtd_yes rfl rfl rfl) (x_pick_t rfl rfl rfl) ?_
        refine dr_light rfl rfl (wtd_yes rfl rfl rfl) (x_eqb Try.underlying4 rfl rfl) ?_
        refine dr_light rfl rfl (wtd_none rfl) (x_pick_t rfl rfl rfl) ?_
        refine dr_light rfl rfl (wtd_none rfl) (x_move rfl) ?_
        refine dr_callq0 rfl rfl (wtd_yes rfl rfl rfl) (opS_F rfl rfl rfl rfl cl32 ((awake08_s _))) (⟨_, rfl⟩) ?_
        rintro _ rfl
        refine dr_light rfl rfl (wtd_none rfl) (x_pick_t rfl rfl rfl) ?_
        refine dr_light rfl rfl (wtd_none rfl) (x_assign rfl) ?_
        refine dr_nil0 ?_
        refine aw_keep (keep_cons (t := 4) rfl keep_nil) ?_
        refine aw_ret ?_
        show ∃ v H2, ResV _ _ _ _ _ _ v ∧ Sub H2 _ ∧ _
        exact ⟨_, _, resV rfl (.cons rfl .nil), (by repeat (first | exact Sub.refl _ | apply Sub.drop)), (by first | rfl | (exfalso; first | omega | (have := hc0.1 rfl; omega) | (have q := mt hc0.2 (by simp); omega)))⟩
    · refine dr_light rfl rfl (wtd_yes rfl rfl rfl) (x_move rfl) ?_
      refine dr_skip rfl (wtd_no rfl rfl rfl rfl) ?_
      refine dr_skip rfl (wtd_no rfl rfl rfl rfl) ?_
      refine dr_light rfl rfl (wtd_yes rfl rfl rfl) (x_pick_f rfl rfl rfl) ?_
      refine dr_light rfl rfl (wtd_yes rfl rfl rfl) (x_eqb Try.underlying4 rfl rfl) ?_
      refine dr_light rfl rfl (wtd_none rfl) (x_pick_t rfl rfl rfl) ?_
      refine dr_light rfl rfl (wtd_none rfl) (x_move rfl) ?_
      refine dr_callq0 rfl rfl (wtd_yes rfl rfl rfl) (opS_F rfl rfl rfl rfl cl32 ((awake08_s _))) (⟨_, rfl⟩) ?_
      rintro _ rfl
      refine dr_light rfl rfl (wtd_none rfl) (x_pick_t rfl rfl rfl) ?_
      refine dr_light rfl rfl (wtd_none rfl) (x_assign rfl) ?_
      refine dr_nil0 ?_
      refine aw_keep (keep_cons (t := 4) rfl keep_nil) ?_
      refine aw_ret ?_
      show ∃ v H2, ResV _ _ _ _ _ _ v ∧ Sub H2 _ ∧ _
      exact ⟨_, _, resV rfl (.cons rfl .nil), (by repeat (first | exact Sub.refl _ | apply Sub.drop)), (by first | rfl | (exfalso; first | omega | (have := hc0.1 rfl; omega) | (have q := mt hc0.2 (by simp); omega)))⟩
  · refine dr_light rfl rfl (wtd_yes rfl rfl rfl) (x_move rfl) ?_
    refine dr_cmp rfl rfl (wtd_yes rfl rfl rfl) (x_ge rfl rfl) (fun h4 => ?_) (fun h4 => ?_)
    · refine dr_light rfl rfl (wtd_yes rfl rfl rfl) (x_move rfl) ?_
      refine dr_light rfl rfl (wtd_yes rfl rfl rfl) (x_move rfl) ?_
      refine dr_cmp rfl rfl (wtd_yes rfl rfl rfl) (x_le rfl rfl) (fun h5 => ?_) (fun h5 => ?_)
      · refine dr_light rfl rfl (wtd_yes rfl rfl rfl) (x_pick_t rfl rfl rfl) ?_
        refine dr_light rfl rfl (wtd_yes rfl rfl rfl) (x_eqb Try.underlying4 rfl rfl) ?_
        refine dr_light rfl rfl (wtd_none rfl) (x_pick_t rfl rfl rfl) ?_
        refine dr_light rfl rfl (wtd_none rfl) (x_move rfl) ?_
        refine dr_callq0 rfl rfl (wtd_yes rfl rfl rfl) (opS_F rfl rfl rfl rfl cl32 ((awake08_s _))) (⟨_, rfl⟩) ?_
        rintro _ rfl
        refine dr_light rfl rfl (wtd_none rfl) (x_pick_t rfl rfl rfl) ?_
        refine dr_light rfl rfl (wtd_none rfl) (x_assign rfl) ?_
        refine dr_nil0 ?_
        refine aw_keep (keep_cons (t := 4) rfl keep_nil) ?_
        refine aw_ret ?_
        show ∃ v H2, ResV _ _ _ _ _ _ v ∧ Sub H2 _ ∧ _
        exact ⟨_, _, resV rfl (.cons rfl .nil), (by repeat (first | exact Sub.refl _ | apply Sub.drop)), (by first | rfl | (exfalso; first | omega | (have := hc0.1 rfl; omega) | (have q := mt hc0.2 (by simp); omega)))⟩
      · refine dr_light rfl rfl (wtd_yes rfl rfl rfl) (x_pick_t rfl rfl rfl) ?_
        refine dr_light rfl rfl (wtd_yes rfl rfl rfl) (x_eqb Try.underlying4 rfl rfl) ?_
        refine dr_light rfl rfl (wtd_none rfl) (x_pick_t rfl rfl rfl) ?_
        refine dr_light rfl rfl (wtd_none rfl) (x_move rfl) ?_
        refine dr_skip rfl (wtd_no rfl rfl rfl rfl) ?_
        refine dr_light rfl rfl (wtd_none rfl) (x_pick_f rfl rfl rfl) ?_
        refine dr_light rfl rfl (wtd_none rfl) (x_assign rfl) ?_
        refine dr_nil0 ?_
        refine aw_keep (keep_cons (t := 4) rfl keep_nil) ?_
        refine aw_ret ?_
        show ∃ v H2, ResV _ _ _ _ _ _ v ∧ Sub H2 _ ∧ _
        exact ⟨_, _, resV rfl (.cons rfl .nil), (by repeat (first | exact Sub.refl _ | apply Sub.drop)), (by first | rfl | (exfalso; first | omega | (have := hc0.1 rfl; omega) | (have q := mt hc0.2 (by simp); omega)))⟩
    · refine dr_light rfl rfl (wtd_yes rfl rfl rfl) (x_move rfl) ?_
      refine dr_skip rfl (wtd_no rfl rfl rfl rfl) ?_
      refine dr_skip rfl (wtd_no rfl rfl rfl rfl) ?_
      refine dr_light rfl rfl (wtd_yes rfl rfl rfl) (x_pick_f rfl rfl rfl) ?_
      refine dr_light rfl rfl (wtd_yes rfl rfl rfl) (x_eqb Try.underlying4 rfl rfl) ?_
      refine dr_light rfl rfl (wtd_none rfl) (x_pick_t rfl rfl rfl) ?_
      refine dr_light rfl rfl (wtd_none rfl) (x_move rfl) ?_
      refine dr_skip rfl (wtd_no rfl rfl rfl rfl) ?_
      refine dr_light rfl rfl (wtd_none rfl) (x_pick_f rfl rfl rfl) ?_
      refine dr_light rfl rfl (wtd_none rfl) (x_assign rfl) ?_
      refine dr_nil0 ?_
      refine aw_keep (keep_cons (t := 4) rfl keep_nil) ?_
      refine aw_ret ?_
      show ∃ v H2, ResV _ _ _ _ _ _ v ∧ Sub H2 _ ∧ _
      exact ⟨_, _, resV rfl (.cons rfl .nil), (by repeat (first | exact Sub.refl _ | apply Sub.drop)), (by first | rfl | (exfalso; first | omega | (have := hc0.1 rfl; omega) | (have q := mt hc0.2 (by simp); omega)))⟩
end
namespace JobRightsRow
open Go.ChangeShapes Go.WideShapes Go.ChangeAt Go.RowKit
theorem own : ownKnob Try.prog.godebug = none := by kernel_rfl
theorem laid : laidOutB Try.prog = true := by kernel_rfl
set_option maxRecDepth 100000 in
theorem lifted (os : Os) (started : os.Started) (H : Type) (enc : TypeId × Value → H) :
    ReturnsInHanded {} Try.checked os 4 .any (Rows.jobRightsSpec.pre6 enc Try.prog Try.f4 Rows.jobRightsRow.domain false) (Rows.jobRightsSpec.post enc Try.prog Try.f4 false true false false) := by
  refine law_lifted (C := Try.checked) (tb := 4) own started (by kernel_rfl) Try.func4 (ChangeSpec.witness6 (enc := enc) (C := Try.checked) false ⟨#[], #[.agg #[.int .i64 0, .int .i64 0, .int .i64 0, .int .i64 0, .int .i64 0, .int .i64 0, .bool false, .int .i64 0, .int .i64 0], .int .i64 0], []⟩ 8 (by kernel_rfl) (by kernel_rfl) (by kernel_rfl) (by kernel_rfl)) rfl Try.underlying4 rfl laid (by kernel_rfl) ?_ ?_
  · intro ds h
    match ds, h with
    | [a0, a1], _ => rfl
  · intro W base args ds ps hval hA hlt hsz
    have hA' : DataW.TrodAll enc Try.prog W 0 (fun _ => true) true [36, 3] args ds ps := hA
    clear hA
    obtain ⟨v0, vs0, d0, ds0, p0, q0, rfl, rfl, rfl, h0, r0⟩ := trodAll_cons hA'
    obtain ⟨v1, vs1, d1, ds1, p1, q1, rfl, rfl, rfl, h1, r1⟩ := trodAll_cons r0
    obtain ⟨rfl, rfl, rfl⟩ := trodAll_nil r1
    obtain ⟨r, rfl, _⟩ := open_Request (hval 0 36 v0 rfl rfl) h0
    obtain ⟨n, rfl, hn⟩ := opn_int Try.underlying3 (hval 1 3 v1 rfl rfl) h1
    exact jobRights_s r n
theorem over : Rows.jobRightsRow.holds Try.pinned (OpenSpec.ofChange Rows.jobRightsSpec) :=
  OpenClaim.holds_of_wide 4 Try.f4 rfl rfl rfl rfl rfl rfl rfl ⟨rfl, rfl, rfl, rfl, rfl⟩ rfl rfl rfl rfl rfl (by kernel_rfl) Try.func4 (by kernel_rfl)
    (of_decide_eq_true (by kernel_rfl)) (by unfold Func.isWrapper; first | (rw [if_pos (by decide +kernel)]; kernel_rfl) | (rw [if_neg (by decide +kernel)]; exact ⟨rfl, rfl⟩))
    (fun os started H enc _ => lifted os started H enc)
theorem proved : Rows.JobRightsSaid := over
#print axioms proved
end JobRightsRow
end Go.Proofs.Yteilocpjikmmdaa
