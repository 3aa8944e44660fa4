/- Parts are read of their text. -/
import Derived.Test.YtbcajgkaepihfaaDoorSgb
namespace Go.Proofs.YtbcajgkaepihfaaDoor
open Go.Proofs.YtbcajgkaepihfaaDoor.Sym
open Go.RowKit (Below)
set_option linter.unusedVariables false
set_option linter.unusedSimpArgs false
theorem toP_0 {a : Int} {st : Option (List UInt8)} : toP a st none = stepP a a st := rfl
theorem stepP_0 {a b : Int} : stepP a b none = mkP a b 1 := rfl
theorem ag9 : aggOf Tryd.prog 9 = some false := by kernel_rfl
theorem by67 : bytesOf Tryd.prog 67 = some 24 := by kernel_rfl
theorem cl105 : Callable Tryd.prog 105 := ⟨Tryd.f105, Tryd.func105, by kernel_rfl, by kernel_rfl⟩
theorem cl26 : Callable Tryd.prog 26 := ⟨Tryd.f26, Tryd.func26, by kernel_rfl, by kernel_rfl⟩
theorem cl27 : Callable Tryd.prog 27 := ⟨Tryd.f27, Tryd.func27, by kernel_rfl, by kernel_rfl⟩
theorem cl42 : Callable Tryd.prog 42 := ⟨Tryd.f42, Tryd.func42, by kernel_rfl, by kernel_rfl⟩
theorem cl44 : Callable Tryd.prog 44 := ⟨Tryd.f44, Tryd.func44, by kernel_rfl, by kernel_rfl⟩
theorem cl51 : Callable Tryd.prog 51 := ⟨Tryd.f51, Tryd.func51, by kernel_rfl, by kernel_rfl⟩
theorem cl69 : Callable Tryd.prog 69 := ⟨Tryd.f69, Tryd.func69, by kernel_rfl, by kernel_rfl⟩
theorem cl83 : Callable Tryd.prog 83 := ⟨Tryd.f83, Tryd.func83, by kernel_rfl, by kernel_rfl⟩
theorem cl84 : Callable Tryd.prog 84 := ⟨Tryd.f84, Tryd.func84, by kernel_rfl, by kernel_rfl⟩
theorem fl67 : flds Tryd.prog 67 = some [(0, 1), (1, 1), (2, 1)] := by kernel_rfl
section
variable {W0 : World}
set_option maxRecDepth 100000 in
set_option maxHeartbeats 400000 in
theorem cutY0_s (w r : List UInt8) (c : UInt8) (hw : c ∉ w) (H : SHeap) (hl : w.length + r.length ≤ 1000000) : AC Tryd.prog W0 105 [.string (bs (w ++ c :: r)), .string (bs [c])] H (fun v H' => v = .tuple #[.string (bs w), .string (bs r), .bool true] ∧ H' = H) := by
  have hc1 : ([c] : List UInt8).length = 1 := rfl
  refine ac_of Tryd.func105 rfl rfl rfl ?_
  refine aw_seq_region ?_
  refine sr_as ?_
  refine sr_as ?_
  refine sr_as ?_
  refine sr_nil ?_
  refine aw_kp [0, 1, 4, 5, 6] ?_
  refine aw_seq ?_
  refine aw_seq_region ?_
  refine sr_mv ?_
  refine sr_mv ?_
  refine sr_d rfl (wtd_none rfl) rfl (opS_call rfl rfl rfl rfl cl112 (index0_s w r c hw _)) ?_
  rintro _ H ⟨rfl, rfl⟩
  refine sr_as ?_
  refine sr_nil ?_
  refine aw_kp [0, 1, 4, 5, 6, 7] ?_
  refine aw_seq_region ?_
  refine sr_mv ?_
  refine sr_c (x_ge rfl rfl) (fun h1 => ?_) (fun h1 => absurd (by first | omega | decide) h1)
  refine sr_nil ?_
  refine aw_kp [0, 1, 4, 5, 6, 7, 12] ?_
  refine aw_true rfl ?_
  refine aw_seq_dr ⟨_, 12, 23, [[], [], [0, 1], [], [], [], [5], [4, 5, 6], [3, 4, 5, 6, 7], [0, 1, 2], [0, 1, 2, 3, 4, 5, 6, 7, 8, 9], [0, 1, 2, 3, 4, 5, 6, 7, 8, 9, 10]], [.light, .light, .light, .light, .light, .light, .light, .light, .light, .light, .light, .light]⟩ (by kernel_rfl) rfl rfl mix ?_
  refine dr_l (x_move rfl) ?_
  refine dr_l (x_move rfl) ?_
  refine dr_l (x_cast (u := .string (bs w)) (x_sliceHiB w.length Tryd.underlying9 rfl rfl rfl (by rw [List.length_append]; omega)) (by rw [List.take_left' rfl])) ?_
  refine dr_l (x_move rfl) ?_
  refine dr_l (x_move rfl) ?_
  refine dr_l (x_move rfl) ?_
  refine dr_l (x_lenB Tryd.underlying9 rfl) ?_
  refine dr_l (x_add' rfl rfl (i64w (by omega) (by omega))) ?_
  refine dr_l (x_cast (u := .string (bs r)) (x_sliceLoB (w.length + 1) Tryd.underlying9 rfl rfl (by omega) (by rw [List.length_append, List.length_cons]; omega)) (by rw [drop_mid])) ?_
  refine dr_l (x_assign rfl) ?_
  refine dr_l (x_assign rfl) ?_
  refine dr_l (x_assign rfl) ?_
  refine dr_nil0 ?_
  refine aw_kp [0, 4, 5, 6] ?_
  refine aw_ret ?_
  show ∃ v H2, ResV _ _ _ _ _ _ v ∧ Sub H2 _ ∧ _
  exact ⟨_, H, resV rfl (.cons rfl (.cons rfl (.cons rfl .nil))), (by repeat (first | exact Sub.refl _ | apply Sub.drop)), ⟨rfl, rfl⟩⟩
set_option maxRecDepth 100000 in
set_option maxHeartbeats 400000 in
theorem cutN0_s (l : List UInt8) (c : UInt8) (hw : c ∉ l) (H : SHeap) : AC Tryd.prog W0 105 [.string (bs l), .string (bs [c])] H (fun v H' => v = .tuple #[.string (bs l), .string (bs []), .bool false] ∧ H' = H) := by
  refine ac_of Tryd.func105 rfl rfl rfl ?_
  refine aw_seq_region ?_
  refine sr_as ?_
  refine sr_as ?_
  refine sr_as ?_
  refine sr_nil ?_
  refine aw_kp [0, 1, 4, 5, 6] ?_
  refine aw_seq ?_
  refine aw_seq_region ?_
  refine sr_mv ?_
  refine sr_mv ?_
  refine sr_d rfl (wtd_none rfl) rfl (opS_call rfl rfl rfl rfl cl112 (indexN0_s l c hw _)) ?_
  rintro _ H ⟨rfl, rfl⟩
  refine sr_as ?_
  refine sr_nil ?_
  refine aw_kp [0, 1, 4, 5, 6, 7] ?_
  refine aw_seq_region ?_
  refine sr_mv ?_
  refine sr_c (x_ge rfl rfl) (fun h1 => absurd h1 (by first | omega | decide)) (fun h1 => ?_)
  refine sr_nil ?_
  refine aw_kp [0, 1, 4, 5, 6, 7, 12] ?_
  refine aw_false rfl ?_
  refine aw_skip ?_
  show AW _ _ _ _ _ _ _
  refine aw_seq_region ?_
  refine sr_mv ?_
  refine sr_as ?_
  refine sr_as ?_
  refine sr_as ?_
  refine sr_nil ?_
  refine aw_kp [4, 5, 6] ?_
  refine aw_ret ?_
  show ∃ v H2, ResV _ _ _ _ _ _ v ∧ Sub H2 _ ∧ _
  exact ⟨_, H, resV rfl (.cons rfl (.cons rfl (.cons rfl .nil))), (by repeat (first | exact Sub.refl _ | apply Sub.drop)), ⟨rfl, rfl⟩⟩
set_option maxRecDepth 100000 in
set_option maxHeartbeats 400000 in
theorem cutY_s (w r : List UInt8) (c : UInt8) (hw : c ∉ w) (H : SHeap) (hl : w.length + r.length ≤ 1000000) : AC Tryd.prog W0 83 [.string (bs (w ++ c :: r)), .string (bs [c])] H (fun v H' => v = .tuple #[.string (bs w), .string (bs r), .bool true] ∧ H' = H) := by
  refine ac_of Tryd.func83 rfl rfl rfl ?_
  refine aw_seq_region ?_
  refine sr_as ?_
  refine sr_as ?_
  refine sr_as ?_
  refine sr_nil ?_
  refine aw_kp [0, 1, 4, 5, 6] ?_
  refine aw_seq_region ?_
  refine sr_mv ?_
  refine sr_mv ?_
  refine sr_d rfl (wtd_none rfl) rfl (opS_call rfl rfl rfl rfl cl105 (cutY0_s w r c hw _ hl)) ?_
  rintro _ H ⟨rfl, rfl⟩
  refine sr_rd (x_extract rfl rfl) ?_
  refine sr_rd (x_extract rfl rfl) ?_
  refine sr_rd (x_extract rfl rfl) ?_
  refine sr_as ?_
  refine sr_as ?_
  refine sr_as ?_
  refine sr_nil ?_
  refine aw_kp [4, 5, 6] ?_
  refine aw_ret ?_
  show ∃ v H2, ResV _ _ _ _ _ _ v ∧ Sub H2 _ ∧ _
  exact ⟨_, H, resV rfl (.cons rfl (.cons rfl (.cons rfl .nil))), (by repeat (first | exact Sub.refl _ | apply Sub.drop)), ⟨rfl, rfl⟩⟩
set_option maxRecDepth 100000 in
set_option maxHeartbeats 400000 in
theorem cutN_s (l : List UInt8) (c : UInt8) (hw : c ∉ l) (H : SHeap) : AC Tryd.prog W0 83 [.string (bs l), .string (bs [c])] H (fun v H' => v = .tuple #[.string (bs l), .string (bs []), .bool false] ∧ H' = H) := by
  refine ac_of Tryd.func83 rfl rfl rfl ?_
  refine aw_seq_region ?_
  refine sr_as ?_
  refine sr_as ?_
  refine sr_as ?_
  refine sr_nil ?_
  refine aw_kp [0, 1, 4, 5, 6] ?_
  refine aw_seq_region ?_
  refine sr_mv ?_
  refine sr_mv ?_
  refine sr_d rfl (wtd_none rfl) rfl (opS_call rfl rfl rfl rfl cl105 (cutN0_s l c hw _)) ?_
  rintro _ H ⟨rfl, rfl⟩
  refine sr_rd (x_extract rfl rfl) ?_
  refine sr_rd (x_extract rfl rfl) ?_
  refine sr_rd (x_extract rfl rfl) ?_
  refine sr_as ?_
  refine sr_as ?_
  refine sr_as ?_
  refine sr_nil ?_
  refine aw_kp [4, 5, 6] ?_
  refine aw_ret ?_
  show ∃ v H2, ResV _ _ _ _ _ _ v ∧ Sub H2 _ ∧ _
  exact ⟨_, H, resV rfl (.cons rfl (.cons rfl (.cons rfl .nil))), (by repeat (first | exact Sub.refl _ | apply Sub.drop)), ⟨rfl, rfl⟩⟩
theorem scut_s (l : List UInt8) (c : UInt8) (H : SHeap) (hl : l.length ≤ 1000000) : AC Tryd.prog W0 83 [.string (bs l), .string (bs [c])] H (fun v H' => ((∃ w r, l = w ++ c :: r ∧ c ∉ w ∧ v = .tuple #[.string (bs w), .string (bs r), .bool true]) ∨ (c ∉ l ∧ v = .tuple #[.string (bs l), .string (bs []), .bool false])) ∧ H' = H) := by
  by_cases h : c ∈ l
  · obtain ⟨w, r, rfl, hw⟩ := find_ex h
    rw [List.length_append, List.length_cons] at hl
    exact (cutY_s w r c hw H (by omega)).mono fun v H' ⟨h1, h2⟩ => ⟨.inl ⟨w, r, rfl, hw, h1⟩, h2⟩
  · exact (cutN_s l c h H).mono fun v H' ⟨h1, h2⟩ => ⟨.inr ⟨h, h1⟩, h2⟩
set_option maxRecDepth 100000 in
set_option maxHeartbeats 400000 in
theorem numb_s (l : List UInt8) (H : SHeap) (hl : l.length ≤ 1000000) : AC Tryd.prog W0 84 [.string (bs l)] H (fun v H' => ((∃ a, numP l = some a ∧ v = .tuple #[.int .i64 a, .bool true]) ∨ (numP l = none ∧ ∃ z, v = .tuple #[.int .i64 z, .bool false])) ∧ H' = H) := by
  refine ac_of Tryd.func84 rfl rfl rfl ?_
  refine aw_seq_region ?_
  refine sr_as ?_
  refine sr_as ?_
  refine sr_nil ?_
  refine aw_kp [0, 2, 3] ?_
  refine aw_seq_region ?_
  refine sr_mv ?_
  refine sr_d rfl (wtd_none rfl) rfl (opS_call rfl rfl rfl rfl cl26 (read_s l _ (by omega))) ?_
  rintro _ H ⟨rfl, rfl⟩
  cases hr : readN l
  · refine sr_mv ?_
    refine sr_rd (x_extract rfl rfl) ?_
    refine sr_rd (x_extract rfl rfl) ?_
    refine sr_as ?_
    refine sr_as ?_
    refine sr_nil ?_
    refine aw_kp [2, 3, 4, 5] ?_
    refine aw_seq_region ?_
    refine sr_mv ?_
    refine sr_mv ?_
    refine sr_mv ?_
    refine sr_sk ?_
    refine sr_sk ?_
    refine sr_rd (x_pick_f rfl rfl rfl) ?_
    refine sr_mv ?_
    refine sr_sk ?_
    refine sr_sk ?_
    refine sr_rd (x_pick_f rfl rfl rfl) ?_
    refine sr_as ?_
    refine sr_as ?_
    refine sr_nil ?_
    refine aw_kp [2, 3] ?_
    refine aw_ret ?_
    show ∃ v H2, ResV _ _ _ _ _ _ v ∧ Sub H2 _ ∧ _
    exact ⟨_, H, resV rfl (.cons rfl (.cons rfl .nil)), (by repeat (first | exact Sub.refl _ | apply Sub.drop)), (by first | exact ⟨.inl ⟨_, numP_y hr (by omega), rfl⟩, rfl⟩ | exact ⟨.inr ⟨numP_n hr (by omega), _, rfl⟩, rfl⟩ | exact ⟨.inr ⟨numP_0 hr, _, rfl⟩, rfl⟩)⟩
  · rename_i z
    simp only [Option.getD_some, Option.isSome_some]
    refine sr_mv ?_
    refine sr_rd (x_extract rfl rfl) ?_
    refine sr_rd (x_extract rfl rfl) ?_
    refine sr_as ?_
    refine sr_as ?_
    refine sr_nil ?_
    refine aw_kp [2, 3, 4, 5] ?_
    refine aw_seq_region ?_
    refine sr_mv ?_
    refine sr_mv ?_
    refine sr_mv ?_
    refine sr_ry (x_move rfl) ?_
    refine sr_cy (x_ge rfl rfl) (fun h1 => ?_) (fun h1 => ?_)
    · refine sr_rd (x_pick_t rfl rfl rfl) ?_
      refine sr_mv ?_
      refine sr_ry (x_move rfl) ?_
      refine sr_cy (x_le rfl rfl) (fun h2 => ?_) (fun h2 => ?_)
      · refine sr_rd (x_pick_t rfl rfl rfl) ?_
        refine sr_as ?_
        refine sr_as ?_
        refine sr_nil ?_
        refine aw_kp [2, 3] ?_
        refine aw_ret ?_
        show ∃ v H2, ResV _ _ _ _ _ _ v ∧ Sub H2 _ ∧ _
        exact ⟨_, H, resV rfl (.cons rfl (.cons rfl .nil)), (by repeat (first | exact Sub.refl _ | apply Sub.drop)), (by first | exact ⟨.inl ⟨_, numP_y hr (by omega), rfl⟩, rfl⟩ | exact ⟨.inr ⟨numP_n hr (by omega), _, rfl⟩, rfl⟩ | exact ⟨.inr ⟨numP_0 hr, _, rfl⟩, rfl⟩)⟩
      · refine sr_rd (x_pick_t rfl rfl rfl) ?_
        refine sr_as ?_
        refine sr_as ?_
        refine sr_nil ?_
        refine aw_kp [2, 3] ?_
        refine aw_ret ?_
        show ∃ v H2, ResV _ _ _ _ _ _ v ∧ Sub H2 _ ∧ _
        exact ⟨_, H, resV rfl (.cons rfl (.cons rfl .nil)), (by repeat (first | exact Sub.refl _ | apply Sub.drop)), (by first | exact ⟨.inl ⟨_, numP_y hr (by omega), rfl⟩, rfl⟩ | exact ⟨.inr ⟨numP_n hr (by omega), _, rfl⟩, rfl⟩ | exact ⟨.inr ⟨numP_0 hr, _, rfl⟩, rfl⟩)⟩
    · refine sr_rd (x_pick_t rfl rfl rfl) ?_
      refine sr_mv ?_
      refine sr_sk ?_
      refine sr_sk ?_
      refine sr_rd (x_pick_f rfl rfl rfl) ?_
      refine sr_as ?_
      refine sr_as ?_
      refine sr_nil ?_
      refine aw_kp [2, 3] ?_
      refine aw_ret ?_
      show ∃ v H2, ResV _ _ _ _ _ _ v ∧ Sub H2 _ ∧ _
      exact ⟨_, H, resV rfl (.cons rfl (.cons rfl .nil)), (by repeat (first | exact Sub.refl _ | apply Sub.drop)), (by first | exact ⟨.inl ⟨_, numP_y hr (by omega), rfl⟩, rfl⟩ | exact ⟨.inr ⟨numP_n hr (by omega), _, rfl⟩, rfl⟩ | exact ⟨.inr ⟨numP_0 hr, _, rfl⟩, rfl⟩)⟩
set_option maxRecDepth 100000 in
set_option maxHeartbeats 4000000 in
theorem part_s (w : List UInt8) (hl : w.length ≤ 10000) (H : SHeap) : AC Tryd.prog W0 69 [.string (bs w)] H (fun v H' => ((∃ p, partB w = some p ∧ v = .tuple #[Part.v p, .bool true]) ∨ (partB w = none ∧ ∃ p, v = .tuple #[Part.v p, .bool false])) ∧ H' = H) := by
  refine ac_of Tryd.func69 rfl rfl rfl ?_
  refine aw_seq_region ?_
  refine sr_new rfl (wtd_none rfl) rfl (x_alloc zr67 rfl) ?_
  intro r0_0 hr0_0 gr0_0
  refine sr_as ?_
  refine sr_nil ?_
  refine aw_kp [0, 2, 3] ?_
  refine aw_seq_region ?_
  refine sr_rd (x_build zr67 rfl fl67 Parts.auto Fill.auto) ?_
  refine sr_new rfl (wtd_none rfl) rfl (x_alloc zr67 rfl) ?_
  intro r1_1 hr1_1 gr1_1
  refine sr_x0 rfl (wtd_none rfl) (x_store sz67 rfl rfl rfl rfl rfl Repl.auto Spl.auto) ?_
  refine sr_nil ?_
  refine aw_kp [0, 2, 3, 4] ?_
  refine aw_seq_region ?_
  refine sr_mv ?_
  refine sr_d rfl (wtd_none rfl) rfl (opS_call rfl rfl rfl rfl cl83 (scut_s w 58 _ (by omega))) ?_
  rintro _ H9 ⟨hcut, rfl⟩
  obtain ⟨r, s, rfl, h58, rfl⟩ | ⟨h58, rfl⟩ := hcut
  · rw [List.length_append, List.length_cons] at hl
    refine sr_mv ?_
    refine sr_rd (x_extract rfl rfl) ?_
    refine sr_rd (x_extract rfl rfl) ?_
    refine sr_rd (x_extract rfl rfl) ?_
    refine sr_as ?_
    refine sr_as ?_
    refine sr_as ?_
    refine sr_nil ?_
    refine aw_kp [2, 3, 4, 5, 6, 7] ?_
    refine aw_seq_region ?_
    refine sr_mv ?_
    refine sr_d rfl (wtd_none rfl) rfl (opS_call rfl rfl rfl rfl cl83 (scut_s r 45 _ (by omega))) ?_
    rintro _ H9 ⟨hcut, rfl⟩
    obtain ⟨f, t, rfl, h45, rfl⟩ | ⟨h45, rfl⟩ := hcut
    · rw [List.length_append, List.length_cons] at hl
      refine sr_mv ?_
      refine sr_rd (x_extract rfl rfl) ?_
      refine sr_rd (x_extract rfl rfl) ?_
      refine sr_rd (x_extract rfl rfl) ?_
      refine sr_as ?_
      refine sr_as ?_
      refine sr_as ?_
      refine sr_nil ?_
      refine aw_kp [2, 3, 4, 6, 7, 8, 9, 10] ?_
      refine aw_seq_region ?_
      refine sr_as ?_
      refine sr_as ?_
      refine sr_as ?_
      refine sr_nil ?_
      refine aw_kp [2, 3, 4, 6, 7, 8, 9, 10, 11, 12, 13] ?_
      refine aw_seq_region ?_
      refine sr_mv ?_
      refine sr_d rfl (wtd_none rfl) rfl (opS_call rfl rfl rfl rfl cl84 (numb_s f _ (by omega))) ?_
      rintro _ H9 ⟨hnum, rfl⟩
      obtain ⟨a, hna, rfl⟩ | ⟨hna, a, rfl⟩ := hnum
      · refine sr_mv ?_
        refine sr_rd (x_extract rfl rfl) ?_
        refine sr_rd (x_extract rfl rfl) ?_
        refine sr_rd (x_fieldAddr fd67_0 rfl) ?_
        refine sr_x0 rfl (wtd_none rfl) (x_store sz3 rfl rfl rfl rfl rfl Repl.auto Spl.auto) ?_
        refine sr_as ?_
        refine sr_nil ?_
        refine aw_kp [2, 3, 4, 6, 7, 9, 10, 11, 12, 13] ?_
        refine aw_seq_region ?_
        refine sr_rd (x_fieldAddr fd67_0 rfl) ?_
        refine sr_rd (x_load ag3 rfl (cells_ext mauto Ext.auto)) ?_
        refine sr_rd (x_fieldAddr fd67_1 rfl) ?_
        refine sr_x0 rfl (wtd_none rfl) (x_store sz3 rfl rfl rfl rfl rfl Repl.auto Spl.auto) ?_
        refine sr_nil ?_
        refine aw_kp [2, 3, 4, 6, 7, 9, 10, 11, 12, 13] ?_
        refine aw_seq ?_
        refine aw_seq_region ?_
        refine sr_mv ?_
        refine sr_nil ?_
        refine aw_kp [2, 3, 4, 6, 7, 9, 11, 12, 13, 36] ?_
        refine aw_true rfl ?_
        refine aw_seq_region ?_
        refine sr_mv ?_
        refine sr_d rfl (wtd_none rfl) rfl (opS_call rfl rfl rfl rfl cl84 (numb_s t _ (by omega))) ?_
        rintro _ H9 ⟨hnum, rfl⟩
        obtain ⟨b, hnb, rfl⟩ | ⟨hnb, b, rfl⟩ := hnum
        · refine sr_mv ?_
          refine sr_rd (x_extract rfl rfl) ?_
          refine sr_rd (x_extract rfl rfl) ?_
          refine sr_rd (x_fieldAddr fd67_1 rfl) ?_
          refine sr_x0 rfl (wtd_none rfl) (x_store sz3 rfl rfl rfl rfl rfl Repl.auto Spl.auto) ?_
          refine sr_as ?_
          refine sr_nil ?_
          refine aw_kp [2, 3, 4, 6, 7, 11, 12, 13] ?_
          refine aw_region ?_
          refine sr_mv ?_
          refine sr_mv ?_
          refine sr_ry (x_fieldAddr fd67_1 rfl) ?_
          refine sr_ry (x_load ag3 rfl (cells_ext mauto Ext.auto)) ?_
          refine sr_ry (x_fieldAddr fd67_0 rfl) ?_
          refine sr_ry (x_load ag3 rfl (cells_ext mauto Ext.auto)) ?_
          refine sr_cy (x_ne rfl rfl) (fun h1 => ?_) (fun h1 => ?_)
          · refine sr_rd (x_pick_t rfl rfl rfl) ?_
            refine sr_as ?_
            refine sr_nil ?_
            show AW _ _ _ _ _ _ _
            refine aw_seq ?_
            refine aw_seq_region ?_
            refine sr_mv ?_
            refine sr_nil ?_
            refine aw_kp [2, 3, 4, 6, 11, 12, 13, 51] ?_
            refine aw_true rfl ?_
            refine aw_seq_region ?_
            refine sr_mv ?_
            refine sr_d rfl (wtd_none rfl) rfl (opS_call rfl rfl rfl rfl cl84 (numb_s s _ (by omega))) ?_
            rintro _ H9 ⟨hnum, rfl⟩
            obtain ⟨c, hnc, rfl⟩ | ⟨hnc, c, rfl⟩ := hnum
            · refine sr_mv ?_
              refine sr_rd (x_extract rfl rfl) ?_
              refine sr_rd (x_extract rfl rfl) ?_
              refine sr_rd (x_fieldAddr fd67_2 rfl) ?_
              refine sr_x0 rfl (wtd_none rfl) (x_store sz3 rfl rfl rfl rfl rfl Repl.auto Spl.auto) ?_
              refine sr_as ?_
              refine sr_nil ?_
              refine aw_kp [2, 3, 4, 11, 12, 13] ?_
              refine aw_region ?_
              refine sr_mv ?_
              refine sr_mv ?_
              refine sr_ry (x_fieldAddr fd67_2 rfl) ?_
              refine sr_ry (x_load ag3 rfl (cells_ext mauto Ext.auto)) ?_
              refine sr_cy (x_ne rfl rfl) (fun h2 => ?_) (fun h2 => ?_)
              · refine sr_rd (x_pick_t rfl rfl rfl) ?_
                refine sr_as ?_
                refine sr_nil ?_
                show AW _ _ _ _ _ _ _
                refine aw_seq_drX (G := (r0_0, .cells (Part.cells zeroP).toArray 67 (0, 0)) :: []) (X := (r1_1, .cells (Part.cells ⟨a, b, c⟩).toArray 67 (0, 0)) :: H) ⟨_, 14, 76, [[], [], [1], [1, 2], [1, 2, 3], [1, 2, 3, 4], [1, 2, 3, 4, 5], [1, 2, 3, 4, 5, 6], [1, 2, 3, 4, 5, 6, 7], [1, 2, 3, 4, 5, 6, 7, 8], [1, 2, 3, 4, 5, 6, 7, 8, 9], [1, 2, 3, 4, 5, 6, 7, 8, 9, 10], [0, 1, 2, 3, 4, 5, 6, 7, 8, 9, 10], [0, 1, 2, 3, 4, 5, 6, 7, 8, 9, 10, 11, 12]], [.light, .light, .light, .light, .light, .light, .light, .light, .light, .light, .call, .light, .eff, .light]⟩ (by kernel_rfl) rfl rfl mix Sub.autoP ?_
                refine dr_fix rfl rfl (wtd_none rfl) (x_loadN ag67 sz67 rfl (cells_ext mauto Ext.auto) rfl) ?_
                refine dr_l (x_move rfl) ?_
                refine dr_l (x_move rfl) ?_
                refine dr_y (x_move rfl) ?_
                refine dr_l (x_pick_t rfl rfl rfl) ?_
                refine dr_l (x_move rfl) ?_
                refine dr_y (x_move rfl) ?_
                refine dr_l (x_pick_t rfl rfl rfl) ?_
                refine dr_l (x_move rfl) ?_
                refine dr_fix rfl rfl (wtd_yes rfl rfl rfl) (x_loadN ag67 sz67 rfl (cells_ext mauto Ext.auto) rfl) ?_
                refine dr_callq0 rfl rfl (wtd_yes rfl rfl rfl) (opS_F rfl rfl rfl rfl cl40 ((pright_s ⟨a, b, c⟩ _))) (⟨_, rfl⟩) ?_
                rintro _ rfl
                generalize hd : decide (PRight ⟨a, b, c⟩) = d1
                cases d1
                · refine dr_l (x_pick_t rfl rfl rfl) ?_
                  refine dr_store0 rfl rfl (wtd_none rfl) (x_store sz67 rfl rfl rfl rfl rfl Repl.auto Spl.auto) (by first | rfl | simp [keys_append, keys_cons]) ?_
                  refine dr_l (x_assign rfl) ?_
                  refine dr_nilX ?_
                  refine aw_kp [2, 3] ?_
                  refine aw_ret ?_
                  show ∃ v H2, ResV _ _ _ _ _ _ v ∧ Sub H2 _ ∧ _
                  exact ⟨_, H, resV rfl (.cons (⟨_, rfl, fun hw => rd_loadVarN ag67 sz67 hw (cells_ext mauto Ext.auto) rfl⟩) (.cons rfl .nil)), Sub.autoP, ⟨.inr ⟨by rw [partB_11 h58 h45, fromP_ok hna, toP_ok hnb (by omega), stepP_ok hnc (by omega), mkP_n (of_decide_eq_false hd)], ⟨a, b, c⟩, rfl⟩, rfl⟩⟩
                · refine dr_l (x_pick_t rfl rfl rfl) ?_
                  refine dr_store0 rfl rfl (wtd_none rfl) (x_store sz67 rfl rfl rfl rfl rfl Repl.auto Spl.auto) (by first | rfl | simp [keys_append, keys_cons]) ?_
                  refine dr_l (x_assign rfl) ?_
                  refine dr_nilX ?_
                  refine aw_kp [2, 3] ?_
                  refine aw_ret ?_
                  show ∃ v H2, ResV _ _ _ _ _ _ v ∧ Sub H2 _ ∧ _
                  exact ⟨_, H, resV rfl (.cons (⟨_, rfl, fun hw => rd_loadVarN ag67 sz67 hw (cells_ext mauto Ext.auto) rfl⟩) (.cons rfl .nil)), Sub.autoP, ⟨.inl ⟨_, by rw [partB_11 h58 h45, fromP_ok hna, toP_ok hnb (by omega), stepP_ok hnc (by omega), mkP_y (of_decide_eq_true hd)], rfl⟩, rfl⟩⟩
              · refine sr_rd (x_pick_t rfl rfl rfl) ?_
                refine sr_as ?_
                refine sr_nil ?_
                show AW _ _ _ _ _ _ _
                refine aw_seq_drX (G := (r0_0, .cells (Part.cells zeroP).toArray 67 (0, 0)) :: []) (X := (r1_1, .cells (Part.cells ⟨a, b, c⟩).toArray 67 (0, 0)) :: H) ⟨_, 14, 76, [[], [], [1], [1, 2], [1, 2, 3], [1, 2, 3, 4], [1, 2, 3, 4, 5], [1, 2, 3, 4, 5, 6], [1, 2, 3, 4, 5, 6, 7], [1, 2, 3, 4, 5, 6, 7, 8], [1, 2, 3, 4, 5, 6, 7, 8, 9], [1, 2, 3, 4, 5, 6, 7, 8, 9, 10], [0, 1, 2, 3, 4, 5, 6, 7, 8, 9, 10], [0, 1, 2, 3, 4, 5, 6, 7, 8, 9, 10, 11, 12]], [.light, .light, .light, .light, .light, .light, .light, .light, .light, .light, .call, .light, .eff, .light]⟩ (by kernel_rfl) rfl rfl mix Sub.autoP ?_
                refine dr_fix rfl rfl (wtd_none rfl) (x_loadN ag67 sz67 rfl (cells_ext mauto Ext.auto) rfl) ?_
                refine dr_l (x_move rfl) ?_
                refine dr_l (x_move rfl) ?_
                refine dr_y (x_move rfl) ?_
                refine dr_l (x_pick_t rfl rfl rfl) ?_
                refine dr_l (x_move rfl) ?_
                refine dr_y (x_move rfl) ?_
                refine dr_l (x_pick_t rfl rfl rfl) ?_
                refine dr_l (x_move rfl) ?_
                refine dr_sk ?_
                refine dr_sk ?_
                refine dr_l (x_pick_f rfl rfl rfl) ?_
                refine dr_store0 rfl rfl (wtd_none rfl) (x_store sz67 rfl rfl rfl rfl rfl Repl.auto Spl.auto) (by first | rfl | simp [keys_append, keys_cons]) ?_
                refine dr_l (x_assign rfl) ?_
                refine dr_nilX ?_
                refine aw_kp [2, 3] ?_
                refine aw_ret ?_
                show ∃ v H2, ResV _ _ _ _ _ _ v ∧ Sub H2 _ ∧ _
                exact ⟨_, H, resV rfl (.cons (⟨_, rfl, fun hw => rd_loadVarN ag67 sz67 hw (cells_ext mauto Ext.auto) rfl⟩) (.cons rfl .nil)), Sub.autoP, ⟨.inr ⟨by rw [partB_11 h58 h45, fromP_ok hna, toP_ok hnb (by omega), stepP_eq hnc (by omega)], ⟨a, b, c⟩, rfl⟩, rfl⟩⟩
            · refine sr_mv ?_
              refine sr_rd (x_extract rfl rfl) ?_
              refine sr_rd (x_extract rfl rfl) ?_
              refine sr_rd (x_fieldAddr fd67_2 rfl) ?_
              refine sr_x0 rfl (wtd_none rfl) (x_store sz3 rfl rfl rfl rfl rfl Repl.auto Spl.auto) ?_
              refine sr_as ?_
              refine sr_nil ?_
              refine aw_kp [2, 3, 4, 11, 12, 13] ?_
              refine aw_region ?_
              refine sr_mv ?_
              refine sr_mv ?_
              refine sr_sk ?_
              refine sr_sk ?_
              refine sr_sk ?_
              refine sr_rd (x_pick_f rfl rfl rfl) ?_
              refine sr_as ?_
              refine sr_nil ?_
              show AW _ _ _ _ _ _ _
              refine aw_seq_drX (G := (r0_0, .cells (Part.cells zeroP).toArray 67 (0, 0)) :: []) (X := (r1_1, .cells (Part.cells ⟨a, b, c⟩).toArray 67 (0, 0)) :: H) ⟨_, 14, 76, [[], [], [1], [1, 2], [1, 2, 3], [1, 2, 3, 4], [1, 2, 3, 4, 5], [1, 2, 3, 4, 5, 6], [1, 2, 3, 4, 5, 6, 7], [1, 2, 3, 4, 5, 6, 7, 8], [1, 2, 3, 4, 5, 6, 7, 8, 9], [1, 2, 3, 4, 5, 6, 7, 8, 9, 10], [0, 1, 2, 3, 4, 5, 6, 7, 8, 9, 10], [0, 1, 2, 3, 4, 5, 6, 7, 8, 9, 10, 11, 12]], [.light, .light, .light, .light, .light, .light, .light, .light, .light, .light, .call, .light, .eff, .light]⟩ (by kernel_rfl) rfl rfl mix Sub.autoP ?_
              refine dr_fix rfl rfl (wtd_none rfl) (x_loadN ag67 sz67 rfl (cells_ext mauto Ext.auto) rfl) ?_
              refine dr_l (x_move rfl) ?_
              refine dr_l (x_move rfl) ?_
              refine dr_y (x_move rfl) ?_
              refine dr_l (x_pick_t rfl rfl rfl) ?_
              refine dr_l (x_move rfl) ?_
              refine dr_y (x_move rfl) ?_
              refine dr_l (x_pick_t rfl rfl rfl) ?_
              refine dr_l (x_move rfl) ?_
              refine dr_sk ?_
              refine dr_sk ?_
              refine dr_l (x_pick_f rfl rfl rfl) ?_
              refine dr_store0 rfl rfl (wtd_none rfl) (x_store sz67 rfl rfl rfl rfl rfl Repl.auto Spl.auto) (by first | rfl | simp [keys_append, keys_cons]) ?_
              refine dr_l (x_assign rfl) ?_
              refine dr_nilX ?_
              refine aw_kp [2, 3] ?_
              refine aw_ret ?_
              show ∃ v H2, ResV _ _ _ _ _ _ v ∧ Sub H2 _ ∧ _
              exact ⟨_, H, resV rfl (.cons (⟨_, rfl, fun hw => rd_loadVarN ag67 sz67 hw (cells_ext mauto Ext.auto) rfl⟩) (.cons rfl .nil)), Sub.autoP, ⟨.inr ⟨by rw [partB_11 h58 h45, fromP_ok hna, toP_ok hnb (by omega), stepP_bad hnc], ⟨a, b, c⟩, rfl⟩, rfl⟩⟩
          · refine sr_rd (x_pick_t rfl rfl rfl) ?_
            refine sr_as ?_
            refine sr_nil ?_
            show AW _ _ _ _ _ _ _
            refine aw_seq ?_
            refine aw_seq_region ?_
            refine sr_mv ?_
            refine sr_nil ?_
            refine aw_kp [2, 3, 4, 6, 11, 12, 13, 51] ?_
            refine aw_true rfl ?_
            refine aw_seq_region ?_
            refine sr_mv ?_
            refine sr_d rfl (wtd_none rfl) rfl (opS_call rfl rfl rfl rfl cl84 (numb_s s _ (by omega))) ?_
            rintro _ H9 ⟨hnum, rfl⟩
            obtain ⟨c, hnc, rfl⟩ | ⟨hnc, c, rfl⟩ := hnum
            · refine sr_mv ?_
              refine sr_rd (x_extract rfl rfl) ?_
              refine sr_rd (x_extract rfl rfl) ?_
              refine sr_rd (x_fieldAddr fd67_2 rfl) ?_
              refine sr_x0 rfl (wtd_none rfl) (x_store sz3 rfl rfl rfl rfl rfl Repl.auto Spl.auto) ?_
              refine sr_as ?_
              refine sr_nil ?_
              refine aw_kp [2, 3, 4, 11, 12, 13] ?_
              refine aw_region ?_
              refine sr_mv ?_
              refine sr_mv ?_
              refine sr_ry (x_fieldAddr fd67_2 rfl) ?_
              refine sr_ry (x_load ag3 rfl (cells_ext mauto Ext.auto)) ?_
              refine sr_cy (x_ne rfl rfl) (fun h3 => ?_) (fun h3 => ?_)
              · refine sr_rd (x_pick_t rfl rfl rfl) ?_
                refine sr_as ?_
                refine sr_nil ?_
                show AW _ _ _ _ _ _ _
                refine aw_seq_drX (G := (r0_0, .cells (Part.cells zeroP).toArray 67 (0, 0)) :: []) (X := (r1_1, .cells (Part.cells ⟨a, b, c⟩).toArray 67 (0, 0)) :: H) ⟨_, 14, 76, [[], [], [1], [1, 2], [1, 2, 3], [1, 2, 3, 4], [1, 2, 3, 4, 5], [1, 2, 3, 4, 5, 6], [1, 2, 3, 4, 5, 6, 7], [1, 2, 3, 4, 5, 6, 7, 8], [1, 2, 3, 4, 5, 6, 7, 8, 9], [1, 2, 3, 4, 5, 6, 7, 8, 9, 10], [0, 1, 2, 3, 4, 5, 6, 7, 8, 9, 10], [0, 1, 2, 3, 4, 5, 6, 7, 8, 9, 10, 11, 12]], [.light, .light, .light, .light, .light, .light, .light, .light, .light, .light, .call, .light, .eff, .light]⟩ (by kernel_rfl) rfl rfl mix Sub.autoP ?_
                refine dr_fix rfl rfl (wtd_none rfl) (x_loadN ag67 sz67 rfl (cells_ext mauto Ext.auto) rfl) ?_
                refine dr_l (x_move rfl) ?_
                refine dr_l (x_move rfl) ?_
                refine dr_y (x_move rfl) ?_
                refine dr_l (x_pick_t rfl rfl rfl) ?_
                refine dr_l (x_move rfl) ?_
                refine dr_sk ?_
                refine dr_l (x_pick_f rfl rfl rfl) ?_
                refine dr_l (x_move rfl) ?_
                refine dr_sk ?_
                refine dr_sk ?_
                refine dr_l (x_pick_f rfl rfl rfl) ?_
                refine dr_store0 rfl rfl (wtd_none rfl) (x_store sz67 rfl rfl rfl rfl rfl Repl.auto Spl.auto) (by first | rfl | simp [keys_append, keys_cons]) ?_
                refine dr_l (x_assign rfl) ?_
                refine dr_nilX ?_
                refine aw_kp [2, 3] ?_
                refine aw_ret ?_
                show ∃ v H2, ResV _ _ _ _ _ _ v ∧ Sub H2 _ ∧ _
                exact ⟨_, H, resV rfl (.cons (⟨_, rfl, fun hw => rd_loadVarN ag67 sz67 hw (cells_ext mauto Ext.auto) rfl⟩) (.cons rfl .nil)), Sub.autoP, ⟨.inr ⟨by rw [partB_11 h58 h45, fromP_ok hna, toP_eq hnb (by omega)], ⟨a, b, c⟩, rfl⟩, rfl⟩⟩
              · refine sr_rd (x_pick_t rfl rfl rfl) ?_
                refine sr_as ?_
                refine sr_nil ?_
                show AW _ _ _ _ _ _ _
                refine aw_seq_drX (G := (r0_0, .cells (Part.cells zeroP).toArray 67 (0, 0)) :: []) (X := (r1_1, .cells (Part.cells ⟨a, b, c⟩).toArray 67 (0, 0)) :: H) ⟨_, 14, 76, [[], [], [1], [1, 2], [1, 2, 3], [1, 2, 3, 4], [1, 2, 3, 4, 5], [1, 2, 3, 4, 5, 6], [1, 2, 3, 4, 5, 6, 7], [1, 2, 3, 4, 5, 6, 7, 8], [1, 2, 3, 4, 5, 6, 7, 8, 9], [1, 2, 3, 4, 5, 6, 7, 8, 9, 10], [0, 1, 2, 3, 4, 5, 6, 7, 8, 9, 10], [0, 1, 2, 3, 4, 5, 6, 7, 8, 9, 10, 11, 12]], [.light, .light, .light, .light, .light, .light, .light, .light, .light, .light, .call, .light, .eff, .light]⟩ (by kernel_rfl) rfl rfl mix Sub.autoP ?_
                refine dr_fix rfl rfl (wtd_none rfl) (x_loadN ag67 sz67 rfl (cells_ext mauto Ext.auto) rfl) ?_
                refine dr_l (x_move rfl) ?_
                refine dr_l (x_move rfl) ?_
                refine dr_y (x_move rfl) ?_
                refine dr_l (x_pick_t rfl rfl rfl) ?_
                refine dr_l (x_move rfl) ?_
                refine dr_sk ?_
                refine dr_l (x_pick_f rfl rfl rfl) ?_
                refine dr_l (x_move rfl) ?_
                refine dr_sk ?_
                refine dr_sk ?_
                refine dr_l (x_pick_f rfl rfl rfl) ?_
                refine dr_store0 rfl rfl (wtd_none rfl) (x_store sz67 rfl rfl rfl rfl rfl Repl.auto Spl.auto) (by first | rfl | simp [keys_append, keys_cons]) ?_
                refine dr_l (x_assign rfl) ?_
                refine dr_nilX ?_
                refine aw_kp [2, 3] ?_
                refine aw_ret ?_
                show ∃ v H2, ResV _ _ _ _ _ _ v ∧ Sub H2 _ ∧ _
                exact ⟨_, H, resV rfl (.cons (⟨_, rfl, fun hw => rd_loadVarN ag67 sz67 hw (cells_ext mauto Ext.auto) rfl⟩) (.cons rfl .nil)), Sub.autoP, ⟨.inr ⟨by rw [partB_11 h58 h45, fromP_ok hna, toP_eq hnb (by omega)], ⟨a, b, c⟩, rfl⟩, rfl⟩⟩
            · refine sr_mv ?_
              refine sr_rd (x_extract rfl rfl) ?_
              refine sr_rd (x_extract rfl rfl) ?_
              refine sr_rd (x_fieldAddr fd67_2 rfl) ?_
              refine sr_x0 rfl (wtd_none rfl) (x_store sz3 rfl rfl rfl rfl rfl Repl.auto Spl.auto) ?_
              refine sr_as ?_
              refine sr_nil ?_
              refine aw_kp [2, 3, 4, 11, 12, 13] ?_
              refine aw_region ?_
              refine sr_mv ?_
              refine sr_mv ?_
              refine sr_sk ?_
              refine sr_sk ?_
              refine sr_sk ?_
              refine sr_rd (x_pick_f rfl rfl rfl) ?_
              refine sr_as ?_
              refine sr_nil ?_
              show AW _ _ _ _ _ _ _
              refine aw_seq_drX (G := (r0_0, .cells (Part.cells zeroP).toArray 67 (0, 0)) :: []) (X := (r1_1, .cells (Part.cells ⟨a, b, c⟩).toArray 67 (0, 0)) :: H) ⟨_, 14, 76, [[], [], [1], [1, 2], [1, 2, 3], [1, 2, 3, 4], [1, 2, 3, 4, 5], [1, 2, 3, 4, 5, 6], [1, 2, 3, 4, 5, 6, 7], [1, 2, 3, 4, 5, 6, 7, 8], [1, 2, 3, 4, 5, 6, 7, 8, 9], [1, 2, 3, 4, 5, 6, 7, 8, 9, 10], [0, 1, 2, 3, 4, 5, 6, 7, 8, 9, 10], [0, 1, 2, 3, 4, 5, 6, 7, 8, 9, 10, 11, 12]], [.light, .light, .light, .light, .light, .light, .light, .light, .light, .light, .call, .light, .eff, .light]⟩ (by kernel_rfl) rfl rfl mix Sub.autoP ?_
              refine dr_fix rfl rfl (wtd_none rfl) (x_loadN ag67 sz67 rfl (cells_ext mauto Ext.auto) rfl) ?_
              refine dr_l (x_move rfl) ?_
              refine dr_l (x_move rfl) ?_
              refine dr_y (x_move rfl) ?_
              refine dr_l (x_pick_t rfl rfl rfl) ?_
              refine dr_l (x_move rfl) ?_
              refine dr_sk ?_
              refine dr_l (x_pick_f rfl rfl rfl) ?_
              refine dr_l (x_move rfl) ?_
              refine dr_sk ?_
              refine dr_sk ?_
              refine dr_l (x_pick_f rfl rfl rfl) ?_
              refine dr_store0 rfl rfl (wtd_none rfl) (x_store sz67 rfl rfl rfl rfl rfl Repl.auto Spl.auto) (by first | rfl | simp [keys_append, keys_cons]) ?_
              refine dr_l (x_assign rfl) ?_
              refine dr_nilX ?_
              refine aw_kp [2, 3] ?_
              refine aw_ret ?_
              show ∃ v H2, ResV _ _ _ _ _ _ v ∧ Sub H2 _ ∧ _
              exact ⟨_, H, resV rfl (.cons (⟨_, rfl, fun hw => rd_loadVarN ag67 sz67 hw (cells_ext mauto Ext.auto) rfl⟩) (.cons rfl .nil)), Sub.autoP, ⟨.inr ⟨by rw [partB_11 h58 h45, fromP_ok hna, toP_eq hnb (by omega)], ⟨a, b, c⟩, rfl⟩, rfl⟩⟩
        · refine sr_mv ?_
          refine sr_rd (x_extract rfl rfl) ?_
          refine sr_rd (x_extract rfl rfl) ?_
          refine sr_rd (x_fieldAddr fd67_1 rfl) ?_
          refine sr_x0 rfl (wtd_none rfl) (x_store sz3 rfl rfl rfl rfl rfl Repl.auto Spl.auto) ?_
          refine sr_as ?_
          refine sr_nil ?_
          refine aw_kp [2, 3, 4, 6, 7, 11, 12, 13] ?_
          refine aw_region ?_
          refine sr_mv ?_
          refine sr_mv ?_
          refine sr_sk ?_
          refine sr_sk ?_
          refine sr_sk ?_
          refine sr_sk ?_
          refine sr_sk ?_
          refine sr_rd (x_pick_f rfl rfl rfl) ?_
          refine sr_as ?_
          refine sr_nil ?_
          show AW _ _ _ _ _ _ _
          refine aw_seq ?_
          refine aw_seq_region ?_
          refine sr_mv ?_
          refine sr_nil ?_
          refine aw_kp [2, 3, 4, 6, 11, 12, 13, 51] ?_
          refine aw_true rfl ?_
          refine aw_seq_region ?_
          refine sr_mv ?_
          refine sr_d rfl (wtd_none rfl) rfl (opS_call rfl rfl rfl rfl cl84 (numb_s s _ (by omega))) ?_
          rintro _ H9 ⟨hnum, rfl⟩
          obtain ⟨c, hnc, rfl⟩ | ⟨hnc, c, rfl⟩ := hnum
          · refine sr_mv ?_
            refine sr_rd (x_extract rfl rfl) ?_
            refine sr_rd (x_extract rfl rfl) ?_
            refine sr_rd (x_fieldAddr fd67_2 rfl) ?_
            refine sr_x0 rfl (wtd_none rfl) (x_store sz3 rfl rfl rfl rfl rfl Repl.auto Spl.auto) ?_
            refine sr_as ?_
            refine sr_nil ?_
            refine aw_kp [2, 3, 4, 11, 12, 13] ?_
            refine aw_region ?_
            refine sr_mv ?_
            refine sr_mv ?_
            refine sr_ry (x_fieldAddr fd67_2 rfl) ?_
            refine sr_ry (x_load ag3 rfl (cells_ext mauto Ext.auto)) ?_
            refine sr_cy (x_ne rfl rfl) (fun h4 => ?_) (fun h4 => ?_)
            · refine sr_rd (x_pick_t rfl rfl rfl) ?_
              refine sr_as ?_
              refine sr_nil ?_
              show AW _ _ _ _ _ _ _
              refine aw_seq_drX (G := (r0_0, .cells (Part.cells zeroP).toArray 67 (0, 0)) :: []) (X := (r1_1, .cells (Part.cells ⟨a, b, c⟩).toArray 67 (0, 0)) :: H) ⟨_, 14, 76, [[], [], [1], [1, 2], [1, 2, 3], [1, 2, 3, 4], [1, 2, 3, 4, 5], [1, 2, 3, 4, 5, 6], [1, 2, 3, 4, 5, 6, 7], [1, 2, 3, 4, 5, 6, 7, 8], [1, 2, 3, 4, 5, 6, 7, 8, 9], [1, 2, 3, 4, 5, 6, 7, 8, 9, 10], [0, 1, 2, 3, 4, 5, 6, 7, 8, 9, 10], [0, 1, 2, 3, 4, 5, 6, 7, 8, 9, 10, 11, 12]], [.light, .light, .light, .light, .light, .light, .light, .light, .light, .light, .call, .light, .eff, .light]⟩ (by kernel_rfl) rfl rfl mix Sub.autoP ?_
              refine dr_fix rfl rfl (wtd_none rfl) (x_loadN ag67 sz67 rfl (cells_ext mauto Ext.auto) rfl) ?_
              refine dr_l (x_move rfl) ?_
              refine dr_l (x_move rfl) ?_
              refine dr_y (x_move rfl) ?_
              refine dr_l (x_pick_t rfl rfl rfl) ?_
              refine dr_l (x_move rfl) ?_
              refine dr_sk ?_
              refine dr_l (x_pick_f rfl rfl rfl) ?_
              refine dr_l (x_move rfl) ?_
              refine dr_sk ?_
              refine dr_sk ?_
              refine dr_l (x_pick_f rfl rfl rfl) ?_
              refine dr_store0 rfl rfl (wtd_none rfl) (x_store sz67 rfl rfl rfl rfl rfl Repl.auto Spl.auto) (by first | rfl | simp [keys_append, keys_cons]) ?_
              refine dr_l (x_assign rfl) ?_
              refine dr_nilX ?_
              refine aw_kp [2, 3] ?_
              refine aw_ret ?_
              show ∃ v H2, ResV _ _ _ _ _ _ v ∧ Sub H2 _ ∧ _
              exact ⟨_, H, resV rfl (.cons (⟨_, rfl, fun hw => rd_loadVarN ag67 sz67 hw (cells_ext mauto Ext.auto) rfl⟩) (.cons rfl .nil)), Sub.autoP, ⟨.inr ⟨by rw [partB_11 h58 h45, fromP_ok hna, toP_bad hnb], ⟨a, b, c⟩, rfl⟩, rfl⟩⟩
            · refine sr_rd (x_pick_t rfl rfl rfl) ?_
              refine sr_as ?_
              refine sr_nil ?_
              show AW _ _ _ _ _ _ _
              refine aw_seq_drX (G := (r0_0, .cells (Part.cells zeroP).toArray 67 (0, 0)) :: []) (X := (r1_1, .cells (Part.cells ⟨a, b, c⟩).toArray 67 (0, 0)) :: H) ⟨_, 14, 76, [[], [], [1], [1, 2], [1, 2, 3], [1, 2, 3, 4], [1, 2, 3, 4, 5], [1, 2, 3, 4, 5, 6], [1, 2, 3, 4, 5, 6, 7], [1, 2, 3, 4, 5, 6, 7, 8], [1, 2, 3, 4, 5, 6, 7, 8, 9], [1, 2, 3, 4, 5, 6, 7, 8, 9, 10], [0, 1, 2, 3, 4, 5, 6, 7, 8, 9, 10], [0, 1, 2, 3, 4, 5, 6, 7, 8, 9, 10, 11, 12]], [.light, .light, .light, .light, .light, .light, .light, .light, .light, .light, .call, .light, .eff, .light]⟩ (by kernel_rfl) rfl rfl mix Sub.autoP ?_
              refine dr_fix rfl rfl (wtd_none rfl) (x_loadN ag67 sz67 rfl (cells_ext mauto Ext.auto) rfl) ?_
              refine dr_l (x_move rfl) ?_
              refine dr_l (x_move rfl) ?_
              refine dr_y (x_move rfl) ?_
              refine dr_l (x_pick_t rfl rfl rfl) ?_
              refine dr_l (x_move rfl) ?_
              refine dr_sk ?_
              refine dr_l (x_pick_f rfl rfl rfl) ?_
              refine dr_l (x_move rfl) ?_
              refine dr_sk ?_
              refine dr_sk ?_
              refine dr_l (x_pick_f rfl rfl rfl) ?_
              refine dr_store0 rfl rfl (wtd_none rfl) (x_store sz67 rfl rfl rfl rfl rfl Repl.auto Spl.auto) (by first | rfl | simp [keys_append, keys_cons]) ?_
              refine dr_l (x_assign rfl) ?_
              refine dr_nilX ?_
              refine aw_kp [2, 3] ?_
              refine aw_ret ?_
              show ∃ v H2, ResV _ _ _ _ _ _ v ∧ Sub H2 _ ∧ _
              exact ⟨_, H, resV rfl (.cons (⟨_, rfl, fun hw => rd_loadVarN ag67 sz67 hw (cells_ext mauto Ext.auto) rfl⟩) (.cons rfl .nil)), Sub.autoP, ⟨.inr ⟨by rw [partB_11 h58 h45, fromP_ok hna, toP_bad hnb], ⟨a, b, c⟩, rfl⟩, rfl⟩⟩
          · refine sr_mv ?_
            refine sr_rd (x_extract rfl rfl) ?_
            refine sr_rd (x_extract rfl rfl) ?_
            refine sr_rd (x_fieldAddr fd67_2 rfl) ?_
            refine sr_x0 rfl (wtd_none rfl) (x_store sz3 rfl rfl rfl rfl rfl Repl.auto Spl.auto) ?_
            refine sr_as ?_
            refine sr_nil ?_
            refine aw_kp [2, 3, 4, 11, 12, 13] ?_
            refine aw_region ?_
            refine sr_mv ?_
            refine sr_mv ?_
            refine sr_sk ?_
            refine sr_sk ?_
            refine sr_sk ?_
            refine sr_rd (x_pick_f rfl rfl rfl) ?_
            refine sr_as ?_
            refine sr_nil ?_
            show AW _ _ _ _ _ _ _
            refine aw_seq_drX (G := (r0_0, .cells (Part.cells zeroP).toArray 67 (0, 0)) :: []) (X := (r1_1, .cells (Part.cells ⟨a, b, c⟩).toArray 67 (0, 0)) :: H) ⟨_, 14, 76, [[], [], [1], [1, 2], [1, 2, 3], [1, 2, 3, 4], [1, 2, 3, 4, 5], [1, 2, 3, 4, 5, 6], [1, 2, 3, 4, 5, 6, 7], [1, 2, 3, 4, 5, 6, 7, 8], [1, 2, 3, 4, 5, 6, 7, 8, 9], [1, 2, 3, 4, 5, 6, 7, 8, 9, 10], [0, 1, 2, 3, 4, 5, 6, 7, 8, 9, 10], [0, 1, 2, 3, 4, 5, 6, 7, 8, 9, 10, 11, 12]], [.light, .light, .light, .light, .light, .light, .light, .light, .light, .light, .call, .light, .eff, .light]⟩ (by kernel_rfl) rfl rfl mix Sub.autoP ?_
            refine dr_fix rfl rfl (wtd_none rfl) (x_loadN ag67 sz67 rfl (cells_ext mauto Ext.auto) rfl) ?_
            refine dr_l (x_move rfl) ?_
            refine dr_l (x_move rfl) ?_
            refine dr_y (x_move rfl) ?_
            refine dr_l (x_pick_t rfl rfl rfl) ?_
            refine dr_l (x_move rfl) ?_
            refine dr_sk ?_
            refine dr_l (x_pick_f rfl rfl rfl) ?_
            refine dr_l (x_move rfl) ?_
            refine dr_sk ?_
            refine dr_sk ?_
            refine dr_l (x_pick_f rfl rfl rfl) ?_
            refine dr_store0 rfl rfl (wtd_none rfl) (x_store sz67 rfl rfl rfl rfl rfl Repl.auto Spl.auto) (by first | rfl | simp [keys_append, keys_cons]) ?_
            refine dr_l (x_assign rfl) ?_
            refine dr_nilX ?_
            refine aw_kp [2, 3] ?_
            refine aw_ret ?_
            show ∃ v H2, ResV _ _ _ _ _ _ v ∧ Sub H2 _ ∧ _
            exact ⟨_, H, resV rfl (.cons (⟨_, rfl, fun hw => rd_loadVarN ag67 sz67 hw (cells_ext mauto Ext.auto) rfl⟩) (.cons rfl .nil)), Sub.autoP, ⟨.inr ⟨by rw [partB_11 h58 h45, fromP_ok hna, toP_bad hnb], ⟨a, b, c⟩, rfl⟩, rfl⟩⟩
      · refine sr_mv ?_
        refine sr_rd (x_extract rfl rfl) ?_
        refine sr_rd (x_extract rfl rfl) ?_
        refine sr_rd (x_fieldAddr fd67_0 rfl) ?_
        refine sr_x0 rfl (wtd_none rfl) (x_store sz3 rfl rfl rfl rfl rfl Repl.auto Spl.auto) ?_
        refine sr_as ?_
        refine sr_nil ?_
        refine aw_kp [2, 3, 4, 6, 7, 9, 10, 11, 12, 13] ?_
        refine aw_seq_region ?_
        refine sr_rd (x_fieldAddr fd67_0 rfl) ?_
        refine sr_rd (x_load ag3 rfl (cells_ext mauto Ext.auto)) ?_
        refine sr_rd (x_fieldAddr fd67_1 rfl) ?_
        refine sr_x0 rfl (wtd_none rfl) (x_store sz3 rfl rfl rfl rfl rfl Repl.auto Spl.auto) ?_
        refine sr_nil ?_
        refine aw_kp [2, 3, 4, 6, 7, 9, 10, 11, 12, 13] ?_
        refine aw_seq ?_
        refine aw_seq_region ?_
        refine sr_mv ?_
        refine sr_nil ?_
        refine aw_kp [2, 3, 4, 6, 7, 9, 11, 12, 13, 36] ?_
        refine aw_true rfl ?_
        refine aw_seq_region ?_
        refine sr_mv ?_
        refine sr_d rfl (wtd_none rfl) rfl (opS_call rfl rfl rfl rfl cl84 (numb_s t _ (by omega))) ?_
        rintro _ H9 ⟨hnum, rfl⟩
        obtain ⟨b, hnb, rfl⟩ | ⟨hnb, b, rfl⟩ := hnum
        · refine sr_mv ?_
          refine sr_rd (x_extract rfl rfl) ?_
          refine sr_rd (x_extract rfl rfl) ?_
          refine sr_rd (x_fieldAddr fd67_1 rfl) ?_
          refine sr_x0 rfl (wtd_none rfl) (x_store sz3 rfl rfl rfl rfl rfl Repl.auto Spl.auto) ?_
          refine sr_as ?_
          refine sr_nil ?_
          refine aw_kp [2, 3, 4, 6, 7, 11, 12, 13] ?_
          refine aw_region ?_
          refine sr_mv ?_
          refine sr_mv ?_
          refine sr_ry (x_fieldAddr fd67_1 rfl) ?_
          refine sr_ry (x_load ag3 rfl (cells_ext mauto Ext.auto)) ?_
          refine sr_ry (x_fieldAddr fd67_0 rfl) ?_
          refine sr_ry (x_load ag3 rfl (cells_ext mauto Ext.auto)) ?_
          refine sr_cy (x_ne rfl rfl) (fun h5 => ?_) (fun h5 => ?_)
          · refine sr_rd (x_pick_t rfl rfl rfl) ?_
            refine sr_as ?_
            refine sr_nil ?_
            show AW _ _ _ _ _ _ _
            refine aw_seq ?_
            refine aw_seq_region ?_
            refine sr_mv ?_
            refine sr_nil ?_
            refine aw_kp [2, 3, 4, 6, 11, 12, 13, 51] ?_
            refine aw_true rfl ?_
            refine aw_seq_region ?_
            refine sr_mv ?_
            refine sr_d rfl (wtd_none rfl) rfl (opS_call rfl rfl rfl rfl cl84 (numb_s s _ (by omega))) ?_
            rintro _ H9 ⟨hnum, rfl⟩
            obtain ⟨c, hnc, rfl⟩ | ⟨hnc, c, rfl⟩ := hnum
            · refine sr_mv ?_
              refine sr_rd (x_extract rfl rfl) ?_
              refine sr_rd (x_extract rfl rfl) ?_
              refine sr_rd (x_fieldAddr fd67_2 rfl) ?_
              refine sr_x0 rfl (wtd_none rfl) (x_store sz3 rfl rfl rfl rfl rfl Repl.auto Spl.auto) ?_
              refine sr_as ?_
              refine sr_nil ?_
              refine aw_kp [2, 3, 4, 11, 12, 13] ?_
              refine aw_region ?_
              refine sr_mv ?_
              refine sr_mv ?_
              refine sr_ry (x_fieldAddr fd67_2 rfl) ?_
              refine sr_ry (x_load ag3 rfl (cells_ext mauto Ext.auto)) ?_
              refine sr_cy (x_ne rfl rfl) (fun h6 => ?_) (fun h6 => ?_)
              · refine sr_rd (x_pick_t rfl rfl rfl) ?_
                refine sr_as ?_
                refine sr_nil ?_
                show AW _ _ _ _ _ _ _
                refine aw_seq_drX (G := (r0_0, .cells (Part.cells zeroP).toArray 67 (0, 0)) :: []) (X := (r1_1, .cells (Part.cells ⟨a, b, c⟩).toArray 67 (0, 0)) :: H) ⟨_, 14, 76, [[], [], [1], [1, 2], [1, 2, 3], [1, 2, 3, 4], [1, 2, 3, 4, 5], [1, 2, 3, 4, 5, 6], [1, 2, 3, 4, 5, 6, 7], [1, 2, 3, 4, 5, 6, 7, 8], [1, 2, 3, 4, 5, 6, 7, 8, 9], [1, 2, 3, 4, 5, 6, 7, 8, 9, 10], [0, 1, 2, 3, 4, 5, 6, 7, 8, 9, 10], [0, 1, 2, 3, 4, 5, 6, 7, 8, 9, 10, 11, 12]], [.light, .light, .light, .light, .light, .light, .light, .light, .light, .light, .call, .light, .eff, .light]⟩ (by kernel_rfl) rfl rfl mix Sub.autoP ?_
                refine dr_fix rfl rfl (wtd_none rfl) (x_loadN ag67 sz67 rfl (cells_ext mauto Ext.auto) rfl) ?_
                refine dr_l (x_move rfl) ?_
                refine dr_l (x_move rfl) ?_
                refine dr_sk ?_
                refine dr_l (x_pick_f rfl rfl rfl) ?_
                refine dr_l (x_move rfl) ?_
                refine dr_sk ?_
                refine dr_l (x_pick_f rfl rfl rfl) ?_
                refine dr_l (x_move rfl) ?_
                refine dr_sk ?_
                refine dr_sk ?_
                refine dr_l (x_pick_f rfl rfl rfl) ?_
                refine dr_store0 rfl rfl (wtd_none rfl) (x_store sz67 rfl rfl rfl rfl rfl Repl.auto Spl.auto) (by first | rfl | simp [keys_append, keys_cons]) ?_
                refine dr_l (x_assign rfl) ?_
                refine dr_nilX ?_
                refine aw_kp [2, 3] ?_
                refine aw_ret ?_
                show ∃ v H2, ResV _ _ _ _ _ _ v ∧ Sub H2 _ ∧ _
                exact ⟨_, H, resV rfl (.cons (⟨_, rfl, fun hw => rd_loadVarN ag67 sz67 hw (cells_ext mauto Ext.auto) rfl⟩) (.cons rfl .nil)), Sub.autoP, ⟨.inr ⟨by rw [partB_11 h58 h45, fromP_bad hna], ⟨a, b, c⟩, rfl⟩, rfl⟩⟩
              · refine sr_rd (x_pick_t rfl rfl rfl) ?_
                refine sr_as ?_
                refine sr_nil ?_
                show AW _ _ _ _ _ _ _
                refine aw_seq_drX (G := (r0_0, .cells (Part.cells zeroP).toArray 67 (0, 0)) :: []) (X := (r1_1, .cells (Part.cells ⟨a, b, c⟩).toArray 67 (0, 0)) :: H) ⟨_, 14, 76, [[], [], [1], [1, 2], [1, 2, 3], [1, 2, 3, 4], [1, 2, 3, 4, 5], [1, 2, 3, 4, 5, 6], [1, 2, 3, 4, 5, 6, 7], [1, 2, 3, 4, 5, 6, 7, 8], [1, 2, 3, 4, 5, 6, 7, 8, 9], [1, 2, 3, 4, 5, 6, 7, 8, 9, 10], [0, 1, 2, 3, 4, 5, 6, 7, 8, 9, 10], [0, 1, 2, 3, 4, 5, 6, 7, 8, 9, 10, 11, 12]], [.light, .light, .light, .light, .light, .light, .light, .light, .light, .light, .call, .light, .eff, .light]⟩ (by kernel_rfl) rfl rfl mix Sub.autoP ?_
                refine dr_fix rfl rfl (wtd_none rfl) (x_loadN ag67 sz67 rfl (cells_ext mauto Ext.auto) rfl) ?_
                refine dr_l (x_move rfl) ?_
                refine dr_l (x_move rfl) ?_
                refine dr_sk ?_
                refine dr_l (x_pick_f rfl rfl rfl) ?_
                refine dr_l (x_move rfl) ?_
                refine dr_sk ?_
                refine dr_l (x_pick_f rfl rfl rfl) ?_
                refine dr_l (x_move rfl) ?_
                refine dr_sk ?_
                refine dr_sk ?_
                refine dr_l (x_pick_f rfl rfl rfl) ?_
                refine dr_store0 rfl rfl (wtd_none rfl) (x_store sz67 rfl rfl rfl rfl rfl Repl.auto Spl.auto) (by first | rfl | simp [keys_append, keys_cons]) ?_
                refine dr_l (x_assign rfl) ?_
                refine dr_nilX ?_
                refine aw_kp [2, 3] ?_
                refine aw_ret ?_
                show ∃ v H2, ResV _ _ _ _ _ _ v ∧ Sub H2 _ ∧ _
                exact ⟨_, H, resV rfl (.cons (⟨_, rfl, fun hw => rd_loadVarN ag67 sz67 hw (cells_ext mauto Ext.auto) rfl⟩) (.cons rfl .nil)), Sub.autoP, ⟨.inr ⟨by rw [partB_11 h58 h45, fromP_bad hna], ⟨a, b, c⟩, rfl⟩, rfl⟩⟩
            · refine sr_mv ?_
              refine sr_rd (x_extract rfl rfl) ?_
              refine sr_rd (x_extract rfl rfl) ?_
              refine sr_rd (x_fieldAddr fd67_2 rfl) ?_
              refine sr_x0 rfl (wtd_none rfl) (x_store sz3 rfl rfl rfl rfl rfl Repl.auto Spl.auto) ?_
              refine sr_as ?_
              refine sr_nil ?_
              refine aw_kp [2, 3, 4, 11, 12, 13] ?_
              refine aw_region ?_
              refine sr_mv ?_
              refine sr_mv ?_
              refine sr_sk ?_
              refine sr_sk ?_
              refine sr_sk ?_
              refine sr_rd (x_pick_f rfl rfl rfl) ?_
              refine sr_as ?_
              refine sr_nil ?_
              show AW _ _ _ _ _ _ _
              refine aw_seq_drX (G := (r0_0, .cells (Part.cells zeroP).toArray 67 (0, 0)) :: []) (X := (r1_1, .cells (Part.cells ⟨a, b, c⟩).toArray 67 (0, 0)) :: H) ⟨_, 14, 76, [[], [], [1], [1, 2], [1, 2, 3], [1, 2, 3, 4], [1, 2, 3, 4, 5], [1, 2, 3, 4, 5, 6], [1, 2, 3, 4, 5, 6, 7], [1, 2, 3, 4, 5, 6, 7, 8], [1, 2, 3, 4, 5, 6, 7, 8, 9], [1, 2, 3, 4, 5, 6, 7, 8, 9, 10], [0, 1, 2, 3, 4, 5, 6, 7, 8, 9, 10], [0, 1, 2, 3, 4, 5, 6, 7, 8, 9, 10, 11, 12]], [.light, .light, .light, .light, .light, .light, .light, .light, .light, .light, .call, .light, .eff, .light]⟩ (by kernel_rfl) rfl rfl mix Sub.autoP ?_
              refine dr_fix rfl rfl (wtd_none rfl) (x_loadN ag67 sz67 rfl (cells_ext mauto Ext.auto) rfl) ?_
              refine dr_l (x_move rfl) ?_
              refine dr_l (x_move rfl) ?_
              refine dr_sk ?_
              refine dr_l (x_pick_f rfl rfl rfl) ?_
              refine dr_l (x_move rfl) ?_
              refine dr_sk ?_
              refine dr_l (x_pick_f rfl rfl rfl) ?_
              refine dr_l (x_move rfl) ?_
              refine dr_sk ?_
              refine dr_sk ?_
              refine dr_l (x_pick_f rfl rfl rfl) ?_
              refine dr_store0 rfl rfl (wtd_none rfl) (x_store sz67 rfl rfl rfl rfl rfl Repl.auto Spl.auto) (by first | rfl | simp [keys_append, keys_cons]) ?_
              refine dr_l (x_assign rfl) ?_
              refine dr_nilX ?_
              refine aw_kp [2, 3] ?_
              refine aw_ret ?_
              show ∃ v H2, ResV _ _ _ _ _ _ v ∧ Sub H2 _ ∧ _
              exact ⟨_, H, resV rfl (.cons (⟨_, rfl, fun hw => rd_loadVarN ag67 sz67 hw (cells_ext mauto Ext.auto) rfl⟩) (.cons rfl .nil)), Sub.autoP, ⟨.inr ⟨by rw [partB_11 h58 h45, fromP_bad hna], ⟨a, b, c⟩, rfl⟩, rfl⟩⟩
          · refine sr_rd (x_pick_t rfl rfl rfl) ?_
            refine sr_as ?_
            refine sr_nil ?_
            show AW _ _ _ _ _ _ _
            refine aw_seq ?_
            refine aw_seq_region ?_
            refine sr_mv ?_
            refine sr_nil ?_
            refine aw_kp [2, 3, 4, 6, 11, 12, 13, 51] ?_
            refine aw_true rfl ?_
            refine aw_seq_region ?_
            refine sr_mv ?_
            refine sr_d rfl (wtd_none rfl) rfl (opS_call rfl rfl rfl rfl cl84 (numb_s s _ (by omega))) ?_
            rintro _ H9 ⟨hnum, rfl⟩
            obtain ⟨c, hnc, rfl⟩ | ⟨hnc, c, rfl⟩ := hnum
            · refine sr_mv ?_
              refine sr_rd (x_extract rfl rfl) ?_
              refine sr_rd (x_extract rfl rfl) ?_
              refine sr_rd (x_fieldAddr fd67_2 rfl) ?_
              refine sr_x0 rfl (wtd_none rfl) (x_store sz3 rfl rfl rfl rfl rfl Repl.auto Spl.auto) ?_
              refine sr_as ?_
              refine sr_nil ?_
              refine aw_kp [2, 3, 4, 11, 12, 13] ?_
              refine aw_region ?_
              refine sr_mv ?_
              refine sr_mv ?_
              refine sr_ry (x_fieldAddr fd67_2 rfl) ?_
              refine sr_ry (x_load ag3 rfl (cells_ext mauto Ext.auto)) ?_
              refine sr_cy (x_ne rfl rfl) (fun h7 => ?_) (fun h7 => ?_)
              · refine sr_rd (x_pick_t rfl rfl rfl) ?_
                refine sr_as ?_
                refine sr_nil ?_
                show AW _ _ _ _ _ _ _
                refine aw_seq_drX (G := (r0_0, .cells (Part.cells zeroP).toArray 67 (0, 0)) :: []) (X := (r1_1, .cells (Part.cells ⟨a, b, c⟩).toArray 67 (0, 0)) :: H) ⟨_, 14, 76, [[], [], [1], [1, 2], [1, 2, 3], [1, 2, 3, 4], [1, 2, 3, 4, 5], [1, 2, 3, 4, 5, 6], [1, 2, 3, 4, 5, 6, 7], [1, 2, 3, 4, 5, 6, 7, 8], [1, 2, 3, 4, 5, 6, 7, 8, 9], [1, 2, 3, 4, 5, 6, 7, 8, 9, 10], [0, 1, 2, 3, 4, 5, 6, 7, 8, 9, 10], [0, 1, 2, 3, 4, 5, 6, 7, 8, 9, 10, 11, 12]], [.light, .light, .light, .light, .light, .light, .light, .light, .light, .light, .call, .light, .eff, .light]⟩ (by kernel_rfl) rfl rfl mix Sub.autoP ?_
                refine dr_fix rfl rfl (wtd_none rfl) (x_loadN ag67 sz67 rfl (cells_ext mauto Ext.auto) rfl) ?_
                refine dr_l (x_move rfl) ?_
                refine dr_l (x_move rfl) ?_
                refine dr_sk ?_
                refine dr_l (x_pick_f rfl rfl rfl) ?_
                refine dr_l (x_move rfl) ?_
                refine dr_sk ?_
                refine dr_l (x_pick_f rfl rfl rfl) ?_
                refine dr_l (x_move rfl) ?_
                refine dr_sk ?_
                refine dr_sk ?_
                refine dr_l (x_pick_f rfl rfl rfl) ?_
                refine dr_store0 rfl rfl (wtd_none rfl) (x_store sz67 rfl rfl rfl rfl rfl Repl.auto Spl.auto) (by first | rfl | simp [keys_append, keys_cons]) ?_
                refine dr_l (x_assign rfl) ?_
                refine dr_nilX ?_
                refine aw_kp [2, 3] ?_
                refine aw_ret ?_
                show ∃ v H2, ResV _ _ _ _ _ _ v ∧ Sub H2 _ ∧ _
                exact ⟨_, H, resV rfl (.cons (⟨_, rfl, fun hw => rd_loadVarN ag67 sz67 hw (cells_ext mauto Ext.auto) rfl⟩) (.cons rfl .nil)), Sub.autoP, ⟨.inr ⟨by rw [partB_11 h58 h45, fromP_bad hna], ⟨a, b, c⟩, rfl⟩, rfl⟩⟩
              · refine sr_rd (x_pick_t rfl rfl rfl) ?_
                refine sr_as ?_
                refine sr_nil ?_
                show AW _ _ _ _ _ _ _
                refine aw_seq_drX (G := (r0_0, .cells (Part.cells zeroP).toArray 67 (0, 0)) :: []) (X := (r1_1, .cells (Part.cells ⟨a, b, c⟩).toArray 67 (0, 0)) :: H) ⟨_, 14, 76, [[], [], [1], [1, 2], [1, 2, 3], [1, 2, 3, 4], [1, 2, 3, 4, 5], [1, 2, 3, 4, 5, 6], [1, 2, 3, 4, 5, 6, 7], [1, 2, 3, 4, 5, 6, 7, 8], [1, 2, 3, 4, 5, 6, 7, 8, 9], [1, 2, 3, 4, 5, 6, 7, 8, 9, 10], [0, 1, 2, 3, 4, 5, 6, 7, 8, 9, 10], [0, 1, 2, 3, 4, 5, 6, 7, 8, 9, 10, 11, 12]], [.light, .light, .light, .light, .light, .light, .light, .light, .light, .light, .call, .light, .eff, .light]⟩ (by kernel_rfl) rfl rfl mix Sub.autoP ?_
                refine dr_fix rfl rfl (wtd_none rfl) (x_loadN ag67 sz67 rfl (cells_ext mauto Ext.auto) rfl) ?_
                refine dr_l (x_move rfl) ?_
                refine dr_l (x_move rfl) ?_
                refine dr_sk ?_
                refine dr_l (x_pick_f rfl rfl rfl) ?_
                refine dr_l (x_move rfl) ?_
                refine dr_sk ?_
                refine dr_l (x_pick_f rfl rfl rfl) ?_
                refine dr_l (x_move rfl) ?_
                refine dr_sk ?_
                refine dr_sk ?_
                refine dr_l (x_pick_f rfl rfl rfl) ?_
                refine dr_store0 rfl rfl (wtd_none rfl) (x_store sz67 rfl rfl rfl rfl rfl Repl.auto Spl.auto) (by first | rfl | simp [keys_append, keys_cons]) ?_
                refine dr_l (x_assign rfl) ?_
                refine dr_nilX ?_
                refine aw_kp [2, 3] ?_
                refine aw_ret ?_
                show ∃ v H2, ResV _ _ _ _ _ _ v ∧ Sub H2 _ ∧ _
                exact ⟨_, H, resV rfl (.cons (⟨_, rfl, fun hw => rd_loadVarN ag67 sz67 hw (cells_ext mauto Ext.auto) rfl⟩) (.cons rfl .nil)), Sub.autoP, ⟨.inr ⟨by rw [partB_11 h58 h45, fromP_bad hna], ⟨a, b, c⟩, rfl⟩, rfl⟩⟩
            · refine sr_mv ?_
              refine sr_rd (x_extract rfl rfl) ?_
              refine sr_rd (x_extract rfl rfl) ?_
              refine sr_rd (x_fieldAddr fd67_2 rfl) ?_
              refine sr_x0 rfl (wtd_none rfl) (x_store sz3 rfl rfl rfl rfl rfl Repl.auto Spl.auto) ?_
              refine sr_as ?_
              refine sr_nil ?_
              refine aw_kp [2, 3, 4, 11, 12, 13] ?_
              refine aw_region ?_
              refine sr_mv ?_
              refine sr_mv ?_
              refine sr_sk ?_
              refine sr_sk ?_
              refine sr_sk ?_
              refine sr_rd (x_pick_f rfl rfl rfl) ?_
              refine sr_as ?_
              refine sr_nil ?_
              show AW _ _ _ _ _ _ _
              refine aw_seq_drX (G := (r0_0, .cells (Part.cells zeroP).toArray 67 (0, 0)) :: []) (X := (r1_1, .cells (Part.cells ⟨a, b, c⟩).toArray 67 (0, 0)) :: H) ⟨_, 14, 76, [[], [], [1], [1, 2], [1, 2, 3], [1, 2, 3, 4], [1, 2, 3, 4, 5], [1, 2, 3, 4, 5, 6], [1, 2, 3, 4, 5, 6, 7], [1, 2, 3, 4, 5, 6, 7, 8], [1, 2, 3, 4, 5, 6, 7, 8, 9], [1, 2, 3, 4, 5, 6, 7, 8, 9, 10], [0, 1, 2, 3, 4, 5, 6, 7, 8, 9, 10], [0, 1, 2, 3, 4, 5, 6, 7, 8, 9, 10, 11, 12]], [.light, .light, .light, .light, .light, .light, .light, .light, .light, .light, .call, .light, .eff, .light]⟩ (by kernel_rfl) rfl rfl mix Sub.autoP ?_
              refine dr_fix rfl rfl (wtd_none rfl) (x_loadN ag67 sz67 rfl (cells_ext mauto Ext.auto) rfl) ?_
              refine dr_l (x_move rfl) ?_
              refine dr_l (x_move rfl) ?_
              refine dr_sk ?_
              refine dr_l (x_pick_f rfl rfl rfl) ?_
              refine dr_l (x_move rfl) ?_
              refine dr_sk ?_
              refine dr_l (x_pick_f rfl rfl rfl) ?_
              refine dr_l (x_move rfl) ?_
              refine dr_sk ?_
              refine dr_sk ?_
              refine dr_l (x_pick_f rfl rfl rfl) ?_
              refine dr_store0 rfl rfl (wtd_none rfl) (x_store sz67 rfl rfl rfl rfl rfl Repl.auto Spl.auto) (by first | rfl | simp [keys_append, keys_cons]) ?_
              refine dr_l (x_assign rfl) ?_
              refine dr_nilX ?_
              refine aw_kp [2, 3] ?_
              refine aw_ret ?_
              show ∃ v H2, ResV _ _ _ _ _ _ v ∧ Sub H2 _ ∧ _
              exact ⟨_, H, resV rfl (.cons (⟨_, rfl, fun hw => rd_loadVarN ag67 sz67 hw (cells_ext mauto Ext.auto) rfl⟩) (.cons rfl .nil)), Sub.autoP, ⟨.inr ⟨by rw [partB_11 h58 h45, fromP_bad hna], ⟨a, b, c⟩, rfl⟩, rfl⟩⟩
        · refine sr_mv ?_
          refine sr_rd (x_extract rfl rfl) ?_
          refine sr_rd (x_extract rfl rfl) ?_
          refine sr_rd (x_fieldAddr fd67_1 rfl) ?_
          refine sr_x0 rfl (wtd_none rfl) (x_store sz3 rfl rfl rfl rfl rfl Repl.auto Spl.auto) ?_
          refine sr_as ?_
          refine sr_nil ?_
          refine aw_kp [2, 3, 4, 6, 7, 11, 12, 13] ?_
          refine aw_region ?_
          refine sr_mv ?_
          refine sr_mv ?_
          refine sr_sk ?_
          refine sr_sk ?_
          refine sr_sk ?_
          refine sr_sk ?_
          refine sr_sk ?_
          refine sr_rd (x_pick_f rfl rfl rfl) ?_
          refine sr_as ?_
          refine sr_nil ?_
          show AW _ _ _ _ _ _ _
          refine aw_seq ?_
          refine aw_seq_region ?_
          refine sr_mv ?_
          refine sr_nil ?_
          refine aw_kp [2, 3, 4, 6, 11, 12, 13, 51] ?_
          refine aw_true rfl ?_
          refine aw_seq_region ?_
          refine sr_mv ?_
          refine sr_d rfl (wtd_none rfl) rfl (opS_call rfl rfl rfl rfl cl84 (numb_s s _ (by omega))) ?_
          rintro _ H9 ⟨hnum, rfl⟩
          obtain ⟨c, hnc, rfl⟩ | ⟨hnc, c, rfl⟩ := hnum
          · refine sr_mv ?_
            refine sr_rd (x_extract rfl rfl) ?_
            refine sr_rd (x_extract rfl rfl) ?_
            refine sr_rd (x_fieldAddr fd67_2 rfl) ?_
            refine sr_x0 rfl (wtd_none rfl) (x_store sz3 rfl rfl rfl rfl rfl Repl.auto Spl.auto) ?_
            refine sr_as ?_
            refine sr_nil ?_
            refine aw_kp [2, 3, 4, 11, 12, 13] ?_
            refine aw_region ?_
            refine sr_mv ?_
            refine sr_mv ?_
            refine sr_ry (x_fieldAddr fd67_2 rfl) ?_
            refine sr_ry (x_load ag3 rfl (cells_ext mauto Ext.auto)) ?_
            refine sr_cy (x_ne rfl rfl) (fun h8 => ?_) (fun h8 => ?_)
            · refine sr_rd (x_pick_t rfl rfl rfl) ?_
              refine sr_as ?_
              refine sr_nil ?_
              show AW _ _ _ _ _ _ _
              refine aw_seq_drX (G := (r0_0, .cells (Part.cells zeroP).toArray 67 (0, 0)) :: []) (X := (r1_1, .cells (Part.cells ⟨a, b, c⟩).toArray 67 (0, 0)) :: H) ⟨_, 14, 76, [[], [], [1], [1, 2], [1, 2, 3], [1, 2, 3, 4], [1, 2, 3, 4, 5], [1, 2, 3, 4, 5, 6], [1, 2, 3, 4, 5, 6, 7], [1, 2, 3, 4, 5, 6, 7, 8], [1, 2, 3, 4, 5, 6, 7, 8, 9], [1, 2, 3, 4, 5, 6, 7, 8, 9, 10], [0, 1, 2, 3, 4, 5, 6, 7, 8, 9, 10], [0, 1, 2, 3, 4, 5, 6, 7, 8, 9, 10, 11, 12]], [.light, .light, .light, .light, .light, .light, .light, .light, .light, .light, .call, .light, .eff, .light]⟩ (by kernel_rfl) rfl rfl mix Sub.autoP ?_
              refine dr_fix rfl rfl (wtd_none rfl) (x_loadN ag67 sz67 rfl (cells_ext mauto Ext.auto) rfl) ?_
              refine dr_l (x_move rfl) ?_
              refine dr_l (x_move rfl) ?_
              refine dr_sk ?_
              refine dr_l (x_pick_f rfl rfl rfl) ?_
              refine dr_l (x_move rfl) ?_
              refine dr_sk ?_
              refine dr_l (x_pick_f rfl rfl rfl) ?_
              refine dr_l (x_move rfl) ?_
              refine dr_sk ?_
              refine dr_sk ?_
              refine dr_l (x_pick_f rfl rfl rfl) ?_
              refine dr_store0 rfl rfl (wtd_none rfl) (x_store sz67 rfl rfl rfl rfl rfl Repl.auto Spl.auto) (by first | rfl | simp [keys_append, keys_cons]) ?_
              refine dr_l (x_assign rfl) ?_
              refine dr_nilX ?_
              refine aw_kp [2, 3] ?_
              refine aw_ret ?_
              show ∃ v H2, ResV _ _ _ _ _ _ v ∧ Sub H2 _ ∧ _
              exact ⟨_, H, resV rfl (.cons (⟨_, rfl, fun hw => rd_loadVarN ag67 sz67 hw (cells_ext mauto Ext.auto) rfl⟩) (.cons rfl .nil)), Sub.autoP, ⟨.inr ⟨by rw [partB_11 h58 h45, fromP_bad hna], ⟨a, b, c⟩, rfl⟩, rfl⟩⟩
            · refine sr_rd (x_pick_t rfl rfl rfl) ?_
              refine sr_as ?_
              refine sr_nil ?_
              show AW _ _ _ _ _ _ _
              refine aw_seq_drX (G := (r0_0, .cells (Part.cells zeroP).toArray 67 (0, 0)) :: []) (X := (r1_1, .cells (Part.cells ⟨a, b, c⟩).toArray 67 (0, 0)) :: H) ⟨_, 14, 76, [[], [], [1], [1, 2], [1, 2, 3], [1, 2, 3, 4], [1, 2, 3, 4, 5], [1, 2, 3, 4, 5, 6], [1, 2, 3, 4, 5, 6, 7], [1, 2, 3, 4, 5, 6, 7, 8], [1, 2, 3, 4, 5, 6, 7, 8, 9], [1, 2, 3, 4, 5, 6, 7, 8, 9, 10], [0, 1, 2, 3, 4, 5, 6, 7, 8, 9, 10], [0, 1, 2, 3, 4, 5, 6, 7, 8, 9, 10, 11, 12]], [.light, .light, .light, .light, .light, .light, .light, .light, .light, .light, .call, .light, .eff, .light]⟩ (by kernel_rfl) rfl rfl mix Sub.autoP ?_
              refine dr_fix rfl rfl (wtd_none rfl) (x_loadN ag67 sz67 rfl (cells_ext mauto Ext.auto) rfl) ?_
              refine dr_l (x_move rfl) ?_
              refine dr_l (x_move rfl) ?_
              refine dr_sk ?_
              refine dr_l (x_pick_f rfl rfl rfl) ?_
              refine dr_l (x_move rfl) ?_
              refine dr_sk ?_
              refine dr_l (x_pick_f rfl rfl rfl) ?_
              refine dr_l (x_move rfl) ?_
              refine dr_sk ?_
              refine dr_sk ?_
              refine dr_l (x_pick_f rfl rfl rfl) ?_
              refine dr_store0 rfl rfl (wtd_none rfl) (x_store sz67 rfl rfl rfl rfl rfl Repl.auto Spl.auto) (by first | rfl | simp [keys_append, keys_cons]) ?_
              refine dr_l (x_assign rfl) ?_
              refine dr_nilX ?_
              refine aw_kp [2, 3] ?_
              refine aw_ret ?_
              show ∃ v H2, ResV _ _ _ _ _ _ v ∧ Sub H2 _ ∧ _
              exact ⟨_, H, resV rfl (.cons (⟨_, rfl, fun hw => rd_loadVarN ag67 sz67 hw (cells_ext mauto Ext.auto) rfl⟩) (.cons rfl .nil)), Sub.autoP, ⟨.inr ⟨by rw [partB_11 h58 h45, fromP_bad hna], ⟨a, b, c⟩, rfl⟩, rfl⟩⟩
          · refine sr_mv ?_
            refine sr_rd (x_extract rfl rfl) ?_
            refine sr_rd (x_extract rfl rfl) ?_
            refine sr_rd (x_fieldAddr fd67_2 rfl) ?_
            refine sr_x0 rfl (wtd_none rfl) (x_store sz3 rfl rfl rfl rfl rfl Repl.auto Spl.auto) ?_
            refine sr_as ?_
            refine sr_nil ?_
            refine aw_kp [2, 3, 4, 11, 12, 13] ?_
            refine aw_region ?_
            refine sr_mv ?_
            refine sr_mv ?_
            refine sr_sk ?_
            refine sr_sk ?_
            refine sr_sk ?_
            refine sr_rd (x_pick_f rfl rfl rfl) ?_
            refine sr_as ?_
            refine sr_nil ?_
            show AW _ _ _ _ _ _ _
            refine aw_seq_drX (G := (r0_0, .cells (Part.cells zeroP).toArray 67 (0, 0)) :: []) (X := (r1_1, .cells (Part.cells ⟨a, b, c⟩).toArray 67 (0, 0)) :: H) ⟨_, 14, 76, [[], [], [1], [1, 2], [1, 2, 3], [1, 2, 3, 4], [1, 2, 3, 4, 5], [1, 2, 3, 4, 5, 6], [1, 2, 3, 4, 5, 6, 7], [1, 2, 3, 4, 5, 6, 7, 8], [1, 2, 3, 4, 5, 6, 7, 8, 9], [1, 2, 3, 4, 5, 6, 7, 8, 9, 10], [0, 1, 2, 3, 4, 5, 6, 7, 8, 9, 10], [0, 1, 2, 3, 4, 5, 6, 7, 8, 9, 10, 11, 12]], [.light, .light, .light, .light, .light, .light, .light, .light, .light, .light, .call, .light, .eff, .light]⟩ (by kernel_rfl) rfl rfl mix Sub.autoP ?_
            refine dr_fix rfl rfl (wtd_none rfl) (x_loadN ag67 sz67 rfl (cells_ext mauto Ext.auto) rfl) ?_
            refine dr_l (x_move rfl) ?_
            refine dr_l (x_move rfl) ?_
            refine dr_sk ?_
            refine dr_l (x_pick_f rfl rfl rfl) ?_
            refine dr_l (x_move rfl) ?_
            refine dr_sk ?_
            refine dr_l (x_pick_f rfl rfl rfl) ?_
            refine dr_l (x_move rfl) ?_
            refine dr_sk ?_
            refine dr_sk ?_
            refine dr_l (x_pick_f rfl rfl rfl) ?_
            refine dr_store0 rfl rfl (wtd_none rfl) (x_store sz67 rfl rfl rfl rfl rfl Repl.auto Spl.auto) (by first | rfl | simp [keys_append, keys_cons]) ?_
            refine dr_l (x_assign rfl) ?_
            refine dr_nilX ?_
            refine aw_kp [2, 3] ?_
            refine aw_ret ?_
            show ∃ v H2, ResV _ _ _ _ _ _ v ∧ Sub H2 _ ∧ _
            exact ⟨_, H, resV rfl (.cons (⟨_, rfl, fun hw => rd_loadVarN ag67 sz67 hw (cells_ext mauto Ext.auto) rfl⟩) (.cons rfl .nil)), Sub.autoP, ⟨.inr ⟨by rw [partB_11 h58 h45, fromP_bad hna], ⟨a, b, c⟩, rfl⟩, rfl⟩⟩
    · refine sr_mv ?_
      refine sr_rd (x_extract rfl rfl) ?_
      refine sr_rd (x_extract rfl rfl) ?_
      refine sr_rd (x_extract rfl rfl) ?_
      refine sr_as ?_
      refine sr_as ?_
      refine sr_as ?_
      refine sr_nil ?_
      refine aw_kp [2, 3, 4, 6, 7, 8, 9, 10] ?_
      refine aw_seq_region ?_
      refine sr_as ?_
      refine sr_as ?_
      refine sr_as ?_
      refine sr_nil ?_
      refine aw_kp [2, 3, 4, 6, 7, 8, 9, 10, 11, 12, 13] ?_
      refine aw_seq_region ?_
      refine sr_mv ?_
      refine sr_d rfl (wtd_none rfl) rfl (opS_call rfl rfl rfl rfl cl84 (numb_s r _ (by omega))) ?_
      rintro _ H9 ⟨hnum, rfl⟩
      obtain ⟨a, hna, rfl⟩ | ⟨hna, a, rfl⟩ := hnum
      · refine sr_mv ?_
        refine sr_rd (x_extract rfl rfl) ?_
        refine sr_rd (x_extract rfl rfl) ?_
        refine sr_rd (x_fieldAddr fd67_0 rfl) ?_
        refine sr_x0 rfl (wtd_none rfl) (x_store sz3 rfl rfl rfl rfl rfl Repl.auto Spl.auto) ?_
        refine sr_as ?_
        refine sr_nil ?_
        refine aw_kp [2, 3, 4, 6, 7, 9, 10, 11, 12, 13] ?_
        refine aw_seq_region ?_
        refine sr_rd (x_fieldAddr fd67_0 rfl) ?_
        refine sr_rd (x_load ag3 rfl (cells_ext mauto Ext.auto)) ?_
        refine sr_rd (x_fieldAddr fd67_1 rfl) ?_
        refine sr_x0 rfl (wtd_none rfl) (x_store sz3 rfl rfl rfl rfl rfl Repl.auto Spl.auto) ?_
        refine sr_nil ?_
        refine aw_kp [2, 3, 4, 6, 7, 9, 10, 11, 12, 13] ?_
        refine aw_seq ?_
        refine aw_seq_region ?_
        refine sr_mv ?_
        refine sr_nil ?_
        refine aw_kp [2, 3, 4, 6, 7, 9, 11, 12, 13, 36] ?_
        refine aw_false rfl ?_
        refine aw_skip ?_
        show AW _ _ _ _ _ _ _
        refine aw_seq ?_
        refine aw_seq_region ?_
        refine sr_mv ?_
        refine sr_nil ?_
        refine aw_kp [2, 3, 4, 6, 11, 12, 13, 51] ?_
        refine aw_true rfl ?_
        refine aw_seq_region ?_
        refine sr_mv ?_
        refine sr_d rfl (wtd_none rfl) rfl (opS_call rfl rfl rfl rfl cl84 (numb_s s _ (by omega))) ?_
        rintro _ H9 ⟨hnum, rfl⟩
        obtain ⟨c, hnc, rfl⟩ | ⟨hnc, c, rfl⟩ := hnum
        · refine sr_mv ?_
          refine sr_rd (x_extract rfl rfl) ?_
          refine sr_rd (x_extract rfl rfl) ?_
          refine sr_rd (x_fieldAddr fd67_2 rfl) ?_
          refine sr_x0 rfl (wtd_none rfl) (x_store sz3 rfl rfl rfl rfl rfl Repl.auto Spl.auto) ?_
          refine sr_as ?_
          refine sr_nil ?_
          refine aw_kp [2, 3, 4, 11, 12, 13] ?_
          refine aw_region ?_
          refine sr_mv ?_
          refine sr_mv ?_
          refine sr_ry (x_fieldAddr fd67_2 rfl) ?_
          refine sr_ry (x_load ag3 rfl (cells_ext mauto Ext.auto)) ?_
          refine sr_cy (x_ne rfl rfl) (fun h9 => ?_) (fun h9 => ?_)
          · refine sr_rd (x_pick_t rfl rfl rfl) ?_
            refine sr_as ?_
            refine sr_nil ?_
            show AW _ _ _ _ _ _ _
            refine aw_seq_drX (G := (r0_0, .cells (Part.cells zeroP).toArray 67 (0, 0)) :: []) (X := (r1_1, .cells (Part.cells ⟨a, a, c⟩).toArray 67 (0, 0)) :: H) ⟨_, 14, 76, [[], [], [1], [1, 2], [1, 2, 3], [1, 2, 3, 4], [1, 2, 3, 4, 5], [1, 2, 3, 4, 5, 6], [1, 2, 3, 4, 5, 6, 7], [1, 2, 3, 4, 5, 6, 7, 8], [1, 2, 3, 4, 5, 6, 7, 8, 9], [1, 2, 3, 4, 5, 6, 7, 8, 9, 10], [0, 1, 2, 3, 4, 5, 6, 7, 8, 9, 10], [0, 1, 2, 3, 4, 5, 6, 7, 8, 9, 10, 11, 12]], [.light, .light, .light, .light, .light, .light, .light, .light, .light, .light, .call, .light, .eff, .light]⟩ (by kernel_rfl) rfl rfl mix Sub.autoP ?_
            refine dr_fix rfl rfl (wtd_none rfl) (x_loadN ag67 sz67 rfl (cells_ext mauto Ext.auto) rfl) ?_
            refine dr_l (x_move rfl) ?_
            refine dr_l (x_move rfl) ?_
            refine dr_y (x_move rfl) ?_
            refine dr_l (x_pick_t rfl rfl rfl) ?_
            refine dr_l (x_move rfl) ?_
            refine dr_y (x_move rfl) ?_
            refine dr_l (x_pick_t rfl rfl rfl) ?_
            refine dr_l (x_move rfl) ?_
            refine dr_fix rfl rfl (wtd_yes rfl rfl rfl) (x_loadN ag67 sz67 rfl (cells_ext mauto Ext.auto) rfl) ?_
            refine dr_callq0 rfl rfl (wtd_yes rfl rfl rfl) (opS_F rfl rfl rfl rfl cl40 ((pright_s ⟨a, a, c⟩ _))) (⟨_, rfl⟩) ?_
            rintro _ rfl
            generalize hd : decide (PRight ⟨a, a, c⟩) = d1
            cases d1
            · refine dr_l (x_pick_t rfl rfl rfl) ?_
              refine dr_store0 rfl rfl (wtd_none rfl) (x_store sz67 rfl rfl rfl rfl rfl Repl.auto Spl.auto) (by first | rfl | simp [keys_append, keys_cons]) ?_
              refine dr_l (x_assign rfl) ?_
              refine dr_nilX ?_
              refine aw_kp [2, 3] ?_
              refine aw_ret ?_
              show ∃ v H2, ResV _ _ _ _ _ _ v ∧ Sub H2 _ ∧ _
              exact ⟨_, H, resV rfl (.cons (⟨_, rfl, fun hw => rd_loadVarN ag67 sz67 hw (cells_ext mauto Ext.auto) rfl⟩) (.cons rfl .nil)), Sub.autoP, ⟨.inr ⟨by rw [partB_10 h58 h45, fromP_ok hna, toP_0, stepP_ok hnc (by omega), mkP_n (of_decide_eq_false hd)], ⟨a, a, c⟩, rfl⟩, rfl⟩⟩
            · refine dr_l (x_pick_t rfl rfl rfl) ?_
              refine dr_store0 rfl rfl (wtd_none rfl) (x_store sz67 rfl rfl rfl rfl rfl Repl.auto Spl.auto) (by first | rfl | simp [keys_append, keys_cons]) ?_
              refine dr_l (x_assign rfl) ?_
              refine dr_nilX ?_
              refine aw_kp [2, 3] ?_
              refine aw_ret ?_
              show ∃ v H2, ResV _ _ _ _ _ _ v ∧ Sub H2 _ ∧ _
              exact ⟨_, H, resV rfl (.cons (⟨_, rfl, fun hw => rd_loadVarN ag67 sz67 hw (cells_ext mauto Ext.auto) rfl⟩) (.cons rfl .nil)), Sub.autoP, ⟨.inl ⟨_, by rw [partB_10 h58 h45, fromP_ok hna, toP_0, stepP_ok hnc (by omega), mkP_y (of_decide_eq_true hd)], rfl⟩, rfl⟩⟩
          · refine sr_rd (x_pick_t rfl rfl rfl) ?_
            refine sr_as ?_
            refine sr_nil ?_
            show AW _ _ _ _ _ _ _
            refine aw_seq_drX (G := (r0_0, .cells (Part.cells zeroP).toArray 67 (0, 0)) :: []) (X := (r1_1, .cells (Part.cells ⟨a, a, c⟩).toArray 67 (0, 0)) :: H) ⟨_, 14, 76, [[], [], [1], [1, 2], [1, 2, 3], [1, 2, 3, 4], [1, 2, 3, 4, 5], [1, 2, 3, 4, 5, 6], [1, 2, 3, 4, 5, 6, 7], [1, 2, 3, 4, 5, 6, 7, 8], [1, 2, 3, 4, 5, 6, 7, 8, 9], [1, 2, 3, 4, 5, 6, 7, 8, 9, 10], [0, 1, 2, 3, 4, 5, 6, 7, 8, 9, 10], [0, 1, 2, 3, 4, 5, 6, 7, 8, 9, 10, 11, 12]], [.light, .light, .light, .light, .light, .light, .light, .light, .light, .light, .call, .light, .eff, .light]⟩ (by kernel_rfl) rfl rfl mix Sub.autoP ?_
            refine dr_fix rfl rfl (wtd_none rfl) (x_loadN ag67 sz67 rfl (cells_ext mauto Ext.auto) rfl) ?_
            refine dr_l (x_move rfl) ?_
            refine dr_l (x_move rfl) ?_
            refine dr_y (x_move rfl) ?_
            refine dr_l (x_pick_t rfl rfl rfl) ?_
            refine dr_l (x_move rfl) ?_
            refine dr_y (x_move rfl) ?_
            refine dr_l (x_pick_t rfl rfl rfl) ?_
            refine dr_l (x_move rfl) ?_
            refine dr_sk ?_
            refine dr_sk ?_
            refine dr_l (x_pick_f rfl rfl rfl) ?_
            refine dr_store0 rfl rfl (wtd_none rfl) (x_store sz67 rfl rfl rfl rfl rfl Repl.auto Spl.auto) (by first | rfl | simp [keys_append, keys_cons]) ?_
            refine dr_l (x_assign rfl) ?_
            refine dr_nilX ?_
            refine aw_kp [2, 3] ?_
            refine aw_ret ?_
            show ∃ v H2, ResV _ _ _ _ _ _ v ∧ Sub H2 _ ∧ _
            exact ⟨_, H, resV rfl (.cons (⟨_, rfl, fun hw => rd_loadVarN ag67 sz67 hw (cells_ext mauto Ext.auto) rfl⟩) (.cons rfl .nil)), Sub.autoP, ⟨.inr ⟨by rw [partB_10 h58 h45, fromP_ok hna, toP_0, stepP_eq hnc (by omega)], ⟨a, a, c⟩, rfl⟩, rfl⟩⟩
        · refine sr_mv ?_
          refine sr_rd (x_extract rfl rfl) ?_
          refine sr_rd (x_extract rfl rfl) ?_
          refine sr_rd (x_fieldAddr fd67_2 rfl) ?_
          refine sr_x0 rfl (wtd_none rfl) (x_store sz3 rfl rfl rfl rfl rfl Repl.auto Spl.auto) ?_
          refine sr_as ?_
          refine sr_nil ?_
          refine aw_kp [2, 3, 4, 11, 12, 13] ?_
          refine aw_region ?_
          refine sr_mv ?_
          refine sr_mv ?_
          refine sr_sk ?_
          refine sr_sk ?_
          refine sr_sk ?_
          refine sr_rd (x_pick_f rfl rfl rfl) ?_
          refine sr_as ?_
          refine sr_nil ?_
          show AW _ _ _ _ _ _ _
          refine aw_seq_drX (G := (r0_0, .cells (Part.cells zeroP).toArray 67 (0, 0)) :: []) (X := (r1_1, .cells (Part.cells ⟨a, a, c⟩).toArray 67 (0, 0)) :: H) ⟨_, 14, 76, [[], [], [1], [1, 2], [1, 2, 3], [1, 2, 3, 4], [1, 2, 3, 4, 5], [1, 2, 3, 4, 5, 6], [1, 2, 3, 4, 5, 6, 7], [1, 2, 3, 4, 5, 6, 7, 8], [1, 2, 3, 4, 5, 6, 7, 8, 9], [1, 2, 3, 4, 5, 6, 7, 8, 9, 10], [0, 1, 2, 3, 4, 5, 6, 7, 8, 9, 10], [0, 1, 2, 3, 4, 5, 6, 7, 8, 9, 10, 11, 12]], [.light, .light, .light, .light, .light, .light, .light, .light, .light, .light, .call, .light, .eff, .light]⟩ (by kernel_rfl) rfl rfl mix Sub.autoP ?_
          refine dr_fix rfl rfl (wtd_none rfl) (x_loadN ag67 sz67 rfl (cells_ext mauto Ext.auto) rfl) ?_
          refine dr_l (x_move rfl) ?_
          refine dr_l (x_move rfl) ?_
          refine dr_y (x_move rfl) ?_
          refine dr_l (x_pick_t rfl rfl rfl) ?_
          refine dr_l (x_move rfl) ?_
          refine dr_y (x_move rfl) ?_
          refine dr_l (x_pick_t rfl rfl rfl) ?_
          refine dr_l (x_move rfl) ?_
          refine dr_sk ?_
          refine dr_sk ?_
          refine dr_l (x_pick_f rfl rfl rfl) ?_
          refine dr_store0 rfl rfl (wtd_none rfl) (x_store sz67 rfl rfl rfl rfl rfl Repl.auto Spl.auto) (by first | rfl | simp [keys_append, keys_cons]) ?_
          refine dr_l (x_assign rfl) ?_
          refine dr_nilX ?_
          refine aw_kp [2, 3] ?_
          refine aw_ret ?_
          show ∃ v H2, ResV _ _ _ _ _ _ v ∧ Sub H2 _ ∧ _
          exact ⟨_, H, resV rfl (.cons (⟨_, rfl, fun hw => rd_loadVarN ag67 sz67 hw (cells_ext mauto Ext.auto) rfl⟩) (.cons rfl .nil)), Sub.autoP, ⟨.inr ⟨by rw [partB_10 h58 h45, fromP_ok hna, toP_0, stepP_bad hnc], ⟨a, a, c⟩, rfl⟩, rfl⟩⟩
      · refine sr_mv ?_
        refine sr_rd (x_extract rfl rfl) ?_
        refine sr_rd (x_extract rfl rfl) ?_
        refine sr_rd (x_fieldAddr fd67_0 rfl) ?_
        refine sr_x0 rfl (wtd_none rfl) (x_store sz3 rfl rfl rfl rfl rfl Repl.auto Spl.auto) ?_
        refine sr_as ?_
        refine sr_nil ?_
        refine aw_kp [2, 3, 4, 6, 7, 9, 10, 11, 12, 13] ?_
        refine aw_seq_region ?_
        refine sr_rd (x_fieldAddr fd67_0 rfl) ?_
        refine sr_rd (x_load ag3 rfl (cells_ext mauto Ext.auto)) ?_
        refine sr_rd (x_fieldAddr fd67_1 rfl) ?_
        refine sr_x0 rfl (wtd_none rfl) (x_store sz3 rfl rfl rfl rfl rfl Repl.auto Spl.auto) ?_
        refine sr_nil ?_
        refine aw_kp [2, 3, 4, 6, 7, 9, 10, 11, 12, 13] ?_
        refine aw_seq ?_
        refine aw_seq_region ?_
        refine sr_mv ?_
        refine sr_nil ?_
        refine aw_kp [2, 3, 4, 6, 7, 9, 11, 12, 13, 36] ?_
        refine aw_false rfl ?_
        refine aw_skip ?_
        show AW _ _ _ _ _ _ _
        refine aw_seq ?_
        refine aw_seq_region ?_
        refine sr_mv ?_
        refine sr_nil ?_
        refine aw_kp [2, 3, 4, 6, 11, 12, 13, 51] ?_
        refine aw_true rfl ?_
        refine aw_seq_region ?_
        refine sr_mv ?_
        refine sr_d rfl (wtd_none rfl) rfl (opS_call rfl rfl rfl rfl cl84 (numb_s s _ (by omega))) ?_
        rintro _ H9 ⟨hnum, rfl⟩
        obtain ⟨c, hnc, rfl⟩ | ⟨hnc, c, rfl⟩ := hnum
        · refine sr_mv ?_
          refine sr_rd (x_extract rfl rfl) ?_
          refine sr_rd (x_extract rfl rfl) ?_
          refine sr_rd (x_fieldAddr fd67_2 rfl) ?_
          refine sr_x0 rfl (wtd_none rfl) (x_store sz3 rfl rfl rfl rfl rfl Repl.auto Spl.auto) ?_
          refine sr_as ?_
          refine sr_nil ?_
          refine aw_kp [2, 3, 4, 11, 12, 13] ?_
          refine aw_region ?_
          refine sr_mv ?_
          refine sr_mv ?_
          refine sr_ry (x_fieldAddr fd67_2 rfl) ?_
          refine sr_ry (x_load ag3 rfl (cells_ext mauto Ext.auto)) ?_
          refine sr_cy (x_ne rfl rfl) (fun h10 => ?_) (fun h10 => ?_)
          · refine sr_rd (x_pick_t rfl rfl rfl) ?_
            refine sr_as ?_
            refine sr_nil ?_
            show AW _ _ _ _ _ _ _
            refine aw_seq_drX (G := (r0_0, .cells (Part.cells zeroP).toArray 67 (0, 0)) :: []) (X := (r1_1, .cells (Part.cells ⟨a, a, c⟩).toArray 67 (0, 0)) :: H) ⟨_, 14, 76, [[], [], [1], [1, 2], [1, 2, 3], [1, 2, 3, 4], [1, 2, 3, 4, 5], [1, 2, 3, 4, 5, 6], [1, 2, 3, 4, 5, 6, 7], [1, 2, 3, 4, 5, 6, 7, 8], [1, 2, 3, 4, 5, 6, 7, 8, 9], [1, 2, 3, 4, 5, 6, 7, 8, 9, 10], [0, 1, 2, 3, 4, 5, 6, 7, 8, 9, 10], [0, 1, 2, 3, 4, 5, 6, 7, 8, 9, 10, 11, 12]], [.light, .light, .light, .light, .light, .light, .light, .light, .light, .light, .call, .light, .eff, .light]⟩ (by kernel_rfl) rfl rfl mix Sub.autoP ?_
            refine dr_fix rfl rfl (wtd_none rfl) (x_loadN ag67 sz67 rfl (cells_ext mauto Ext.auto) rfl) ?_
            refine dr_l (x_move rfl) ?_
            refine dr_l (x_move rfl) ?_
            refine dr_sk ?_
            refine dr_l (x_pick_f rfl rfl rfl) ?_
            refine dr_l (x_move rfl) ?_
            refine dr_sk ?_
            refine dr_l (x_pick_f rfl rfl rfl) ?_
            refine dr_l (x_move rfl) ?_
            refine dr_sk ?_
            refine dr_sk ?_
            refine dr_l (x_pick_f rfl rfl rfl) ?_
            refine dr_store0 rfl rfl (wtd_none rfl) (x_store sz67 rfl rfl rfl rfl rfl Repl.auto Spl.auto) (by first | rfl | simp [keys_append, keys_cons]) ?_
            refine dr_l (x_assign rfl) ?_
            refine dr_nilX ?_
            refine aw_kp [2, 3] ?_
            refine aw_ret ?_
            show ∃ v H2, ResV _ _ _ _ _ _ v ∧ Sub H2 _ ∧ _
            exact ⟨_, H, resV rfl (.cons (⟨_, rfl, fun hw => rd_loadVarN ag67 sz67 hw (cells_ext mauto Ext.auto) rfl⟩) (.cons rfl .nil)), Sub.autoP, ⟨.inr ⟨by rw [partB_10 h58 h45, fromP_bad hna], ⟨a, a, c⟩, rfl⟩, rfl⟩⟩
          · refine sr_rd (x_pick_t rfl rfl rfl) ?_
            refine sr_as ?_
            refine sr_nil ?_
            show AW _ _ _ _ _ _ _
            refine aw_seq_drX (G := (r0_0, .cells (Part.cells zeroP).toArray 67 (0, 0)) :: []) (X := (r1_1, .cells (Part.cells ⟨a, a, c⟩).toArray 67 (0, 0)) :: H) ⟨_, 14, 76, [[], [], [1], [1, 2], [1, 2, 3], [1, 2, 3, 4], [1, 2, 3, 4, 5], [1, 2, 3, 4, 5, 6], [1, 2, 3, 4, 5, 6, 7], [1, 2, 3, 4, 5, 6, 7, 8], [1, 2, 3, 4, 5, 6, 7, 8, 9], [1, 2, 3, 4, 5, 6, 7, 8, 9, 10], [0, 1, 2, 3, 4, 5, 6, 7, 8, 9, 10], [0, 1, 2, 3, 4, 5, 6, 7, 8, 9, 10, 11, 12]], [.light, .light, .light, .light, .light, .light, .light, .light, .light, .light, .call, .light, .eff, .light]⟩ (by kernel_rfl) rfl rfl mix Sub.autoP ?_
            refine dr_fix rfl rfl (wtd_none rfl) (x_loadN ag67 sz67 rfl (cells_ext mauto Ext.auto) rfl) ?_
            refine dr_l (x_move rfl) ?_
            refine dr_l (x_move rfl) ?_
            refine dr_sk ?_
            refine dr_l (x_pick_f rfl rfl rfl) ?_
            refine dr_l (x_move rfl) ?_
            refine dr_sk ?_
            refine dr_l (x_pick_f rfl rfl rfl) ?_
            refine dr_l (x_move rfl) ?_
            refine dr_sk ?_
            refine dr_sk ?_
            refine dr_l (x_pick_f rfl rfl rfl) ?_
            refine dr_store0 rfl rfl (wtd_none rfl) (x_store sz67 rfl rfl rfl rfl rfl Repl.auto Spl.auto) (by first | rfl | simp [keys_append, keys_cons]) ?_
            refine dr_l (x_assign rfl) ?_
            refine dr_nilX ?_
            refine aw_kp [2, 3] ?_
            refine aw_ret ?_
            show ∃ v H2, ResV _ _ _ _ _ _ v ∧ Sub H2 _ ∧ _
            exact ⟨_, H, resV rfl (.cons (⟨_, rfl, fun hw => rd_loadVarN ag67 sz67 hw (cells_ext mauto Ext.auto) rfl⟩) (.cons rfl .nil)), Sub.autoP, ⟨.inr ⟨by rw [partB_10 h58 h45, fromP_bad hna], ⟨a, a, c⟩, rfl⟩, rfl⟩⟩
        · refine sr_mv ?_
          refine sr_rd (x_extract rfl rfl) ?_
          refine sr_rd (x_extract rfl rfl) ?_
          refine sr_rd (x_fieldAddr fd67_2 rfl) ?_
          refine sr_x0 rfl (wtd_none rfl) (x_store sz3 rfl rfl rfl rfl rfl Repl.auto Spl.auto) ?_
          refine sr_as ?_
          refine sr_nil ?_
          refine aw_kp [2, 3, 4, 11, 12, 13] ?_
          refine aw_region ?_
          refine sr_mv ?_
          refine sr_mv ?_
          refine sr_sk ?_
          refine sr_sk ?_
          refine sr_sk ?_
          refine sr_rd (x_pick_f rfl rfl rfl) ?_
          refine sr_as ?_
          refine sr_nil ?_
          show AW _ _ _ _ _ _ _
          refine aw_seq_drX (G := (r0_0, .cells (Part.cells zeroP).toArray 67 (0, 0)) :: []) (X := (r1_1, .cells (Part.cells ⟨a, a, c⟩).toArray 67 (0, 0)) :: H) ⟨_, 14, 76, [[], [], [1], [1, 2], [1, 2, 3], [1, 2, 3, 4], [1, 2, 3, 4, 5], [1, 2, 3, 4, 5, 6], [1, 2, 3, 4, 5, 6, 7], [1, 2, 3, 4, 5, 6, 7, 8], [1, 2, 3, 4, 5, 6, 7, 8, 9], [1, 2, 3, 4, 5, 6, 7, 8, 9, 10], [0, 1, 2, 3, 4, 5, 6, 7, 8, 9, 10], [0, 1, 2, 3, 4, 5, 6, 7, 8, 9, 10, 11, 12]], [.light, .light, .light, .light, .light, .light, .light, .light, .light, .light, .call, .light, .eff, .light]⟩ (by kernel_rfl) rfl rfl mix Sub.autoP ?_
          refine dr_fix rfl rfl (wtd_none rfl) (x_loadN ag67 sz67 rfl (cells_ext mauto Ext.auto) rfl) ?_
          refine dr_l (x_move rfl) ?_
          refine dr_l (x_move rfl) ?_
          refine dr_sk ?_
          refine dr_l (x_pick_f rfl rfl rfl) ?_
          refine dr_l (x_move rfl) ?_
          refine dr_sk ?_
          refine dr_l (x_pick_f rfl rfl rfl) ?_
          refine dr_l (x_move rfl) ?_
          refine dr_sk ?_
          refine dr_sk ?_
          refine dr_l (x_pick_f rfl rfl rfl) ?_
          refine dr_store0 rfl rfl (wtd_none rfl) (x_store sz67 rfl rfl rfl rfl rfl Repl.auto Spl.auto) (by first | rfl | simp [keys_append, keys_cons]) ?_
          refine dr_l (x_assign rfl) ?_
          refine dr_nilX ?_
          refine aw_kp [2, 3] ?_
          refine aw_ret ?_
          show ∃ v H2, ResV _ _ _ _ _ _ v ∧ Sub H2 _ ∧ _
          exact ⟨_, H, resV rfl (.cons (⟨_, rfl, fun hw => rd_loadVarN ag67 sz67 hw (cells_ext mauto Ext.auto) rfl⟩) (.cons rfl .nil)), Sub.autoP, ⟨.inr ⟨by rw [partB_10 h58 h45, fromP_bad hna], ⟨a, a, c⟩, rfl⟩, rfl⟩⟩
  · refine sr_mv ?_
    refine sr_rd (x_extract rfl rfl) ?_
    refine sr_rd (x_extract rfl rfl) ?_
    refine sr_rd (x_extract rfl rfl) ?_
    refine sr_as ?_
    refine sr_as ?_
    refine sr_as ?_
    refine sr_nil ?_
    refine aw_kp [2, 3, 4, 5, 6, 7] ?_
    refine aw_seq_region ?_
    refine sr_mv ?_
    refine sr_d rfl (wtd_none rfl) rfl (opS_call rfl rfl rfl rfl cl83 (scut_s w 45 _ (by omega))) ?_
    rintro _ H9 ⟨hcut, rfl⟩
    obtain ⟨f, t, rfl, h45, rfl⟩ | ⟨h45, rfl⟩ := hcut
    · rw [List.length_append, List.length_cons] at hl
      refine sr_mv ?_
      refine sr_rd (x_extract rfl rfl) ?_
      refine sr_rd (x_extract rfl rfl) ?_
      refine sr_rd (x_extract rfl rfl) ?_
      refine sr_as ?_
      refine sr_as ?_
      refine sr_as ?_
      refine sr_nil ?_
      refine aw_kp [2, 3, 4, 6, 7, 8, 9, 10] ?_
      refine aw_seq_region ?_
      refine sr_as ?_
      refine sr_as ?_
      refine sr_as ?_
      refine sr_nil ?_
      refine aw_kp [2, 3, 4, 6, 7, 8, 9, 10, 11, 12, 13] ?_
      refine aw_seq_region ?_
      refine sr_mv ?_
      refine sr_d rfl (wtd_none rfl) rfl (opS_call rfl rfl rfl rfl cl84 (numb_s f _ (by omega))) ?_
      rintro _ H9 ⟨hnum, rfl⟩
      obtain ⟨a, hna, rfl⟩ | ⟨hna, a, rfl⟩ := hnum
      · refine sr_mv ?_
        refine sr_rd (x_extract rfl rfl) ?_
        refine sr_rd (x_extract rfl rfl) ?_
        refine sr_rd (x_fieldAddr fd67_0 rfl) ?_
        refine sr_x0 rfl (wtd_none rfl) (x_store sz3 rfl rfl rfl rfl rfl Repl.auto Spl.auto) ?_
        refine sr_as ?_
        refine sr_nil ?_
        refine aw_kp [2, 3, 4, 6, 7, 9, 10, 11, 12, 13] ?_
        refine aw_seq_region ?_
        refine sr_rd (x_fieldAddr fd67_0 rfl) ?_
        refine sr_rd (x_load ag3 rfl (cells_ext mauto Ext.auto)) ?_
        refine sr_rd (x_fieldAddr fd67_1 rfl) ?_
        refine sr_x0 rfl (wtd_none rfl) (x_store sz3 rfl rfl rfl rfl rfl Repl.auto Spl.auto) ?_
        refine sr_nil ?_
        refine aw_kp [2, 3, 4, 6, 7, 9, 10, 11, 12, 13] ?_
        refine aw_seq ?_
        refine aw_seq_region ?_
        refine sr_mv ?_
        refine sr_nil ?_
        refine aw_kp [2, 3, 4, 6, 7, 9, 11, 12, 13, 36] ?_
        refine aw_true rfl ?_
        refine aw_seq_region ?_
        refine sr_mv ?_
        refine sr_d rfl (wtd_none rfl) rfl (opS_call rfl rfl rfl rfl cl84 (numb_s t _ (by omega))) ?_
        rintro _ H9 ⟨hnum, rfl⟩
        obtain ⟨b, hnb, rfl⟩ | ⟨hnb, b, rfl⟩ := hnum
        · refine sr_mv ?_
          refine sr_rd (x_extract rfl rfl) ?_
          refine sr_rd (x_extract rfl rfl) ?_
          refine sr_rd (x_fieldAddr fd67_1 rfl) ?_
          refine sr_x0 rfl (wtd_none rfl) (x_store sz3 rfl rfl rfl rfl rfl Repl.auto Spl.auto) ?_
          refine sr_as ?_
          refine sr_nil ?_
          refine aw_kp [2, 3, 4, 6, 7, 11, 12, 13] ?_
          refine aw_region ?_
          refine sr_mv ?_
          refine sr_mv ?_
          refine sr_ry (x_fieldAddr fd67_1 rfl) ?_
          refine sr_ry (x_load ag3 rfl (cells_ext mauto Ext.auto)) ?_
          refine sr_ry (x_fieldAddr fd67_0 rfl) ?_
          refine sr_ry (x_load ag3 rfl (cells_ext mauto Ext.auto)) ?_
          refine sr_cy (x_ne rfl rfl) (fun h11 => ?_) (fun h11 => ?_)
          · refine sr_rd (x_pick_t rfl rfl rfl) ?_
            refine sr_as ?_
            refine sr_nil ?_
            show AW _ _ _ _ _ _ _
            refine aw_seq ?_
            refine aw_seq_region ?_
            refine sr_mv ?_
            refine sr_nil ?_
            refine aw_kp [2, 3, 4, 6, 11, 12, 13, 51] ?_
            refine aw_false rfl ?_
            refine aw_skip ?_
            show AW _ _ _ _ _ _ _
            refine aw_seq_drX (G := (r0_0, .cells (Part.cells zeroP).toArray 67 (0, 0)) :: []) (X := (r1_1, .cells (Part.cells ⟨a, b, 1⟩).toArray 67 (0, 0)) :: H) ⟨_, 14, 76, [[], [], [1], [1, 2], [1, 2, 3], [1, 2, 3, 4], [1, 2, 3, 4, 5], [1, 2, 3, 4, 5, 6], [1, 2, 3, 4, 5, 6, 7], [1, 2, 3, 4, 5, 6, 7, 8], [1, 2, 3, 4, 5, 6, 7, 8, 9], [1, 2, 3, 4, 5, 6, 7, 8, 9, 10], [0, 1, 2, 3, 4, 5, 6, 7, 8, 9, 10], [0, 1, 2, 3, 4, 5, 6, 7, 8, 9, 10, 11, 12]], [.light, .light, .light, .light, .light, .light, .light, .light, .light, .light, .call, .light, .eff, .light]⟩ (by kernel_rfl) rfl rfl mix Sub.autoP ?_
            refine dr_fix rfl rfl (wtd_none rfl) (x_loadN ag67 sz67 rfl (cells_ext mauto Ext.auto) rfl) ?_
            refine dr_l (x_move rfl) ?_
            refine dr_l (x_move rfl) ?_
            refine dr_y (x_move rfl) ?_
            refine dr_l (x_pick_t rfl rfl rfl) ?_
            refine dr_l (x_move rfl) ?_
            refine dr_y (x_move rfl) ?_
            refine dr_l (x_pick_t rfl rfl rfl) ?_
            refine dr_l (x_move rfl) ?_
            refine dr_fix rfl rfl (wtd_yes rfl rfl rfl) (x_loadN ag67 sz67 rfl (cells_ext mauto Ext.auto) rfl) ?_
            refine dr_callq0 rfl rfl (wtd_yes rfl rfl rfl) (opS_F rfl rfl rfl rfl cl40 ((pright_s ⟨a, b, 1⟩ _))) (⟨_, rfl⟩) ?_
            rintro _ rfl
            generalize hd : decide (PRight ⟨a, b, 1⟩) = d1
            cases d1
            · refine dr_l (x_pick_t rfl rfl rfl) ?_
              refine dr_store0 rfl rfl (wtd_none rfl) (x_store sz67 rfl rfl rfl rfl rfl Repl.auto Spl.auto) (by first | rfl | simp [keys_append, keys_cons]) ?_
              refine dr_l (x_assign rfl) ?_
              refine dr_nilX ?_
              refine aw_kp [2, 3] ?_
              refine aw_ret ?_
              show ∃ v H2, ResV _ _ _ _ _ _ v ∧ Sub H2 _ ∧ _
              exact ⟨_, H, resV rfl (.cons (⟨_, rfl, fun hw => rd_loadVarN ag67 sz67 hw (cells_ext mauto Ext.auto) rfl⟩) (.cons rfl .nil)), Sub.autoP, ⟨.inr ⟨by rw [partB_01 h58 h45, fromP_ok hna, toP_ok hnb (by omega), stepP_0, mkP_n (of_decide_eq_false hd)], ⟨a, b, 1⟩, rfl⟩, rfl⟩⟩
            · refine dr_l (x_pick_t rfl rfl rfl) ?_
              refine dr_store0 rfl rfl (wtd_none rfl) (x_store sz67 rfl rfl rfl rfl rfl Repl.auto Spl.auto) (by first | rfl | simp [keys_append, keys_cons]) ?_
              refine dr_l (x_assign rfl) ?_
              refine dr_nilX ?_
              refine aw_kp [2, 3] ?_
              refine aw_ret ?_
              show ∃ v H2, ResV _ _ _ _ _ _ v ∧ Sub H2 _ ∧ _
              exact ⟨_, H, resV rfl (.cons (⟨_, rfl, fun hw => rd_loadVarN ag67 sz67 hw (cells_ext mauto Ext.auto) rfl⟩) (.cons rfl .nil)), Sub.autoP, ⟨.inl ⟨_, by rw [partB_01 h58 h45, fromP_ok hna, toP_ok hnb (by omega), stepP_0, mkP_y (of_decide_eq_true hd)], rfl⟩, rfl⟩⟩
          · refine sr_rd (x_pick_t rfl rfl rfl) ?_
            refine sr_as ?_
            refine sr_nil ?_
            show AW _ _ _ _ _ _ _
            refine aw_seq ?_
            refine aw_seq_region ?_
            refine sr_mv ?_
            refine sr_nil ?_
            refine aw_kp [2, 3, 4, 6, 11, 12, 13, 51] ?_
            refine aw_false rfl ?_
            refine aw_skip ?_
            show AW _ _ _ _ _ _ _
            refine aw_seq_drX (G := (r0_0, .cells (Part.cells zeroP).toArray 67 (0, 0)) :: []) (X := (r1_1, .cells (Part.cells ⟨a, b, 1⟩).toArray 67 (0, 0)) :: H) ⟨_, 14, 76, [[], [], [1], [1, 2], [1, 2, 3], [1, 2, 3, 4], [1, 2, 3, 4, 5], [1, 2, 3, 4, 5, 6], [1, 2, 3, 4, 5, 6, 7], [1, 2, 3, 4, 5, 6, 7, 8], [1, 2, 3, 4, 5, 6, 7, 8, 9], [1, 2, 3, 4, 5, 6, 7, 8, 9, 10], [0, 1, 2, 3, 4, 5, 6, 7, 8, 9, 10], [0, 1, 2, 3, 4, 5, 6, 7, 8, 9, 10, 11, 12]], [.light, .light, .light, .light, .light, .light, .light, .light, .light, .light, .call, .light, .eff, .light]⟩ (by kernel_rfl) rfl rfl mix Sub.autoP ?_
            refine dr_fix rfl rfl (wtd_none rfl) (x_loadN ag67 sz67 rfl (cells_ext mauto Ext.auto) rfl) ?_
            refine dr_l (x_move rfl) ?_
            refine dr_l (x_move rfl) ?_
            refine dr_y (x_move rfl) ?_
            refine dr_l (x_pick_t rfl rfl rfl) ?_
            refine dr_l (x_move rfl) ?_
            refine dr_sk ?_
            refine dr_l (x_pick_f rfl rfl rfl) ?_
            refine dr_l (x_move rfl) ?_
            refine dr_sk ?_
            refine dr_sk ?_
            refine dr_l (x_pick_f rfl rfl rfl) ?_
            refine dr_store0 rfl rfl (wtd_none rfl) (x_store sz67 rfl rfl rfl rfl rfl Repl.auto Spl.auto) (by first | rfl | simp [keys_append, keys_cons]) ?_
            refine dr_l (x_assign rfl) ?_
            refine dr_nilX ?_
            refine aw_kp [2, 3] ?_
            refine aw_ret ?_
            show ∃ v H2, ResV _ _ _ _ _ _ v ∧ Sub H2 _ ∧ _
            exact ⟨_, H, resV rfl (.cons (⟨_, rfl, fun hw => rd_loadVarN ag67 sz67 hw (cells_ext mauto Ext.auto) rfl⟩) (.cons rfl .nil)), Sub.autoP, ⟨.inr ⟨by rw [partB_01 h58 h45, fromP_ok hna, toP_eq hnb (by omega)], ⟨a, b, 1⟩, rfl⟩, rfl⟩⟩
        · refine sr_mv ?_
          refine sr_rd (x_extract rfl rfl) ?_
          refine sr_rd (x_extract rfl rfl) ?_
          refine sr_rd (x_fieldAddr fd67_1 rfl) ?_
          refine sr_x0 rfl (wtd_none rfl) (x_store sz3 rfl rfl rfl rfl rfl Repl.auto Spl.auto) ?_
          refine sr_as ?_
          refine sr_nil ?_
          refine aw_kp [2, 3, 4, 6, 7, 11, 12, 13] ?_
          refine aw_region ?_
          refine sr_mv ?_
          refine sr_mv ?_
          refine sr_sk ?_
          refine sr_sk ?_
          refine sr_sk ?_
          refine sr_sk ?_
          refine sr_sk ?_
          refine sr_rd (x_pick_f rfl rfl rfl) ?_
          refine sr_as ?_
          refine sr_nil ?_
          show AW _ _ _ _ _ _ _
          refine aw_seq ?_
          refine aw_seq_region ?_
          refine sr_mv ?_
          refine sr_nil ?_
          refine aw_kp [2, 3, 4, 6, 11, 12, 13, 51] ?_
          refine aw_false rfl ?_
          refine aw_skip ?_
          show AW _ _ _ _ _ _ _
          refine aw_seq_drX (G := (r0_0, .cells (Part.cells zeroP).toArray 67 (0, 0)) :: []) (X := (r1_1, .cells (Part.cells ⟨a, b, 1⟩).toArray 67 (0, 0)) :: H) ⟨_, 14, 76, [[], [], [1], [1, 2], [1, 2, 3], [1, 2, 3, 4], [1, 2, 3, 4, 5], [1, 2, 3, 4, 5, 6], [1, 2, 3, 4, 5, 6, 7], [1, 2, 3, 4, 5, 6, 7, 8], [1, 2, 3, 4, 5, 6, 7, 8, 9], [1, 2, 3, 4, 5, 6, 7, 8, 9, 10], [0, 1, 2, 3, 4, 5, 6, 7, 8, 9, 10], [0, 1, 2, 3, 4, 5, 6, 7, 8, 9, 10, 11, 12]], [.light, .light, .light, .light, .light, .light, .light, .light, .light, .light, .call, .light, .eff, .light]⟩ (by kernel_rfl) rfl rfl mix Sub.autoP ?_
          refine dr_fix rfl rfl (wtd_none rfl) (x_loadN ag67 sz67 rfl (cells_ext mauto Ext.auto) rfl) ?_
          refine dr_l (x_move rfl) ?_
          refine dr_l (x_move rfl) ?_
          refine dr_y (x_move rfl) ?_
          refine dr_l (x_pick_t rfl rfl rfl) ?_
          refine dr_l (x_move rfl) ?_
          refine dr_sk ?_
          refine dr_l (x_pick_f rfl rfl rfl) ?_
          refine dr_l (x_move rfl) ?_
          refine dr_sk ?_
          refine dr_sk ?_
          refine dr_l (x_pick_f rfl rfl rfl) ?_
          refine dr_store0 rfl rfl (wtd_none rfl) (x_store sz67 rfl rfl rfl rfl rfl Repl.auto Spl.auto) (by first | rfl | simp [keys_append, keys_cons]) ?_
          refine dr_l (x_assign rfl) ?_
          refine dr_nilX ?_
          refine aw_kp [2, 3] ?_
          refine aw_ret ?_
          show ∃ v H2, ResV _ _ _ _ _ _ v ∧ Sub H2 _ ∧ _
          exact ⟨_, H, resV rfl (.cons (⟨_, rfl, fun hw => rd_loadVarN ag67 sz67 hw (cells_ext mauto Ext.auto) rfl⟩) (.cons rfl .nil)), Sub.autoP, ⟨.inr ⟨by rw [partB_01 h58 h45, fromP_ok hna, toP_bad hnb], ⟨a, b, 1⟩, rfl⟩, rfl⟩⟩
      · refine sr_mv ?_
        refine sr_rd (x_extract rfl rfl) ?_
        refine sr_rd (x_extract rfl rfl) ?_
        refine sr_rd (x_fieldAddr fd67_0 rfl) ?_
        refine sr_x0 rfl (wtd_none rfl) (x_store sz3 rfl rfl rfl rfl rfl Repl.auto Spl.auto) ?_
        refine sr_as ?_
        refine sr_nil ?_
        refine aw_kp [2, 3, 4, 6, 7, 9, 10, 11, 12, 13] ?_
        refine aw_seq_region ?_
        refine sr_rd (x_fieldAddr fd67_0 rfl) ?_
        refine sr_rd (x_load ag3 rfl (cells_ext mauto Ext.auto)) ?_
        refine sr_rd (x_fieldAddr fd67_1 rfl) ?_
        refine sr_x0 rfl (wtd_none rfl) (x_store sz3 rfl rfl rfl rfl rfl Repl.auto Spl.auto) ?_
        refine sr_nil ?_
        refine aw_kp [2, 3, 4, 6, 7, 9, 10, 11, 12, 13] ?_
        refine aw_seq ?_
        refine aw_seq_region ?_
        refine sr_mv ?_
        refine sr_nil ?_
        refine aw_kp [2, 3, 4, 6, 7, 9, 11, 12, 13, 36] ?_
        refine aw_true rfl ?_
        refine aw_seq_region ?_
        refine sr_mv ?_
        refine sr_d rfl (wtd_none rfl) rfl (opS_call rfl rfl rfl rfl cl84 (numb_s t _ (by omega))) ?_
        rintro _ H9 ⟨hnum, rfl⟩
        obtain ⟨b, hnb, rfl⟩ | ⟨hnb, b, rfl⟩ := hnum
        · refine sr_mv ?_
          refine sr_rd (x_extract rfl rfl) ?_
          refine sr_rd (x_extract rfl rfl) ?_
          refine sr_rd (x_fieldAddr fd67_1 rfl) ?_
          refine sr_x0 rfl (wtd_none rfl) (x_store sz3 rfl rfl rfl rfl rfl Repl.auto Spl.auto) ?_
          refine sr_as ?_
          refine sr_nil ?_
          refine aw_kp [2, 3, 4, 6, 7, 11, 12, 13] ?_
          refine aw_region ?_
          refine sr_mv ?_
          refine sr_mv ?_
          refine sr_ry (x_fieldAddr fd67_1 rfl) ?_
          refine sr_ry (x_load ag3 rfl (cells_ext mauto Ext.auto)) ?_
          refine sr_ry (x_fieldAddr fd67_0 rfl) ?_
          refine sr_ry (x_load ag3 rfl (cells_ext mauto Ext.auto)) ?_
          refine sr_cy (x_ne rfl rfl) (fun h12 => ?_) (fun h12 => ?_)
          · refine sr_rd (x_pick_t rfl rfl rfl) ?_
            refine sr_as ?_
            refine sr_nil ?_
            show AW _ _ _ _ _ _ _
            refine aw_seq ?_
            refine aw_seq_region ?_
            refine sr_mv ?_
            refine sr_nil ?_
            refine aw_kp [2, 3, 4, 6, 11, 12, 13, 51] ?_
            refine aw_false rfl ?_
            refine aw_skip ?_
            show AW _ _ _ _ _ _ _
            refine aw_seq_drX (G := (r0_0, .cells (Part.cells zeroP).toArray 67 (0, 0)) :: []) (X := (r1_1, .cells (Part.cells ⟨a, b, 1⟩).toArray 67 (0, 0)) :: H) ⟨_, 14, 76, [[], [], [1], [1, 2], [1, 2, 3], [1, 2, 3, 4], [1, 2, 3, 4, 5], [1, 2, 3, 4, 5, 6], [1, 2, 3, 4, 5, 6, 7], [1, 2, 3, 4, 5, 6, 7, 8], [1, 2, 3, 4, 5, 6, 7, 8, 9], [1, 2, 3, 4, 5, 6, 7, 8, 9, 10], [0, 1, 2, 3, 4, 5, 6, 7, 8, 9, 10], [0, 1, 2, 3, 4, 5, 6, 7, 8, 9, 10, 11, 12]], [.light, .light, .light, .light, .light, .light, .light, .light, .light, .light, .call, .light, .eff, .light]⟩ (by kernel_rfl) rfl rfl mix Sub.autoP ?_
            refine dr_fix rfl rfl (wtd_none rfl) (x_loadN ag67 sz67 rfl (cells_ext mauto Ext.auto) rfl) ?_
            refine dr_l (x_move rfl) ?_
            refine dr_l (x_move rfl) ?_
            refine dr_sk ?_
            refine dr_l (x_pick_f rfl rfl rfl) ?_
            refine dr_l (x_move rfl) ?_
            refine dr_sk ?_
            refine dr_l (x_pick_f rfl rfl rfl) ?_
            refine dr_l (x_move rfl) ?_
            refine dr_sk ?_
            refine dr_sk ?_
            refine dr_l (x_pick_f rfl rfl rfl) ?_
            refine dr_store0 rfl rfl (wtd_none rfl) (x_store sz67 rfl rfl rfl rfl rfl Repl.auto Spl.auto) (by first | rfl | simp [keys_append, keys_cons]) ?_
            refine dr_l (x_assign rfl) ?_
            refine dr_nilX ?_
            refine aw_kp [2, 3] ?_
            refine aw_ret ?_
            show ∃ v H2, ResV _ _ _ _ _ _ v ∧ Sub H2 _ ∧ _
            exact ⟨_, H, resV rfl (.cons (⟨_, rfl, fun hw => rd_loadVarN ag67 sz67 hw (cells_ext mauto Ext.auto) rfl⟩) (.cons rfl .nil)), Sub.autoP, ⟨.inr ⟨by rw [partB_01 h58 h45, fromP_bad hna], ⟨a, b, 1⟩, rfl⟩, rfl⟩⟩
          · refine sr_rd (x_pick_t rfl rfl rfl) ?_
            refine sr_as ?_
            refine sr_nil ?_
            show AW _ _ _ _ _ _ _
            refine aw_seq ?_
            refine aw_seq_region ?_
            refine sr_mv ?_
            refine sr_nil ?_
            refine aw_kp [2, 3, 4, 6, 11, 12, 13, 51] ?_
            refine aw_false rfl ?_
            refine aw_skip ?_
            show AW _ _ _ _ _ _ _
            refine aw_seq_drX (G := (r0_0, .cells (Part.cells zeroP).toArray 67 (0, 0)) :: []) (X := (r1_1, .cells (Part.cells ⟨a, b, 1⟩).toArray 67 (0, 0)) :: H) ⟨_, 14, 76, [[], [], [1], [1, 2], [1, 2, 3], [1, 2, 3, 4], [1, 2, 3, 4, 5], [1, 2, 3, 4, 5, 6], [1, 2, 3, 4, 5, 6, 7], [1, 2, 3, 4, 5, 6, 7, 8], [1, 2, 3, 4, 5, 6, 7, 8, 9], [1, 2, 3, 4, 5, 6, 7, 8, 9, 10], [0, 1, 2, 3, 4, 5, 6, 7, 8, 9, 10], [0, 1, 2, 3, 4, 5, 6, 7, 8, 9, 10, 11, 12]], [.light, .light, .light, .light, .light, .light, .light, .light, .light, .light, .call, .light, .eff, .light]⟩ (by kernel_rfl) rfl rfl mix Sub.autoP ?_
            refine dr_fix rfl rfl (wtd_none rfl) (x_loadN ag67 sz67 rfl (cells_ext mauto Ext.auto) rfl) ?_
            refine dr_l (x_move rfl) ?_
            refine dr_l (x_move rfl) ?_
            refine dr_sk ?_
            refine dr_l (x_pick_f rfl rfl rfl) ?_
            refine dr_l (x_move rfl) ?_
            refine dr_sk ?_
            refine dr_l (x_pick_f rfl rfl rfl) ?_
            refine dr_l (x_move rfl) ?_
            refine dr_sk ?_
            refine dr_sk ?_
            refine dr_l (x_pick_f rfl rfl rfl) ?_
            refine dr_store0 rfl rfl (wtd_none rfl) (x_store sz67 rfl rfl rfl rfl rfl Repl.auto Spl.auto) (by first | rfl | simp [keys_append, keys_cons]) ?_
            refine dr_l (x_assign rfl) ?_
            refine dr_nilX ?_
            refine aw_kp [2, 3] ?_
            refine aw_ret ?_
            show ∃ v H2, ResV _ _ _ _ _ _ v ∧ Sub H2 _ ∧ _
            exact ⟨_, H, resV rfl (.cons (⟨_, rfl, fun hw => rd_loadVarN ag67 sz67 hw (cells_ext mauto Ext.auto) rfl⟩) (.cons rfl .nil)), Sub.autoP, ⟨.inr ⟨by rw [partB_01 h58 h45, fromP_bad hna], ⟨a, b, 1⟩, rfl⟩, rfl⟩⟩
        · refine sr_mv ?_
          refine sr_rd (x_extract rfl rfl) ?_
          refine sr_rd (x_extract rfl rfl) ?_
          refine sr_rd (x_fieldAddr fd67_1 rfl) ?_
          refine sr_x0 rfl (wtd_none rfl) (x_store sz3 rfl rfl rfl rfl rfl Repl.auto Spl.auto) ?_
          refine sr_as ?_
          refine sr_nil ?_
          refine aw_kp [2, 3, 4, 6, 7, 11, 12, 13] ?_
          refine aw_region ?_
          refine sr_mv ?_
          refine sr_mv ?_
          refine sr_sk ?_
          refine sr_sk ?_
          refine sr_sk ?_
          refine sr_sk ?_
          refine sr_sk ?_
          refine sr_rd (x_pick_f rfl rfl rfl) ?_
          refine sr_as ?_
          refine sr_nil ?_
          show AW _ _ _ _ _ _ _
          refine aw_seq ?_
          refine aw_seq_region ?_
          refine sr_mv ?_
          refine sr_nil ?_
          refine aw_kp [2, 3, 4, 6, 11, 12, 13, 51] ?_
          refine aw_false rfl ?_
          refine aw_skip ?_
          show AW _ _ _ _ _ _ _
          refine aw_seq_drX (G := (r0_0, .cells (Part.cells zeroP).toArray 67 (0, 0)) :: []) (X := (r1_1, .cells (Part.cells ⟨a, b, 1⟩).toArray 67 (0, 0)) :: H) ⟨_, 14, 76, [[], [], [1], [1, 2], [1, 2, 3], [1, 2, 3, 4], [1, 2, 3, 4, 5], [1, 2, 3, 4, 5, 6], [1, 2, 3, 4, 5, 6, 7], [1, 2, 3, 4, 5, 6, 7, 8], [1, 2, 3, 4, 5, 6, 7, 8, 9], [1, 2, 3, 4, 5, 6, 7, 8, 9, 10], [0, 1, 2, 3, 4, 5, 6, 7, 8, 9, 10], [0, 1, 2, 3, 4, 5, 6, 7, 8, 9, 10, 11, 12]], [.light, .light, .light, .light, .light, .light, .light, .light, .light, .light, .call, .light, .eff, .light]⟩ (by kernel_rfl) rfl rfl mix Sub.autoP ?_
          refine dr_fix rfl rfl (wtd_none rfl) (x_loadN ag67 sz67 rfl (cells_ext mauto Ext.auto) rfl) ?_
          refine dr_l (x_move rfl) ?_
          refine dr_l (x_move rfl) ?_
          refine dr_sk ?_
          refine dr_l (x_pick_f rfl rfl rfl) ?_
          refine dr_l (x_move rfl) ?_
          refine dr_sk ?_
          refine dr_l (x_pick_f rfl rfl rfl) ?_
          refine dr_l (x_move rfl) ?_
          refine dr_sk ?_
          refine dr_sk ?_
          refine dr_l (x_pick_f rfl rfl rfl) ?_
          refine dr_store0 rfl rfl (wtd_none rfl) (x_store sz67 rfl rfl rfl rfl rfl Repl.auto Spl.auto) (by first | rfl | simp [keys_append, keys_cons]) ?_
          refine dr_l (x_assign rfl) ?_
          refine dr_nilX ?_
          refine aw_kp [2, 3] ?_
          refine aw_ret ?_
          show ∃ v H2, ResV _ _ _ _ _ _ v ∧ Sub H2 _ ∧ _
          exact ⟨_, H, resV rfl (.cons (⟨_, rfl, fun hw => rd_loadVarN ag67 sz67 hw (cells_ext mauto Ext.auto) rfl⟩) (.cons rfl .nil)), Sub.autoP, ⟨.inr ⟨by rw [partB_01 h58 h45, fromP_bad hna], ⟨a, b, 1⟩, rfl⟩, rfl⟩⟩
    · refine sr_mv ?_
      refine sr_rd (x_extract rfl rfl) ?_
      refine sr_rd (x_extract rfl rfl) ?_
      refine sr_rd (x_extract rfl rfl) ?_
      refine sr_as ?_
      refine sr_as ?_
      refine sr_as ?_
      refine sr_nil ?_
      refine aw_kp [2, 3, 4, 6, 7, 8, 9, 10] ?_
      refine aw_seq_region ?_
      refine sr_as ?_
      refine sr_as ?_
      refine sr_as ?_
      refine sr_nil ?_
      refine aw_kp [2, 3, 4, 6, 7, 8, 9, 10, 11, 12, 13] ?_
      refine aw_seq_region ?_
      refine sr_mv ?_
      refine sr_d rfl (wtd_none rfl) rfl (opS_call rfl rfl rfl rfl cl84 (numb_s w _ (by omega))) ?_
      rintro _ H9 ⟨hnum, rfl⟩
      obtain ⟨a, hna, rfl⟩ | ⟨hna, a, rfl⟩ := hnum
      · refine sr_mv ?_
        refine sr_rd (x_extract rfl rfl) ?_
        refine sr_rd (x_extract rfl rfl) ?_
        refine sr_rd (x_fieldAddr fd67_0 rfl) ?_
        refine sr_x0 rfl (wtd_none rfl) (x_store sz3 rfl rfl rfl rfl rfl Repl.auto Spl.auto) ?_
        refine sr_as ?_
        refine sr_nil ?_
        refine aw_kp [2, 3, 4, 6, 7, 9, 10, 11, 12, 13] ?_
        refine aw_seq_region ?_
        refine sr_rd (x_fieldAddr fd67_0 rfl) ?_
        refine sr_rd (x_load ag3 rfl (cells_ext mauto Ext.auto)) ?_
        refine sr_rd (x_fieldAddr fd67_1 rfl) ?_
        refine sr_x0 rfl (wtd_none rfl) (x_store sz3 rfl rfl rfl rfl rfl Repl.auto Spl.auto) ?_
        refine sr_nil ?_
        refine aw_kp [2, 3, 4, 6, 7, 9, 10, 11, 12, 13] ?_
        refine aw_seq ?_
        refine aw_seq_region ?_
        refine sr_mv ?_
        refine sr_nil ?_
        refine aw_kp [2, 3, 4, 6, 7, 9, 11, 12, 13, 36] ?_
        refine aw_false rfl ?_
        refine aw_skip ?_
        show AW _ _ _ _ _ _ _
        refine aw_seq ?_
        refine aw_seq_region ?_
        refine sr_mv ?_
        refine sr_nil ?_
        refine aw_kp [2, 3, 4, 6, 11, 12, 13, 51] ?_
        refine aw_false rfl ?_
        refine aw_skip ?_
        show AW _ _ _ _ _ _ _
        refine aw_seq_drX (G := (r0_0, .cells (Part.cells zeroP).toArray 67 (0, 0)) :: []) (X := (r1_1, .cells (Part.cells ⟨a, a, 1⟩).toArray 67 (0, 0)) :: H) ⟨_, 14, 76, [[], [], [1], [1, 2], [1, 2, 3], [1, 2, 3, 4], [1, 2, 3, 4, 5], [1, 2, 3, 4, 5, 6], [1, 2, 3, 4, 5, 6, 7], [1, 2, 3, 4, 5, 6, 7, 8], [1, 2, 3, 4, 5, 6, 7, 8, 9], [1, 2, 3, 4, 5, 6, 7, 8, 9, 10], [0, 1, 2, 3, 4, 5, 6, 7, 8, 9, 10], [0, 1, 2, 3, 4, 5, 6, 7, 8, 9, 10, 11, 12]], [.light, .light, .light, .light, .light, .light, .light, .light, .light, .light, .call, .light, .eff, .light]⟩ (by kernel_rfl) rfl rfl mix Sub.autoP ?_
        refine dr_fix rfl rfl (wtd_none rfl) (x_loadN ag67 sz67 rfl (cells_ext mauto Ext.auto) rfl) ?_
        refine dr_l (x_move rfl) ?_
        refine dr_l (x_move rfl) ?_
        refine dr_y (x_move rfl) ?_
        refine dr_l (x_pick_t rfl rfl rfl) ?_
        refine dr_l (x_move rfl) ?_
        refine dr_y (x_move rfl) ?_
        refine dr_l (x_pick_t rfl rfl rfl) ?_
        refine dr_l (x_move rfl) ?_
        refine dr_fix rfl rfl (wtd_yes rfl rfl rfl) (x_loadN ag67 sz67 rfl (cells_ext mauto Ext.auto) rfl) ?_
        refine dr_callq0 rfl rfl (wtd_yes rfl rfl rfl) (opS_F rfl rfl rfl rfl cl40 ((pright_s ⟨a, a, 1⟩ _))) (⟨_, rfl⟩) ?_
        rintro _ rfl
        generalize hd : decide (PRight ⟨a, a, 1⟩) = d1
        cases d1
        · refine dr_l (x_pick_t rfl rfl rfl) ?_
          refine dr_store0 rfl rfl (wtd_none rfl) (x_store sz67 rfl rfl rfl rfl rfl Repl.auto Spl.auto) (by first | rfl | simp [keys_append, keys_cons]) ?_
          refine dr_l (x_assign rfl) ?_
          refine dr_nilX ?_
          refine aw_kp [2, 3] ?_
          refine aw_ret ?_
          show ∃ v H2, ResV _ _ _ _ _ _ v ∧ Sub H2 _ ∧ _
          exact ⟨_, H, resV rfl (.cons (⟨_, rfl, fun hw => rd_loadVarN ag67 sz67 hw (cells_ext mauto Ext.auto) rfl⟩) (.cons rfl .nil)), Sub.autoP, ⟨.inr ⟨by rw [partB_00 h58 h45, fromP_ok hna, toP_0, stepP_0, mkP_n (of_decide_eq_false hd)], ⟨a, a, 1⟩, rfl⟩, rfl⟩⟩
        · refine dr_l (x_pick_t rfl rfl rfl) ?_
          refine dr_store0 rfl rfl (wtd_none rfl) (x_store sz67 rfl rfl rfl rfl rfl Repl.auto Spl.auto) (by first | rfl | simp [keys_append, keys_cons]) ?_
          refine dr_l (x_assign rfl) ?_
          refine dr_nilX ?_
          refine aw_kp [2, 3] ?_
          refine aw_ret ?_
          show ∃ v H2, ResV _ _ _ _ _ _ v ∧ Sub H2 _ ∧ _
          exact ⟨_, H, resV rfl (.cons (⟨_, rfl, fun hw => rd_loadVarN ag67 sz67 hw (cells_ext mauto Ext.auto) rfl⟩) (.cons rfl .nil)), Sub.autoP, ⟨.inl ⟨_, by rw [partB_00 h58 h45, fromP_ok hna, toP_0, stepP_0, mkP_y (of_decide_eq_true hd)], rfl⟩, rfl⟩⟩
      · refine sr_mv ?_
        refine sr_rd (x_extract rfl rfl) ?_
        refine sr_rd (x_extract rfl rfl) ?_
        refine sr_rd (x_fieldAddr fd67_0 rfl) ?_
        refine sr_x0 rfl (wtd_none rfl) (x_store sz3 rfl rfl rfl rfl rfl Repl.auto Spl.auto) ?_
        refine sr_as ?_
        refine sr_nil ?_
        refine aw_kp [2, 3, 4, 6, 7, 9, 10, 11, 12, 13] ?_
        refine aw_seq_region ?_
        refine sr_rd (x_fieldAddr fd67_0 rfl) ?_
        refine sr_rd (x_load ag3 rfl (cells_ext mauto Ext.auto)) ?_
        refine sr_rd (x_fieldAddr fd67_1 rfl) ?_
        refine sr_x0 rfl (wtd_none rfl) (x_store sz3 rfl rfl rfl rfl rfl Repl.auto Spl.auto) ?_
        refine sr_nil ?_
        refine aw_kp [2, 3, 4, 6, 7, 9, 10, 11, 12, 13] ?_
        refine aw_seq ?_
        refine aw_seq_region ?_
        refine sr_mv ?_
        refine sr_nil ?_
        refine aw_kp [2, 3, 4, 6, 7, 9, 11, 12, 13, 36] ?_
        refine aw_false rfl ?_
        refine aw_skip ?_
        show AW _ _ _ _ _ _ _
        refine aw_seq ?_
        refine aw_seq_region ?_
        refine sr_mv ?_
        refine sr_nil ?_
        refine aw_kp [2, 3, 4, 6, 11, 12, 13, 51] ?_
        refine aw_false rfl ?_
        refine aw_skip ?_
        show AW _ _ _ _ _ _ _
        refine aw_seq_drX (G := (r0_0, .cells (Part.cells zeroP).toArray 67 (0, 0)) :: []) (X := (r1_1, .cells (Part.cells ⟨a, a, 1⟩).toArray 67 (0, 0)) :: H) ⟨_, 14, 76, [[], [], [1], [1, 2], [1, 2, 3], [1, 2, 3, 4], [1, 2, 3, 4, 5], [1, 2, 3, 4, 5, 6], [1, 2, 3, 4, 5, 6, 7], [1, 2, 3, 4, 5, 6, 7, 8], [1, 2, 3, 4, 5, 6, 7, 8, 9], [1, 2, 3, 4, 5, 6, 7, 8, 9, 10], [0, 1, 2, 3, 4, 5, 6, 7, 8, 9, 10], [0, 1, 2, 3, 4, 5, 6, 7, 8, 9, 10, 11, 12]], [.light, .light, .light, .light, .light, .light, .light, .light, .light, .light, .call, .light, .eff, .light]⟩ (by kernel_rfl) rfl rfl mix Sub.autoP ?_
        refine dr_fix rfl rfl (wtd_none rfl) (x_loadN ag67 sz67 rfl (cells_ext mauto Ext.auto) rfl) ?_
        refine dr_l (x_move rfl) ?_
        refine dr_l (x_move rfl) ?_
        refine dr_sk ?_
        refine dr_l (x_pick_f rfl rfl rfl) ?_
        refine dr_l (x_move rfl) ?_
        refine dr_sk ?_
        refine dr_l (x_pick_f rfl rfl rfl) ?_
        refine dr_l (x_move rfl) ?_
        refine dr_sk ?_
        refine dr_sk ?_
        refine dr_l (x_pick_f rfl rfl rfl) ?_
        refine dr_store0 rfl rfl (wtd_none rfl) (x_store sz67 rfl rfl rfl rfl rfl Repl.auto Spl.auto) (by first | rfl | simp [keys_append, keys_cons]) ?_
        refine dr_l (x_assign rfl) ?_
        refine dr_nilX ?_
        refine aw_kp [2, 3] ?_
        refine aw_ret ?_
        show ∃ v H2, ResV _ _ _ _ _ _ v ∧ Sub H2 _ ∧ _
        exact ⟨_, H, resV rfl (.cons (⟨_, rfl, fun hw => rd_loadVarN ag67 sz67 hw (cells_ext mauto Ext.auto) rfl⟩) (.cons rfl .nil)), Sub.autoP, ⟨.inr ⟨by rw [partB_00 h58 h45, fromP_bad hna], ⟨a, a, 1⟩, rfl⟩, rfl⟩⟩
set_option maxRecDepth 100000 in
set_option maxHeartbeats 2000000 in
theorem parsep_s (l : List UInt8) (hl : l.length ≤ 9223372036854775807) (H : SHeap) : AC Tryd.prog W0 44 [.string (bs l)] H (fun v H' => ∃ a cap E, v = .tuple #[.slice a (parseP l).1.length cap, .int .i64 (parseP l).2] ∧ OwnVec 3 67 (.slice a (parseP l).1.length cap) (parseP l).1.length (((parseP l).1).flatMap Part.cells) E ∧ H' = E ++ H) := by
  refine ac_of Tryd.func44 rfl rfl rfl ?_
  refine aw_seq_region ?_
  refine sr_as ?_
  refine sr_as ?_
  refine sr_nil ?_
  refine aw_kp [0, 2, 3] ?_
  refine aw_seq_region ?_
  refine sr_as ?_
  refine sr_nil ?_
  refine aw_kp [0, 2, 3, 4] ?_
  refine aw_seq ?_
  refine aw_seq_region ?_
  refine sr_mv ?_
  refine sr_rd (x_lenB Tryd.underlying9 rfl) ?_
  refine sr_c (x_gt rfl rfl) (fun h1 => ?_) (fun h1 => ?_)
  · refine sr_nil ?_
    refine aw_kp [0, 2, 3, 4, 11] ?_
    refine aw_true rfl ?_
    refine aw_seq_region ?_
    refine sr_as ?_
    refine sr_as ?_
    refine sr_nil ?_
    refine aw_kp [0, 2, 3, 4] ?_
    refine aw_ret ?_
    show ∃ v H2, ResV _ _ _ _ _ _ v ∧ Sub H2 _ ∧ _
    (rw [parseP_long (by omega)]; exact ⟨_, H, resV rfl (.cons rfl (.cons rfl .nil)), Sub.autoP, none, 0, [], rfl, .nil, rfl⟩)
  · refine sr_nil ?_
    refine aw_kp [0, 2, 3, 4, 11] ?_
    refine aw_false rfl ?_
    refine aw_skip ?_
    show AW _ _ _ _ _ _ _
    refine aw_seq ?_
    refine aw_seq_region ?_
    have hgo0 : parseP l = rdP [] ((spl 44 l).drop 0) := parseP_go (by omega)
    refine sr_mv ?_
    refine sr_d rfl (wtd_none rfl) rfl (opS_call rfl rfl rfl rfl cl51 (split_s l 44 (by omega) _)) ?_
    rintro _ _ ⟨a, cap, E, rfl, V, rfl⟩
    have hmem := spl_mem_len (c := 44) (l := l)
    have hsl := spl_len (c := 44) (l := l)
    have hcl := cntB_le 44 l
    have hsV := V.slv' (W0 := W0) (xs := spl 44 l) (fun _ => rfl) rfl (Sub.refl _)
    have hleV := hsV.le
    have hcbV := hsV.capb
    refine sr_rd (x_lenSlice Tryd.underlying49 rfl) ?_
    refine sr_mv ?_
    refine sr_nil ?_
    refine aw_kp [2, 3, 4, 13, 14, 15] ?_
    refine aw_block ?_
    refine aw_loop (ι := PpG) (fun s => s.k ≤ (spl 44 l).length ∧ s.acc.length = s.k ∧ parseP l = rdP s.acc ((spl 44 l).drop s.k) ∧ OwnVec 3 67 s.sl s.acc.length ((s.acc).flatMap Part.cells) s.E) (fun s => [(2, .slice none 0 0), (3, .int .i64 0), (4, s.sl), (13, .slice a (spl 44 l).length cap), (14, .int .i64 (spl 44 l).length), (15, .int .i64 s.k)]) (fun s => s.E ++ (E ++ H)) (fun s => (spl 44 l).length - s.k) ⟨0, [], .slice none 0 0, []⟩ (⟨Nat.zero_le _, rfl, hgo0, .nil⟩) KeepF.auto Sub.autoP ?_
    intro s hs9
    obtain ⟨k, acc, sl, EK⟩ := s
    dsimp only at hs9 ⊢
    obtain ⟨hk, hal, hgo, VK⟩ := hs9
    obtain ⟨a1, c1, rfl⟩ := VK.isSl
    refine aw_seq_region ?_
    refine sr_c (x_lt rfl rfl) (fun h2 => ?_) (fun h2 => ?_)
    · refine sr_nil ?_
      refine aw_kp [2, 3, 4, 13, 14, 15, 16] ?_
      refine aw_seq ?_
      refine aw_true rfl ?_
      refine aw_skip ?_
      show AW _ _ _ _ _ _ _
      refine aw_seq ?_
      refine aw_block ?_
      refine aw_seq_region ?_
      obtain ⟨x, hx⟩ := get_ex (show k < (spl 44 l).length by omega)
      obtain ⟨bx, ox, hax, hcx⟩ := hsV.at_ k x hx
      have hxl := hmem x (List.mem_of_getElem? hx)
      refine sr_rd (x_indexAddrN (k) Tryd.underlying49 sz9 rfl hax rfl (by omega) (by omega)) ?_
      refine sr_rd (x_load ag9 rfl (Cells.mono hcx Sub.autoE)) ?_
      refine sr_as ?_
      refine sr_nil ?_
      refine aw_kp [2, 3, 4, 6, 13, 14, 15, 16, 17, 18] ?_
      refine aw_seq_region ?_
      refine sr_mv ?_
      refine sr_d rfl (wtd_none rfl) rfl (opS_call rfl rfl rfl rfl cl69 (part_s x (by omega) _)) ?_
      rintro _ H9 ⟨hep, rfl⟩
      obtain ⟨p, hep, rfl⟩ | ⟨hep, p, rfl⟩ := hep
      · refine sr_mv ?_
        refine sr_rd (x_extract rfl rfl) ?_
        refine sr_rd (x_extract rfl rfl) ?_
        refine sr_new rfl (wtd_none rfl) rfl (x_alloc zr67 rfl) ?_
        intro r7_5 hr7_5 gr7_5
        refine sr_x0 rfl (wtd_none rfl) (x_store sz67 rfl rfl rfl rfl rfl Repl.auto Spl.auto) ?_
        refine sr_as ?_
        refine sr_nil ?_
        refine aw_kp [2, 3, 4, 6, 7, 8, 13, 14, 15, 16, 17, 18, 19, 20, 21, 22, 23] ?_
        refine aw_seq ?_
        refine aw_seq_region ?_
        refine sr_mv ?_
        refine sr_rd (x_not rfl) ?_
        refine sr_nil ?_
        refine aw_kp [2, 3, 4, 6, 7, 8, 13, 14, 15, 16, 17, 18, 19, 20, 21, 22, 23, 24, 25] ?_
        refine aw_false rfl ?_
        refine aw_skip ?_
        show AW _ _ _ _ _ _ _
        refine aw_region ?_
        refine sr_mv ?_
        refine sr_rd (x_loadN ag67 sz67 rfl (cells_ext mauto Ext.auto) rfl) ?_
        refine sr_new rfl (wtd_none rfl) rfl (x_buildSlice Tryd.underlying62 sz67 zr67 rfl rfl rfl rfl Parts.auto Fill.auto) ?_
        intro r10_2 hr10_2 gr10_2
        refine sr_d rfl (wtd_none rfl) rfl (opS_append (G := E ++ H) (N := p.cells) (m := 1) Tryd.underlying62 sz67 zr67 rfl by67 rfl rfl VK Sub.autoP (.inr ⟨_, _, rfl, (cells_ext mauto Ext.auto)⟩) (rfl) rfl (by omega) (by omega)) ?_
        rintro v29 _ ⟨E29, hV29, rfl⟩
        obtain ⟨a29, cap29, rfl⟩ := hV29.isSl
        refine sr_as ?_
        refine sr_nil ?_
        show AW _ _ _ _ _ _ _
        refine aw_region ?_
        refine sr_rd (x_add' rfl rfl (i64w (by omega) (by omega))) ?_
        refine sr_mv ?_
        refine sr_nil ?_
        show ∃ s', _ ∧ _ ∧ _ ∧ _
        exact ⟨⟨k + 1, acc ++ [p], .slice a29 (acc.length + 1) cap29, E29⟩, ⟨by dsimp only; omega, by dsimp only; rw [List.length_append, List.length_singleton]; omega, (by dsimp only; rw [hgo, drop_at hx, rdP_ok hep]), (by dsimp only; have h9 := hV29.snocS; rw [List.length_append] at h9 ⊢; exact h9)⟩, by dsimp only; omega, KeepF.auto, Sub.autoP⟩
      · refine sr_mv ?_
        refine sr_rd (x_extract rfl rfl) ?_
        refine sr_rd (x_extract rfl rfl) ?_
        refine sr_new rfl (wtd_none rfl) rfl (x_alloc zr67 rfl) ?_
        intro r7_5 hr7_5 gr7_5
        refine sr_x0 rfl (wtd_none rfl) (x_store sz67 rfl rfl rfl rfl rfl Repl.auto Spl.auto) ?_
        refine sr_as ?_
        refine sr_nil ?_
        refine aw_kp [2, 3, 4, 6, 7, 8, 13, 14, 15, 16, 17, 18, 19, 20, 21, 22, 23] ?_
        refine aw_seq ?_
        refine aw_seq_region ?_
        refine sr_mv ?_
        refine sr_rd (x_not rfl) ?_
        refine sr_nil ?_
        refine aw_kp [2, 3, 4, 6, 7, 8, 13, 14, 15, 16, 17, 18, 19, 20, 21, 22, 23, 24, 25] ?_
        refine aw_true rfl ?_
        refine aw_seq_region ?_
        refine sr_as ?_
        refine sr_as ?_
        refine sr_nil ?_
        refine aw_kp [2, 3, 4, 6, 7, 8, 13, 14, 15, 16, 17, 18, 19, 20, 21, 22, 23, 24, 25] ?_
        refine aw_ret ?_
        show ∃ v H2, ResV _ _ _ _ _ _ v ∧ Sub H2 _ ∧ _
        (rw [hgo, drop_at hx, rdP_bad hep]; exact ⟨_, H, resV rfl (.cons rfl (.cons rfl .nil)), Sub.autoP, none, 0, [], rfl, .nil, rfl⟩)
    · refine sr_nil ?_
      refine aw_kp [2, 3, 4, 13, 14, 15, 16] ?_
      refine aw_seq ?_
      refine aw_false rfl ?_
      refine aw_exit ?_
      show AW _ _ _ _ _ _ _
      refine aw_seq_region ?_
      refine sr_mv ?_
      refine sr_as ?_
      refine sr_as ?_
      refine sr_nil ?_
      refine aw_kp [2, 3] ?_
      refine aw_ret ?_
      show ∃ v H2, ResV _ _ _ _ _ _ v ∧ Sub H2 _ ∧ _
      (rw [hgo, List.drop_eq_nil_of_le (by omega)]; exact ⟨_, EK ++ H, resV rfl (.cons rfl (.cons rfl .nil)), Sub.autoP, a1, c1, EK, rfl, VK, rfl⟩)
set_option maxRecDepth 100000 in
set_option maxHeartbeats 400000 in
theorem awake35_s (H : SHeap) : AC Tryd.prog W0 43 [] H (fun v H' => v = .bool true ∧ H' = H) := by
  refine ac_of Tryd.func43 rfl rfl rfl ?_
  refine aw_seq_region ?_
  refine sr_as ?_
  refine sr_nil ?_
  refine aw_kp [0] ?_
  refine aw_seq_region ?_
  refine sr_d rfl (wtd_none rfl) rfl (opS_call rfl rfl rfl rfl cl44 (parsep_s [49, 45, 57, 58, 52, 44, 50, 48] (by decide) _)) ?_
  rintro _ _ ⟨a, cap, E, rfl, V, rfl⟩
  rw [show parseP [49, 45, 57, 58, 52, 44, 50, 48] = ([(⟨1, 9, 4⟩ : Part), ⟨20, 20, 1⟩], 0) from by kernel_rfl] at V ⊢
  refine sr_mv ?_
  refine sr_rd (x_extract rfl rfl) ?_
  refine sr_rd (x_extract rfl rfl) ?_
  refine sr_as ?_
  refine sr_as ?_
  refine sr_nil ?_
  refine aw_kp [0, 1, 2] ?_
  refine aw_seq_region ?_
  refine sr_mv ?_
  refine sr_d rfl (wtd_none rfl) rfl (opS_call rfl rfl rfl rfl cl42 (numbers_s a cap [(⟨1, 9, 4⟩ : Part), ⟨20, 20, 1⟩] _ (V.slv' (fun _ => rfl) rfl Sub.autoE))) ?_
  rintro _ _ ⟨ys, e, a3, c3, E3, rfl, hN, V3, rfl⟩
  obtain ⟨rfl, rfl⟩ := awk_num hN
  have hs3 := V3.slv' (W0 := W0) (xs := ([1, 5, 9, 20] : List Int)) (fun _ => rfl) rfl (Sub.refl _)
  obtain ⟨b2, o2, ha2, hc2⟩ := hs3.at_ 2 _ rfl
  obtain ⟨b3, o3, ha3, hc3⟩ := hs3.at_ 3 _ rfl
  refine sr_mv ?_
  refine sr_rd (x_extract rfl rfl) ?_
  refine sr_rd (x_extract rfl rfl) ?_
  refine sr_as ?_
  refine sr_as ?_
  refine sr_nil ?_
  refine aw_kp [0, 2, 3, 4] ?_
  refine aw_seq_region ?_
  refine sr_mv ?_
  refine sr_c (x_eq rfl rfl) (fun h1 => ?_) (fun h1 => absurd (by rfl) h1)
  refine sr_mv ?_
  refine sr_ry (x_move rfl) ?_
  refine sr_cy (x_eq rfl rfl) (fun h2 => ?_) (fun h2 => absurd (by rfl) h2)
  refine sr_rd (x_pick_t rfl rfl rfl) ?_
  refine sr_mv ?_
  refine sr_ry (x_move rfl) ?_
  refine sr_ry (x_lenSlice Tryd.underlying69 rfl) ?_
  refine sr_cy (x_eq rfl rfl) (fun h3 => ?_) (fun h3 => absurd (by rfl) h3)
  refine sr_rd (x_pick_t rfl rfl rfl) ?_
  refine sr_mv ?_
  refine sr_ry (x_move rfl) ?_
  refine sr_ry (x_indexAddrN 2 Tryd.underlying69 sz3 rfl ha2 rfl (by omega) (by decide)) ?_
  refine sr_ry (x_load ag3 rfl (cells_get (Cells.mono hc2 Sub.autoE) 0 rfl)) ?_
  refine sr_cy (x_eq rfl rfl) (fun h4 => ?_) (fun h4 => absurd (by rfl) h4)
  refine sr_rd (x_pick_t rfl rfl rfl) ?_
  refine sr_mv ?_
  refine sr_ry (x_move rfl) ?_
  refine sr_ry (x_indexAddrN 3 Tryd.underlying69 sz3 rfl ha3 rfl (by omega) (by decide)) ?_
  refine sr_ry (x_load ag3 rfl (cells_get (Cells.mono hc3 Sub.autoE) 0 rfl)) ?_
  refine sr_cy (x_eq rfl rfl) (fun h5 => ?_) (fun h5 => absurd (by rfl) h5)
  refine sr_rd (x_pick_t rfl rfl rfl) ?_
  refine sr_as ?_
  refine sr_nil ?_
  refine aw_kp [0] ?_
  refine aw_ret ?_
  show ∃ v H2, ResV _ _ _ _ _ _ v ∧ Sub H2 _ ∧ _
  exact ⟨_, H, resV rfl (.cons rfl .nil), Sub.autoP, ⟨rfl, rfl⟩⟩
set_option maxRecDepth 100000 in
set_option maxHeartbeats 2000000 in
theorem ltext_s (sa : Option Addr) (scap : Nat) (l : List Part) (H : SHeap) (hs : SlV W0 H 3 Part.cells sa scap l) (hw : ∀ x ∈ l, WfP x) (hl : l.length ≤ 10000) : AC Tryd.prog W0 45 [.slice sa l.length scap] H (fun v H' => v = .string (bs (txtP l)) ∧ H' = H) := by
  have hle := hs.le
  have hcb := hs.capb
  refine ac_of Tryd.func45 rfl rfl rfl ?_
  refine aw_seq_region ?_
  refine sr_as ?_
  refine sr_nil ?_
  refine aw_kp [0, 2] ?_
  refine aw_seq_region ?_
  refine sr_as ?_
  refine sr_nil ?_
  refine aw_kp [0, 2, 3] ?_
  refine aw_seq ?_
  refine aw_seq_region ?_
  refine sr_as ?_
  refine sr_nil ?_
  refine aw_kp [0, 2, 3, 4] ?_
  refine aw_block ?_
  refine aw_loop (ι := Nat) (fun k => k ≤ l.length) (fun k => [(0, .slice sa l.length scap), (2, .string (bs [])), (3, .string (bs (txtP (l.take k)))), (4, .int .i64 k)]) (fun _ => H) (fun k => l.length - k) 0 (Nat.zero_le _) KeepF.auto Sub.autoP ?_
  intro k hk
  refine aw_seq ?_
  refine aw_seq_region ?_
  refine sr_mv ?_
  refine sr_mv ?_
  refine sr_rd (x_lenSlice Tryd.underlying62 rfl) ?_
  refine sr_c (x_lt rfl rfl) (fun h1 => ?_) (fun h1 => ?_)
  · refine sr_nil ?_
    refine aw_kp [0, 2, 3, 4, 5, 6, 7, 8] ?_
    refine aw_true rfl ?_
    refine aw_skip ?_
    show AW _ _ _ _ _ _ _
    refine aw_seq ?_
    refine aw_block ?_
    refine aw_seq ?_
    refine aw_seq_region ?_
    obtain ⟨x, hx⟩ := get_ex (show k < l.length by omega)
    obtain ⟨bx, ox, hax, hcx⟩ := hs.at_ k _ hx
    have hwx := hw x (List.mem_of_getElem? hx)
    have n1 := numB_len hwx.1.1 hwx.1.2
    have n2 := numB_len hwx.2.1.1 hwx.2.1.2
    have n3 := numB_len hwx.2.2.1 hwx.2.2.2
    have htl := txtP_len (l := l.take k) (fun y hy => hw y (List.mem_of_mem_take hy))
    rw [List.length_take] at htl
    refine sr_mv ?_
    refine sr_c (x_gt rfl rfl) (fun h2 => ?_) (fun h2 => ?_)
    · refine sr_nil ?_
      refine aw_kp [0, 2, 3, 4, 5, 6, 7, 8, 11, 12] ?_
      refine aw_true rfl ?_
      refine aw_region ?_
      refine sr_mv ?_
      refine sr_rd (x_catB rfl rfl (by first | omega | (simp only [List.length_append, List.length_cons, List.length_nil]; omega))) ?_
      refine sr_as ?_
      refine sr_nil ?_
      show AW _ _ _ _ _ _ _
      refine aw_seq_region ?_
      refine sr_mv ?_
      refine sr_mv ?_
      refine sr_mv ?_
      refine sr_rd (x_indexAddrN (k) Tryd.underlying62 sz67 rfl hax rfl (by omega) (by omega)) ?_
      refine sr_rd (x_fieldAddr fd67_0 rfl) ?_
      refine sr_rd (x_load ag3 rfl (cells_get (Cells.mono hcx Sub.autoR) 0 rfl)) ?_
      refine sr_d rfl (wtd_none rfl) rfl (opS_call rfl rfl rfl rfl cl27 (number_s x.from_ hwx.1 _)) ?_
      rintro _ H9 ⟨rfl, rfl⟩
      refine sr_rd (x_catB rfl rfl (by first | omega | (simp only [List.length_append, List.length_cons, List.length_nil]; omega))) ?_
      refine sr_as ?_
      refine sr_nil ?_
      refine aw_kp [0, 2, 3, 4, 5, 6, 7, 8, 11, 12, 13, 14, 15, 16, 17, 18, 19, 20, 21, 22] ?_
      refine aw_seq ?_
      refine aw_seq_dr ⟨_, 11, 59, [[], [], [0, 1], [0, 1, 2], [0, 1, 2, 3], [], [], [5, 6], [5, 6, 7], [5, 6, 7, 8], [0, 1, 2, 3, 4, 5, 6, 7, 8, 9]], [.light, .light, .light, .light, .mem, .light, .light, .light, .light, .mem, .light]⟩ (by kernel_rfl) rfl rfl mix ?_
      refine dr_l (x_move rfl) ?_
      refine dr_l (x_move rfl) ?_
      refine dr_l (x_indexAddrN (k) Tryd.underlying62 sz67 rfl hax rfl (by omega) (by omega)) ?_
      refine dr_l (x_fieldAddr fd67_1 rfl) ?_
      refine dr_mem0 rfl rfl (wtd_none rfl) (x_load ag3 rfl (cells_get (Cells.mono hcx Sub.autoR) 1 rfl)) ?_
      refine dr_l (x_move rfl) ?_
      refine dr_l (x_move rfl) ?_
      refine dr_l (x_indexAddrN (k) Tryd.underlying62 sz67 rfl hax rfl (by omega) (by omega)) ?_
      refine dr_l (x_fieldAddr fd67_0 rfl) ?_
      refine dr_mem0 rfl rfl (wtd_none rfl) (x_load ag3 rfl (cells_get (Cells.mono hcx Sub.autoR) 0 rfl)) ?_
      refine dr_cmp rfl rfl (wtd_none rfl) (x_ne rfl rfl) (fun h3 => ?_) (fun h3 => ?_)
      · refine dr_nil0 ?_
        refine aw_kp [0, 2, 3, 4, 5, 6, 7, 8, 11, 12, 13, 14, 15, 16, 17, 18, 19, 20, 21, 22, 23, 24, 25, 26, 27, 28, 29, 30, 31, 32, 33] ?_
        refine aw_true rfl ?_
        refine aw_region ?_
        refine sr_mv ?_
        refine sr_rd (x_catB rfl rfl (by first | omega | (simp only [List.length_append, List.length_cons, List.length_nil]; omega))) ?_
        refine sr_mv ?_
        refine sr_mv ?_
        refine sr_rd (x_indexAddrN (k) Tryd.underlying62 sz67 rfl hax rfl (by omega) (by omega)) ?_
        refine sr_rd (x_fieldAddr fd67_1 rfl) ?_
        refine sr_rd (x_load ag3 rfl (cells_get (Cells.mono hcx Sub.autoR) 1 rfl)) ?_
        refine sr_d rfl (wtd_none rfl) rfl (opS_call rfl rfl rfl rfl cl27 (number_s x.to_ hwx.2.1 _)) ?_
        rintro _ H9 ⟨rfl, rfl⟩
        refine sr_rd (x_catB rfl rfl (by first | omega | (simp only [List.length_append, List.length_cons, List.length_nil]; omega))) ?_
        refine sr_as ?_
        refine sr_nil ?_
        show AW _ _ _ _ _ _ _
        refine aw_seq_region ?_
        refine sr_mv ?_
        refine sr_mv ?_
        refine sr_rd (x_indexAddrN (k) Tryd.underlying62 sz67 rfl hax rfl (by omega) (by omega)) ?_
        refine sr_rd (x_fieldAddr fd67_2 rfl) ?_
        refine sr_rd (x_load ag3 rfl (cells_get (Cells.mono hcx Sub.autoR) 2 rfl)) ?_
        refine sr_c (x_ne rfl rfl) (fun h4 => ?_) (fun h4 => ?_)
        · refine sr_nil ?_
          refine aw_kp [0, 2, 3, 4, 5, 6, 7, 8, 11, 12, 13, 14, 15, 16, 17, 18, 19, 20, 21, 22, 23, 24, 25, 26, 27, 28, 29, 30, 31, 32, 33, 34, 35, 36, 37, 38, 39, 40, 41, 42, 43, 44, 45, 46, 47, 48] ?_
          refine aw_true rfl ?_
          refine aw_region ?_
          refine sr_mv ?_
          refine sr_rd (x_catB rfl rfl (by first | omega | (simp only [List.length_append, List.length_cons, List.length_nil]; omega))) ?_
          refine sr_mv ?_
          refine sr_mv ?_
          refine sr_rd (x_indexAddrN (k) Tryd.underlying62 sz67 rfl hax rfl (by omega) (by omega)) ?_
          refine sr_rd (x_fieldAddr fd67_2 rfl) ?_
          refine sr_rd (x_load ag3 rfl (cells_get (Cells.mono hcx Sub.autoR) 2 rfl)) ?_
          refine sr_d rfl (wtd_none rfl) rfl (opS_call rfl rfl rfl rfl cl27 (number_s x.step hwx.2.2 _)) ?_
          rintro _ H9 ⟨rfl, rfl⟩
          refine sr_rd (x_catB rfl rfl (by first | omega | (simp only [List.length_append, List.length_cons, List.length_nil]; omega))) ?_
          refine sr_as ?_
          refine sr_nil ?_
          show AW _ _ _ _ _ _ _
          refine aw_region ?_
          refine sr_mv ?_
          refine sr_rd (x_add' rfl rfl (i64w (by omega) (by omega))) ?_
          refine sr_as ?_
          refine sr_nil ?_
          show ∃ s', _ ∧ _ ∧ _ ∧ _
          exact ⟨k + 1, by omega, by omega, (keep_cons (t := 0) rfl (keep_cons (t := 2) rfl (keep_cons (t := 3) (congrArg (fun l => some (Value.string (bs l))) (by rw [txtP_s hx (by omega)]; unfold pTxt; rw [if_pos (by omega), if_pos (by omega)]; simp)) (keep_cons (t := 4) rfl keep_nil)))), Sub.autoP⟩
        · refine sr_nil ?_
          refine aw_kp [0, 2, 3, 4, 5, 6, 7, 8, 11, 12, 13, 14, 15, 16, 17, 18, 19, 20, 21, 22, 23, 24, 25, 26, 27, 28, 29, 30, 31, 32, 33, 34, 35, 36, 37, 38, 39, 40, 41, 42, 43, 44, 45, 46, 47, 48] ?_
          refine aw_false rfl ?_
          refine aw_skip ?_
          show AW _ _ _ _ _ _ _
          refine aw_region ?_
          refine sr_mv ?_
          refine sr_rd (x_add' rfl rfl (i64w (by omega) (by omega))) ?_
          refine sr_as ?_
          refine sr_nil ?_
          show ∃ s', _ ∧ _ ∧ _ ∧ _
          exact ⟨k + 1, by omega, by omega, (keep_cons (t := 0) rfl (keep_cons (t := 2) rfl (keep_cons (t := 3) (congrArg (fun l => some (Value.string (bs l))) (by rw [txtP_s hx (by omega)]; unfold pTxt; rw [if_pos (by omega), if_neg (by omega)]; simp)) (keep_cons (t := 4) rfl keep_nil)))), Sub.autoP⟩
      · refine dr_nil0 ?_
        refine aw_kp [0, 2, 3, 4, 5, 6, 7, 8, 11, 12, 13, 14, 15, 16, 17, 18, 19, 20, 21, 22, 23, 24, 25, 26, 27, 28, 29, 30, 31, 32, 33] ?_
        refine aw_false rfl ?_
        refine aw_skip ?_
        show AW _ _ _ _ _ _ _
        refine aw_seq_region ?_
        refine sr_mv ?_
        refine sr_mv ?_
        refine sr_rd (x_indexAddrN (k) Tryd.underlying62 sz67 rfl hax rfl (by omega) (by omega)) ?_
        refine sr_rd (x_fieldAddr fd67_2 rfl) ?_
        refine sr_rd (x_load ag3 rfl (cells_get (Cells.mono hcx Sub.autoR) 2 rfl)) ?_
        refine sr_c (x_ne rfl rfl) (fun h5 => ?_) (fun h5 => ?_)
        · refine sr_nil ?_
          refine aw_kp [0, 2, 3, 4, 5, 6, 7, 8, 11, 12, 13, 14, 15, 16, 17, 18, 19, 20, 21, 22, 23, 24, 25, 26, 27, 28, 29, 30, 31, 32, 33, 43, 44, 45, 46, 47, 48] ?_
          refine aw_true rfl ?_
          refine aw_region ?_
          refine sr_mv ?_
          refine sr_rd (x_catB rfl rfl (by first | omega | (simp only [List.length_append, List.length_cons, List.length_nil]; omega))) ?_
          refine sr_mv ?_
          refine sr_mv ?_
          refine sr_rd (x_indexAddrN (k) Tryd.underlying62 sz67 rfl hax rfl (by omega) (by omega)) ?_
          refine sr_rd (x_fieldAddr fd67_2 rfl) ?_
          refine sr_rd (x_load ag3 rfl (cells_get (Cells.mono hcx Sub.autoR) 2 rfl)) ?_
          refine sr_d rfl (wtd_none rfl) rfl (opS_call rfl rfl rfl rfl cl27 (number_s x.step hwx.2.2 _)) ?_
          rintro _ H9 ⟨rfl, rfl⟩
          refine sr_rd (x_catB rfl rfl (by first | omega | (simp only [List.length_append, List.length_cons, List.length_nil]; omega))) ?_
          refine sr_as ?_
          refine sr_nil ?_
          show AW _ _ _ _ _ _ _
          refine aw_region ?_
          refine sr_mv ?_
          refine sr_rd (x_add' rfl rfl (i64w (by omega) (by omega))) ?_
          refine sr_as ?_
          refine sr_nil ?_
          show ∃ s', _ ∧ _ ∧ _ ∧ _
          exact ⟨k + 1, by omega, by omega, (keep_cons (t := 0) rfl (keep_cons (t := 2) rfl (keep_cons (t := 3) (congrArg (fun l => some (Value.string (bs l))) (by rw [txtP_s hx (by omega)]; unfold pTxt; rw [if_neg (by omega), if_pos (by omega)]; simp)) (keep_cons (t := 4) rfl keep_nil)))), Sub.autoP⟩
        · refine sr_nil ?_
          refine aw_kp [0, 2, 3, 4, 5, 6, 7, 8, 11, 12, 13, 14, 15, 16, 17, 18, 19, 20, 21, 22, 23, 24, 25, 26, 27, 28, 29, 30, 31, 32, 33, 43, 44, 45, 46, 47, 48] ?_
          refine aw_false rfl ?_
          refine aw_skip ?_
          show AW _ _ _ _ _ _ _
          refine aw_region ?_
          refine sr_mv ?_
          refine sr_rd (x_add' rfl rfl (i64w (by omega) (by omega))) ?_
          refine sr_as ?_
          refine sr_nil ?_
          show ∃ s', _ ∧ _ ∧ _ ∧ _
          exact ⟨k + 1, by omega, by omega, (keep_cons (t := 0) rfl (keep_cons (t := 2) rfl (keep_cons (t := 3) (congrArg (fun l => some (Value.string (bs l))) (by rw [txtP_s hx (by omega)]; unfold pTxt; rw [if_neg (by omega), if_neg (by omega)]; simp)) (keep_cons (t := 4) rfl keep_nil)))), Sub.autoP⟩
    · refine sr_nil ?_
      refine aw_kp [0, 2, 3, 4, 5, 6, 7, 8, 11, 12] ?_
      refine aw_false rfl ?_
      refine aw_skip ?_
      show AW _ _ _ _ _ _ _
      refine aw_seq_region ?_
      refine sr_mv ?_
      refine sr_mv ?_
      refine sr_mv ?_
      refine sr_rd (x_indexAddrN (k) Tryd.underlying62 sz67 rfl hax rfl (by omega) (by omega)) ?_
      refine sr_rd (x_fieldAddr fd67_0 rfl) ?_
      refine sr_rd (x_load ag3 rfl (cells_get (Cells.mono hcx Sub.autoR) 0 rfl)) ?_
      refine sr_d rfl (wtd_none rfl) rfl (opS_call rfl rfl rfl rfl cl27 (number_s x.from_ hwx.1 _)) ?_
      rintro _ H9 ⟨rfl, rfl⟩
      refine sr_rd (x_catB rfl rfl (by first | omega | (simp only [List.length_append, List.length_cons, List.length_nil]; omega))) ?_
      refine sr_as ?_
      refine sr_nil ?_
      refine aw_kp [0, 2, 3, 4, 5, 6, 7, 8, 11, 12, 15, 16, 17, 18, 19, 20, 21, 22] ?_
      refine aw_seq ?_
      refine aw_seq_dr ⟨_, 11, 59, [[], [], [0, 1], [0, 1, 2], [0, 1, 2, 3], [], [], [5, 6], [5, 6, 7], [5, 6, 7, 8], [0, 1, 2, 3, 4, 5, 6, 7, 8, 9]], [.light, .light, .light, .light, .mem, .light, .light, .light, .light, .mem, .light]⟩ (by kernel_rfl) rfl rfl mix ?_
      refine dr_l (x_move rfl) ?_
      refine dr_l (x_move rfl) ?_
      refine dr_l (x_indexAddrN (k) Tryd.underlying62 sz67 rfl hax rfl (by omega) (by omega)) ?_
      refine dr_l (x_fieldAddr fd67_1 rfl) ?_
      refine dr_mem0 rfl rfl (wtd_none rfl) (x_load ag3 rfl (cells_get (Cells.mono hcx Sub.autoR) 1 rfl)) ?_
      refine dr_l (x_move rfl) ?_
      refine dr_l (x_move rfl) ?_
      refine dr_l (x_indexAddrN (k) Tryd.underlying62 sz67 rfl hax rfl (by omega) (by omega)) ?_
      refine dr_l (x_fieldAddr fd67_0 rfl) ?_
      refine dr_mem0 rfl rfl (wtd_none rfl) (x_load ag3 rfl (cells_get (Cells.mono hcx Sub.autoR) 0 rfl)) ?_
      refine dr_cmp rfl rfl (wtd_none rfl) (x_ne rfl rfl) (fun h6 => ?_) (fun h6 => ?_)
      · refine dr_nil0 ?_
        refine aw_kp [0, 2, 3, 4, 5, 6, 7, 8, 11, 12, 15, 16, 17, 18, 19, 20, 21, 22, 23, 24, 25, 26, 27, 28, 29, 30, 31, 32, 33] ?_
        refine aw_true rfl ?_
        refine aw_region ?_
        refine sr_mv ?_
        refine sr_rd (x_catB rfl rfl (by first | omega | (simp only [List.length_append, List.length_cons, List.length_nil]; omega))) ?_
        refine sr_mv ?_
        refine sr_mv ?_
        refine sr_rd (x_indexAddrN (k) Tryd.underlying62 sz67 rfl hax rfl (by omega) (by omega)) ?_
        refine sr_rd (x_fieldAddr fd67_1 rfl) ?_
        refine sr_rd (x_load ag3 rfl (cells_get (Cells.mono hcx Sub.autoR) 1 rfl)) ?_
        refine sr_d rfl (wtd_none rfl) rfl (opS_call rfl rfl rfl rfl cl27 (number_s x.to_ hwx.2.1 _)) ?_
        rintro _ H9 ⟨rfl, rfl⟩
        refine sr_rd (x_catB rfl rfl (by first | omega | (simp only [List.length_append, List.length_cons, List.length_nil]; omega))) ?_
        refine sr_as ?_
        refine sr_nil ?_
        show AW _ _ _ _ _ _ _
        refine aw_seq_region ?_
        refine sr_mv ?_
        refine sr_mv ?_
        refine sr_rd (x_indexAddrN (k) Tryd.underlying62 sz67 rfl hax rfl (by omega) (by omega)) ?_
        refine sr_rd (x_fieldAddr fd67_2 rfl) ?_
        refine sr_rd (x_load ag3 rfl (cells_get (Cells.mono hcx Sub.autoR) 2 rfl)) ?_
        refine sr_c (x_ne rfl rfl) (fun h7 => ?_) (fun h7 => ?_)
        · refine sr_nil ?_
          refine aw_kp [0, 2, 3, 4, 5, 6, 7, 8, 11, 12, 15, 16, 17, 18, 19, 20, 21, 22, 23, 24, 25, 26, 27, 28, 29, 30, 31, 32, 33, 34, 35, 36, 37, 38, 39, 40, 41, 42, 43, 44, 45, 46, 47, 48] ?_
          refine aw_true rfl ?_
          refine aw_region ?_
          refine sr_mv ?_
          refine sr_rd (x_catB rfl rfl (by first | omega | (simp only [List.length_append, List.length_cons, List.length_nil]; omega))) ?_
          refine sr_mv ?_
          refine sr_mv ?_
          refine sr_rd (x_indexAddrN (k) Tryd.underlying62 sz67 rfl hax rfl (by omega) (by omega)) ?_
          refine sr_rd (x_fieldAddr fd67_2 rfl) ?_
          refine sr_rd (x_load ag3 rfl (cells_get (Cells.mono hcx Sub.autoR) 2 rfl)) ?_
          refine sr_d rfl (wtd_none rfl) rfl (opS_call rfl rfl rfl rfl cl27 (number_s x.step hwx.2.2 _)) ?_
          rintro _ H9 ⟨rfl, rfl⟩
          refine sr_rd (x_catB rfl rfl (by first | omega | (simp only [List.length_append, List.length_cons, List.length_nil]; omega))) ?_
          refine sr_as ?_
          refine sr_nil ?_
          show AW _ _ _ _ _ _ _
          refine aw_region ?_
          refine sr_mv ?_
          refine sr_rd (x_add' rfl rfl (i64w (by omega) (by omega))) ?_
          refine sr_as ?_
          refine sr_nil ?_
          show ∃ s', _ ∧ _ ∧ _ ∧ _
          exact ⟨k + 1, by omega, by omega, (keep_cons (t := 0) rfl (keep_cons (t := 2) rfl (keep_cons (t := 3) (congrArg (fun l => some (Value.string (bs l))) (by rw [txtP_0 hx (by omega)]; unfold pTxt; rw [if_pos (by omega), if_pos (by omega)]; simp)) (keep_cons (t := 4) rfl keep_nil)))), Sub.autoP⟩
        · refine sr_nil ?_
          refine aw_kp [0, 2, 3, 4, 5, 6, 7, 8, 11, 12, 15, 16, 17, 18, 19, 20, 21, 22, 23, 24, 25, 26, 27, 28, 29, 30, 31, 32, 33, 34, 35, 36, 37, 38, 39, 40, 41, 42, 43, 44, 45, 46, 47, 48] ?_
          refine aw_false rfl ?_
          refine aw_skip ?_
          show AW _ _ _ _ _ _ _
          refine aw_region ?_
          refine sr_mv ?_
          refine sr_rd (x_add' rfl rfl (i64w (by omega) (by omega))) ?_
          refine sr_as ?_
          refine sr_nil ?_
          show ∃ s', _ ∧ _ ∧ _ ∧ _
          exact ⟨k + 1, by omega, by omega, (keep_cons (t := 0) rfl (keep_cons (t := 2) rfl (keep_cons (t := 3) (congrArg (fun l => some (Value.string (bs l))) (by rw [txtP_0 hx (by omega)]; unfold pTxt; rw [if_pos (by omega), if_neg (by omega)]; simp)) (keep_cons (t := 4) rfl keep_nil)))), Sub.autoP⟩
      · refine dr_nil0 ?_
        refine aw_kp [0, 2, 3, 4, 5, 6, 7, 8, 11, 12, 15, 16, 17, 18, 19, 20, 21, 22, 23, 24, 25, 26, 27, 28, 29, 30, 31, 32, 33] ?_
        refine aw_false rfl ?_
        refine aw_skip ?_
        show AW _ _ _ _ _ _ _
        refine aw_seq_region ?_
        refine sr_mv ?_
        refine sr_mv ?_
        refine sr_rd (x_indexAddrN (k) Tryd.underlying62 sz67 rfl hax rfl (by omega) (by omega)) ?_
        refine sr_rd (x_fieldAddr fd67_2 rfl) ?_
        refine sr_rd (x_load ag3 rfl (cells_get (Cells.mono hcx Sub.autoR) 2 rfl)) ?_
        refine sr_c (x_ne rfl rfl) (fun h8 => ?_) (fun h8 => ?_)
        · refine sr_nil ?_
          refine aw_kp [0, 2, 3, 4, 5, 6, 7, 8, 11, 12, 15, 16, 17, 18, 19, 20, 21, 22, 23, 24, 25, 26, 27, 28, 29, 30, 31, 32, 33, 43, 44, 45, 46, 47, 48] ?_
          refine aw_true rfl ?_
          refine aw_region ?_
          refine sr_mv ?_
          refine sr_rd (x_catB rfl rfl (by first | omega | (simp only [List.length_append, List.length_cons, List.length_nil]; omega))) ?_
          refine sr_mv ?_
          refine sr_mv ?_
          refine sr_rd (x_indexAddrN (k) Tryd.underlying62 sz67 rfl hax rfl (by omega) (by omega)) ?_
          refine sr_rd (x_fieldAddr fd67_2 rfl) ?_
          refine sr_rd (x_load ag3 rfl (cells_get (Cells.mono hcx Sub.autoR) 2 rfl)) ?_
          refine sr_d rfl (wtd_none rfl) rfl (opS_call rfl rfl rfl rfl cl27 (number_s x.step hwx.2.2 _)) ?_
          rintro _ H9 ⟨rfl, rfl⟩
          refine sr_rd (x_catB rfl rfl (by first | omega | (simp only [List.length_append, List.length_cons, List.length_nil]; omega))) ?_
          refine sr_as ?_
          refine sr_nil ?_
          show AW _ _ _ _ _ _ _
          refine aw_region ?_
          refine sr_mv ?_
          refine sr_rd (x_add' rfl rfl (i64w (by omega) (by omega))) ?_
          refine sr_as ?_
          refine sr_nil ?_
          show ∃ s', _ ∧ _ ∧ _ ∧ _
          exact ⟨k + 1, by omega, by omega, (keep_cons (t := 0) rfl (keep_cons (t := 2) rfl (keep_cons (t := 3) (congrArg (fun l => some (Value.string (bs l))) (by rw [txtP_0 hx (by omega)]; unfold pTxt; rw [if_neg (by omega), if_pos (by omega)]; simp)) (keep_cons (t := 4) rfl keep_nil)))), Sub.autoP⟩
        · refine sr_nil ?_
          refine aw_kp [0, 2, 3, 4, 5, 6, 7, 8, 11, 12, 15, 16, 17, 18, 19, 20, 21, 22, 23, 24, 25, 26, 27, 28, 29, 30, 31, 32, 33, 43, 44, 45, 46, 47, 48] ?_
          refine aw_false rfl ?_
          refine aw_skip ?_
          show AW _ _ _ _ _ _ _
          refine aw_region ?_
          refine sr_mv ?_
          refine sr_rd (x_add' rfl rfl (i64w (by omega) (by omega))) ?_
          refine sr_as ?_
          refine sr_nil ?_
          show ∃ s', _ ∧ _ ∧ _ ∧ _
          exact ⟨k + 1, by omega, by omega, (keep_cons (t := 0) rfl (keep_cons (t := 2) rfl (keep_cons (t := 3) (congrArg (fun l => some (Value.string (bs l))) (by rw [txtP_0 hx (by omega)]; unfold pTxt; rw [if_neg (by omega), if_neg (by omega)]; simp)) (keep_cons (t := 4) rfl keep_nil)))), Sub.autoP⟩
  · refine sr_nil ?_
    refine aw_kp [0, 2, 3, 4, 5, 6, 7, 8] ?_
    refine aw_false rfl ?_
    refine aw_exit ?_
    show AW _ _ _ _ _ _ _
    refine aw_seq_region ?_
    rw [List.take_of_length_le (show l.length ≤ k by omega)]
    refine sr_mv ?_
    refine sr_as ?_
    refine sr_nil ?_
    refine aw_kp [2] ?_
    refine aw_ret ?_
    show ∃ v H2, ResV _ _ _ _ _ _ v ∧ Sub H2 _ ∧ _
    exact ⟨_, H, resV rfl (.cons rfl .nil), Sub.autoP, ⟨rfl, rfl⟩⟩
end
end Go.Proofs.YtbcajgkaepihfaaDoor
