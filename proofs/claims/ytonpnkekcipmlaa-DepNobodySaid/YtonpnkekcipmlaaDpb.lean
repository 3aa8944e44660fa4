/- Graphs: the program's functions. -/
import Derived.Test.YtonpnkekcipmlaaDpa
namespace Go.Proofs.Ytonpnkekcipmlaa
open Go.Proofs.Ytonpnkekcipmlaa.Sym
open Go.RowKit (Below)
set_option linter.unusedVariables false
set_option linter.unusedSimpArgs false
theorem ag39 : aggOf Try.prog 39 = some false := by kernel_rfl
theorem ag4 : aggOf Try.prog 4 = some false := by kernel_rfl
theorem ag46 : aggOf Try.prog 46 = some true := by kernel_rfl
theorem by46 : bytesOf Try.prog 46 = some 24 := by kernel_rfl
theorem cl17 : Callable Try.prog 17 := ⟨Try.f17, Try.func17, by kernel_rfl, by kernel_rfl⟩
theorem cl29 : Callable Try.prog 29 := ⟨Try.f29, Try.func29, by kernel_rfl, by kernel_rfl⟩
theorem cl31 : Callable Try.prog 31 := ⟨Try.f31, Try.func31, by kernel_rfl, by kernel_rfl⟩
theorem cl33 : Callable Try.prog 33 := ⟨Try.f33, Try.func33, by kernel_rfl, by kernel_rfl⟩
theorem cl46 : Callable Try.prog 46 := ⟨Try.f46, Try.func46, by kernel_rfl, by kernel_rfl⟩
theorem fd46_2 : fldOf Try.prog 46 2 = some (2, 3, 1) := by kernel_rfl
theorem fd62_0 : fldOf Try.prog 62 0 = some (0, 39, 1) := by kernel_rfl
theorem fd62_1 : fldOf Try.prog 62 1 = some (1, 4, 1) := by kernel_rfl
theorem fl62 : flds Try.prog 62 = some [(0, 1), (1, 1)] := by kernel_rfl
theorem zr4 : zeroOf Try.prog 4 = some (.bool false) := by kernel_rfl
theorem zr46 : zeroOf Try.prog 46 = some (.agg #[.int .i64 0, .int .i64 0, .int .i64 0]) := by kernel_rfl
theorem zr62 : zeroOf Try.prog 62 = some (.agg #[.slice none 0 0, .bool false]) := by kernel_rfl
section
variable {W0 : World}
set_option maxRecDepth 100000 in
set_option maxHeartbeats 2000000 in
theorem ladd_s (a : Option Addr) (cap : Nat) (E : List DEdge) (Ei G : SHeap) (V : OwnVec 3 46 (.slice a E.length cap) E.length (E.flatMap DEdge.cells) Ei) (hl : E.length ≤ 500) (e : DEdge) : AC Try.prog W0 13 [.slice a E.length cap, DEdge.v e] (Ei ++ G) (fun v H' => ∃ (r : Int) (E2 : List DEdge) (a' : Option Addr) (c' : Nat) (Eo : SHeap), v = .tuple #[.slice a' E2.length c', .int .i64 r] ∧ AddD E e r E2 ∧ OwnVec 3 46 (.slice a' E2.length c') E2.length (E2.flatMap DEdge.cells) Eo ∧ H' = Eo ++ G) := by
  have hs := V.slv' (W0 := W0) (fun _ => rfl) rfl (Sub.refl _)
  have hle := hs.le
  have hcb := hs.capb
  refine ac_of Try.func13 rfl rfl rfl ?_
  refine aw_seq_region ?_
  refine sr_new rfl (wtd_none rfl) rfl (x_box rfl rfl) ?_
  intro r0_0 hr0_0 gr0_0
  refine sr_as ?_
  refine sr_as ?_
  refine sr_nil ?_
  refine aw_kp [0, 3, 4, 5] ?_
  refine aw_seq ?_
  refine aw_seq_region ?_
  refine sr_rd (x_fieldAddr fd46_0 rfl) ?_
  refine sr_rd (x_load ag3 rfl (cells_ext mauto Ext.auto)) ?_
  refine sr_c (x_lt rfl rfl) (fun h1 => ?_) (fun h1 => ?_)
  · refine sr_mv ?_
    refine sr_sk ?_
    refine sr_sk ?_
    refine sr_sk ?_
    refine sr_rd (x_pick_t rfl rfl rfl) ?_
    refine sr_mv ?_
    refine sr_sk ?_
    refine sr_sk ?_
    refine sr_sk ?_
    refine sr_rd (x_pick_t rfl rfl rfl) ?_
    refine sr_mv ?_
    refine sr_sk ?_
    refine sr_sk ?_
    refine sr_sk ?_
    refine sr_rd (x_pick_t rfl rfl rfl) ?_
    refine sr_nil ?_
    refine aw_kp [0, 3, 4, 5, 24] ?_
    refine aw_true rfl ?_
    refine aw_seq_region ?_
    refine sr_mv ?_
    refine sr_as ?_
    refine sr_as ?_
    refine sr_nil ?_
    refine aw_kp [0, 3, 4, 5] ?_
    refine aw_ret ?_
    show ∃ v H2, ResV _ _ _ _ _ _ v ∧ Sub H2 _ ∧ _
    first | exact ⟨_, Ei ++ G, resV rfl (.cons rfl (.cons rfl .nil)), Sub.autoP, 1, E, a, cap, Ei, rfl, .arg (by first | exact .inl (by omega) | exact .inr (.inl (by omega)) | exact .inr (.inr (.inl (by omega))) | exact .inr (.inr (.inr (by omega)))), V, rfl⟩ | exact ⟨_, Ei ++ G, resV rfl (.cons rfl (.cons rfl .nil)), Sub.autoP, 13, E, a, cap, Ei, rfl, .twice (fun q => by omega) (⟨x, List.mem_of_getElem? hx, by omega, by omega⟩ : ∃ x ∈ E, x.job = e.job ∧ x.for_ = e.for_), V, rfl⟩ | exact ⟨_, Ei ++ G, resV rfl (.cons rfl (.cons rfl .nil)), Sub.autoP, 15, E, a, cap, Ei, rfl, .cyc (fun q => by omega) (fun y hy => by obtain ⟨j, hj⟩ := List.getElem?_of_mem hy; exact hok j y (by have := get_lt hj; omega) hj) (hd9.1 (of_decide_eq_true hd)), V, rfl⟩ | exact ⟨_, E62 ++ G, resV rfl (.cons rfl (.cons rfl .nil)), Sub.autoP, 0, E ++ [e], a62, cap62, E62, (by rw [List.length_append]; rfl), .ok (fun q => by omega) (fun y hy => by obtain ⟨j, hj⟩ := List.getElem?_of_mem hy; exact hok j y (by have := get_lt hj; omega) hj) (fun q => of_decide_eq_false hd (hd9.2 q)), OwnVec.snocS hV62, rfl⟩
  · refine sr_mv ?_
    refine sr_ry (x_fieldAddr fd46_1 rfl) ?_
    refine sr_ry (x_load ag3 rfl (cells_ext mauto Ext.auto)) ?_
    refine sr_cy (x_lt rfl rfl) (fun h2 => ?_) (fun h2 => ?_)
    · refine sr_rd (x_pick_f rfl rfl rfl) ?_
      refine sr_mv ?_
      refine sr_sk ?_
      refine sr_sk ?_
      refine sr_sk ?_
      refine sr_rd (x_pick_t rfl rfl rfl) ?_
      refine sr_mv ?_
      refine sr_sk ?_
      refine sr_sk ?_
      refine sr_sk ?_
      refine sr_rd (x_pick_t rfl rfl rfl) ?_
      refine sr_nil ?_
      refine aw_kp [0, 3, 4, 5, 24] ?_
      refine aw_true rfl ?_
      refine aw_seq_region ?_
      refine sr_mv ?_
      refine sr_as ?_
      refine sr_as ?_
      refine sr_nil ?_
      refine aw_kp [0, 3, 4, 5] ?_
      refine aw_ret ?_
      show ∃ v H2, ResV _ _ _ _ _ _ v ∧ Sub H2 _ ∧ _
      first | exact ⟨_, Ei ++ G, resV rfl (.cons rfl (.cons rfl .nil)), Sub.autoP, 1, E, a, cap, Ei, rfl, .arg (by first | exact .inl (by omega) | exact .inr (.inl (by omega)) | exact .inr (.inr (.inl (by omega))) | exact .inr (.inr (.inr (by omega)))), V, rfl⟩ | exact ⟨_, Ei ++ G, resV rfl (.cons rfl (.cons rfl .nil)), Sub.autoP, 13, E, a, cap, Ei, rfl, .twice (fun q => by omega) (⟨x, List.mem_of_getElem? hx, by omega, by omega⟩ : ∃ x ∈ E, x.job = e.job ∧ x.for_ = e.for_), V, rfl⟩ | exact ⟨_, Ei ++ G, resV rfl (.cons rfl (.cons rfl .nil)), Sub.autoP, 15, E, a, cap, Ei, rfl, .cyc (fun q => by omega) (fun y hy => by obtain ⟨j, hj⟩ := List.getElem?_of_mem hy; exact hok j y (by have := get_lt hj; omega) hj) (hd9.1 (of_decide_eq_true hd)), V, rfl⟩ | exact ⟨_, E62 ++ G, resV rfl (.cons rfl (.cons rfl .nil)), Sub.autoP, 0, E ++ [e], a62, cap62, E62, (by rw [List.length_append]; rfl), .ok (fun q => by omega) (fun y hy => by obtain ⟨j, hj⟩ := List.getElem?_of_mem hy; exact hok j y (by have := get_lt hj; omega) hj) (fun q => of_decide_eq_false hd (hd9.2 q)), OwnVec.snocS hV62, rfl⟩
    · refine sr_rd (x_pick_f rfl rfl rfl) ?_
      refine sr_mv ?_
      refine sr_ry (x_fieldAddr fd46_2 rfl) ?_
      refine sr_ry (x_load ag3 rfl (cells_ext mauto Ext.auto)) ?_
      refine sr_cy (x_lt rfl rfl) (fun h3 => ?_) (fun h3 => ?_)
      · refine sr_rd (x_pick_f rfl rfl rfl) ?_
        refine sr_mv ?_
        refine sr_sk ?_
        refine sr_sk ?_
        refine sr_sk ?_
        refine sr_rd (x_pick_t rfl rfl rfl) ?_
        refine sr_nil ?_
        refine aw_kp [0, 3, 4, 5, 24] ?_
        refine aw_true rfl ?_
        refine aw_seq_region ?_
        refine sr_mv ?_
        refine sr_as ?_
        refine sr_as ?_
        refine sr_nil ?_
        refine aw_kp [0, 3, 4, 5] ?_
        refine aw_ret ?_
        show ∃ v H2, ResV _ _ _ _ _ _ v ∧ Sub H2 _ ∧ _
        first | exact ⟨_, Ei ++ G, resV rfl (.cons rfl (.cons rfl .nil)), Sub.autoP, 1, E, a, cap, Ei, rfl, .arg (by first | exact .inl (by omega) | exact .inr (.inl (by omega)) | exact .inr (.inr (.inl (by omega))) | exact .inr (.inr (.inr (by omega)))), V, rfl⟩ | exact ⟨_, Ei ++ G, resV rfl (.cons rfl (.cons rfl .nil)), Sub.autoP, 13, E, a, cap, Ei, rfl, .twice (fun q => by omega) (⟨x, List.mem_of_getElem? hx, by omega, by omega⟩ : ∃ x ∈ E, x.job = e.job ∧ x.for_ = e.for_), V, rfl⟩ | exact ⟨_, Ei ++ G, resV rfl (.cons rfl (.cons rfl .nil)), Sub.autoP, 15, E, a, cap, Ei, rfl, .cyc (fun q => by omega) (fun y hy => by obtain ⟨j, hj⟩ := List.getElem?_of_mem hy; exact hok j y (by have := get_lt hj; omega) hj) (hd9.1 (of_decide_eq_true hd)), V, rfl⟩ | exact ⟨_, E62 ++ G, resV rfl (.cons rfl (.cons rfl .nil)), Sub.autoP, 0, E ++ [e], a62, cap62, E62, (by rw [List.length_append]; rfl), .ok (fun q => by omega) (fun y hy => by obtain ⟨j, hj⟩ := List.getElem?_of_mem hy; exact hok j y (by have := get_lt hj; omega) hj) (fun q => of_decide_eq_false hd (hd9.2 q)), OwnVec.snocS hV62, rfl⟩
      · refine sr_rd (x_pick_f rfl rfl rfl) ?_
        refine sr_mv ?_
        refine sr_ry (x_fieldAddr fd46_2 rfl) ?_
        refine sr_ry (x_load ag3 rfl (cells_ext mauto Ext.auto)) ?_
        refine sr_cy (x_gt rfl rfl) (fun h4 => ?_) (fun h4 => ?_)
        · refine sr_rd (x_pick_f rfl rfl rfl) ?_
          refine sr_nil ?_
          refine aw_kp [0, 3, 4, 5, 24] ?_
          refine aw_true rfl ?_
          refine aw_seq_region ?_
          refine sr_mv ?_
          refine sr_as ?_
          refine sr_as ?_
          refine sr_nil ?_
          refine aw_kp [0, 3, 4, 5] ?_
          refine aw_ret ?_
          show ∃ v H2, ResV _ _ _ _ _ _ v ∧ Sub H2 _ ∧ _
          first | exact ⟨_, Ei ++ G, resV rfl (.cons rfl (.cons rfl .nil)), Sub.autoP, 1, E, a, cap, Ei, rfl, .arg (by first | exact .inl (by omega) | exact .inr (.inl (by omega)) | exact .inr (.inr (.inl (by omega))) | exact .inr (.inr (.inr (by omega)))), V, rfl⟩ | exact ⟨_, Ei ++ G, resV rfl (.cons rfl (.cons rfl .nil)), Sub.autoP, 13, E, a, cap, Ei, rfl, .twice (fun q => by omega) (⟨x, List.mem_of_getElem? hx, by omega, by omega⟩ : ∃ x ∈ E, x.job = e.job ∧ x.for_ = e.for_), V, rfl⟩ | exact ⟨_, Ei ++ G, resV rfl (.cons rfl (.cons rfl .nil)), Sub.autoP, 15, E, a, cap, Ei, rfl, .cyc (fun q => by omega) (fun y hy => by obtain ⟨j, hj⟩ := List.getElem?_of_mem hy; exact hok j y (by have := get_lt hj; omega) hj) (hd9.1 (of_decide_eq_true hd)), V, rfl⟩ | exact ⟨_, E62 ++ G, resV rfl (.cons rfl (.cons rfl .nil)), Sub.autoP, 0, E ++ [e], a62, cap62, E62, (by rw [List.length_append]; rfl), .ok (fun q => by omega) (fun y hy => by obtain ⟨j, hj⟩ := List.getElem?_of_mem hy; exact hok j y (by have := get_lt hj; omega) hj) (fun q => of_decide_eq_false hd (hd9.2 q)), OwnVec.snocS hV62, rfl⟩
        · refine sr_rd (x_pick_f rfl rfl rfl) ?_
          refine sr_nil ?_
          refine aw_kp [0, 3, 4, 5, 24] ?_
          refine aw_false rfl ?_
          refine aw_skip ?_
          show AW _ _ _ _ _ _ _
          refine aw_seq ?_
          refine aw_seq_region ?_
          refine sr_as ?_
          refine sr_nil ?_
          refine aw_kp [0, 3, 4, 5, 6] ?_
          refine aw_block ?_
          refine aw_loop (ι := Nat) (fun k => k ≤ E.length ∧ ∀ j y, j < k → E[j]? = some y → ¬ (y.job = e.job ∧ y.for_ = e.for_)) (fun k => [(0, .slice a E.length cap), (3, .pointer (some ⟨r0_0, 0, none⟩)), (6, .int .i64 k)]) (fun _ => (r0_0, .cells (DEdge.cells e).toArray 46 (0, 0)) :: (Ei ++ G)) (fun k => E.length - k) 0 (⟨Nat.zero_le _, fun j y h => by omega⟩) KeepF.auto Sub.autoP ?_
          intro k hk9
          obtain ⟨hk, hok⟩ := hk9
          refine aw_seq ?_
          refine aw_seq_region ?_
          refine sr_mv ?_
          refine sr_mv ?_
          refine sr_rd (x_lenSlice Try.underlying39 rfl) ?_
          refine sr_c (x_lt rfl rfl) (fun h5 => ?_) (fun h5 => ?_)
          · refine sr_nil ?_
            refine aw_kp [0, 3, 6, 26, 27, 28, 29] ?_
            refine aw_true rfl ?_
            refine aw_skip ?_
            show AW _ _ _ _ _ _ _
            refine aw_seq ?_
            refine aw_block ?_
            refine aw_seq_dr ⟨_, 18, 63, [[], [], [0, 1], [0, 1, 2], [0, 1, 2, 3], [], [5], [0, 1, 2, 3, 4, 5, 6], [0, 1, 2, 3, 4, 5, 6, 7], [0, 1, 2, 3, 4, 5, 6, 7, 8], [0, 1, 2, 3, 4, 5, 6, 7, 8], [0, 1, 2, 3, 4, 5, 6, 7, 8, 9, 10], [0, 1, 2, 3, 4, 5, 6, 7, 8, 9, 10, 11], [0, 1, 2, 3, 4, 5, 6, 7, 8, 9, 10, 11, 12], [0, 1, 2, 3, 4, 5, 6, 7, 8], [0, 1, 2, 3, 4, 5, 6, 7, 8, 14], [0, 1, 2, 3, 4, 5, 6, 7, 8, 9, 10, 11, 12, 13, 14, 15], [0, 1, 2, 3, 4, 5, 6, 7, 8, 9, 10, 11, 12, 13, 14, 15, 16]], [.light, .light, .light, .light, .mem, .light, .mem, .light, .light, .light, .light, .light, .light, .mem, .light, .mem, .light, .light]⟩ (by kernel_rfl) rfl rfl mix ?_
            obtain ⟨x, hx⟩ := get_ex (show k < E.length by omega)
            obtain ⟨be, oe, hae, hce⟩ := hs.at_ _ _ hx
            refine dr_l (x_move rfl) ?_
            refine dr_l (x_move rfl) ?_
            refine dr_l (x_indexAddrN (k) Try.underlying39 sz46 rfl hae rfl (by omega) (by omega)) ?_
            refine dr_l (x_fieldAddr fd46_0 rfl) ?_
            refine dr_mem0 rfl rfl (wtd_none rfl) (x_load ag3 rfl (cells_get (Cells.mono hce Sub.autoE) 0 rfl)) ?_
            refine dr_l (x_fieldAddr fd46_0 rfl) ?_
            refine dr_mem0 rfl rfl (wtd_none rfl) (x_load ag3 rfl (cells_ext mauto Ext.auto)) ?_
            refine dr_cmp rfl rfl (wtd_none rfl) (x_eq rfl rfl) (fun h6 => ?_) (fun h6 => ?_)
            · refine dr_l (x_move rfl) ?_
              refine dr_y (x_move rfl) ?_
              refine dr_y (x_move rfl) ?_
              refine dr_y (x_indexAddrN (k) Try.underlying39 sz46 rfl hae rfl (by omega) (by omega)) ?_
              refine dr_y (x_fieldAddr fd46_1 rfl) ?_
              refine dr_mem0 rfl rfl (wtd_yes rfl rfl rfl) (x_load ag3 rfl (cells_get (Cells.mono hce Sub.autoE) 1 rfl)) ?_
              refine dr_y (x_fieldAddr fd46_1 rfl) ?_
              refine dr_mem0 rfl rfl (wtd_yes rfl rfl rfl) (x_load ag3 rfl (cells_ext mauto Ext.auto)) ?_
              refine dr_cmp rfl rfl (wtd_yes rfl rfl rfl) (x_eq rfl rfl) (fun h7 => ?_) (fun h7 => ?_)
              · refine dr_l (x_pick_t rfl rfl rfl) ?_
                refine dr_nil0 ?_
                refine aw_kp [0, 3, 6, 26, 27, 28, 29, 32, 33, 34, 35, 36, 37, 38, 39, 40, 41, 42, 43, 44, 45, 46, 47, 48, 49] ?_
                refine aw_true rfl ?_
                refine aw_seq_region ?_
                refine sr_mv ?_
                refine sr_as ?_
                refine sr_as ?_
                refine sr_nil ?_
                refine aw_kp [0, 3, 4, 5, 6, 26, 27, 28, 29, 32, 33, 34, 35, 36, 37, 38, 39, 40, 41, 42, 43, 44, 45, 46, 47, 48, 49, 50] ?_
                refine aw_ret ?_
                show ∃ v H2, ResV _ _ _ _ _ _ v ∧ Sub H2 _ ∧ _
                first | exact ⟨_, Ei ++ G, resV rfl (.cons rfl (.cons rfl .nil)), Sub.autoP, 1, E, a, cap, Ei, rfl, .arg (by first | exact .inl (by omega) | exact .inr (.inl (by omega)) | exact .inr (.inr (.inl (by omega))) | exact .inr (.inr (.inr (by omega)))), V, rfl⟩ | exact ⟨_, Ei ++ G, resV rfl (.cons rfl (.cons rfl .nil)), Sub.autoP, 13, E, a, cap, Ei, rfl, .twice (fun q => by omega) (⟨x, List.mem_of_getElem? hx, by omega, by omega⟩ : ∃ x ∈ E, x.job = e.job ∧ x.for_ = e.for_), V, rfl⟩ | exact ⟨_, Ei ++ G, resV rfl (.cons rfl (.cons rfl .nil)), Sub.autoP, 15, E, a, cap, Ei, rfl, .cyc (fun q => by omega) (fun y hy => by obtain ⟨j, hj⟩ := List.getElem?_of_mem hy; exact hok j y (by have := get_lt hj; omega) hj) (hd9.1 (of_decide_eq_true hd)), V, rfl⟩ | exact ⟨_, E62 ++ G, resV rfl (.cons rfl (.cons rfl .nil)), Sub.autoP, 0, E ++ [e], a62, cap62, E62, (by rw [List.length_append]; rfl), .ok (fun q => by omega) (fun y hy => by obtain ⟨j, hj⟩ := List.getElem?_of_mem hy; exact hok j y (by have := get_lt hj; omega) hj) (fun q => of_decide_eq_false hd (hd9.2 q)), OwnVec.snocS hV62, rfl⟩
              · refine dr_l (x_pick_t rfl rfl rfl) ?_
                refine dr_nil0 ?_
                refine aw_kp [0, 3, 6, 26, 27, 28, 29, 32, 33, 34, 35, 36, 37, 38, 39, 40, 41, 42, 43, 44, 45, 46, 47, 48, 49] ?_
                refine aw_false rfl ?_
                refine aw_skip ?_
                show AW _ _ _ _ _ _ _
                refine aw_region ?_
                refine sr_mv ?_
                refine sr_rd (x_add' rfl rfl (i64w (by omega) (by omega))) ?_
                refine sr_as ?_
                refine sr_nil ?_
                show ∃ s', _ ∧ _ ∧ _ ∧ _
                exact ⟨k + 1, ⟨by omega, fun j y h hy => by (rcases Nat.lt_or_eq_of_le (Nat.le_of_lt_succ h) with q | q); (exact hok j y q hy); (subst q; rw [hx] at hy; cases hy; intro q9; have q8 := q9.1; have q7 := q9.2; omega)⟩, by omega, KeepF.auto, Sub.autoP⟩
            · refine dr_l (x_move rfl) ?_
              refine dr_sk ?_
              refine dr_sk ?_
              refine dr_sk ?_
              refine dr_sk ?_
              refine dr_sk ?_
              refine dr_sk ?_
              refine dr_sk ?_
              refine dr_sk ?_
              refine dr_l (x_pick_f rfl rfl rfl) ?_
              refine dr_nil0 ?_
              refine aw_kp [0, 3, 6, 26, 27, 28, 29, 32, 33, 34, 35, 36, 37, 38, 39, 40, 41, 42, 43, 44, 45, 46, 47, 48, 49] ?_
              refine aw_false rfl ?_
              refine aw_skip ?_
              show AW _ _ _ _ _ _ _
              refine aw_region ?_
              refine sr_mv ?_
              refine sr_rd (x_add' rfl rfl (i64w (by omega) (by omega))) ?_
              refine sr_as ?_
              refine sr_nil ?_
              show ∃ s', _ ∧ _ ∧ _ ∧ _
              exact ⟨k + 1, ⟨by omega, fun j y h hy => by (rcases Nat.lt_or_eq_of_le (Nat.le_of_lt_succ h) with q | q); (exact hok j y q hy); (subst q; rw [hx] at hy; cases hy; intro q9; have q8 := q9.1; have q7 := q9.2; omega)⟩, by omega, KeepF.auto, Sub.autoP⟩
          · refine sr_nil ?_
            refine aw_kp [0, 3, 6, 26, 27, 28, 29] ?_
            refine aw_false rfl ?_
            refine aw_exit ?_
            show AW _ _ _ _ _ _ _
            refine aw_seq ?_
            refine aw_seq_dr ⟨_, 7, 63, [[], [], [1], [0, 1, 2], [], [4], [0, 1, 2, 3, 4, 5]], [.light, .light, .mem, .call, .light, .mem, .call]⟩ (by kernel_rfl) rfl rfl mix ?_
            refine dr_l (x_move rfl) ?_
            refine dr_l (x_fieldAddr fd46_1 rfl) ?_
            refine dr_mem0 rfl rfl (wtd_none rfl) (x_load ag3 rfl (cells_ext mauto Ext.auto)) ?_
            refine dr_call rfl (V := []) rfl rfl (wtd_none rfl) (opS_F rfl rfl rfl rfl cl17 (reach_s a cap E _ (hs.mono Sub.autoE) (by omega) e.for_)) (reach_fresh (by omega)) ?_
            rintro _ EC ⟨X, aC, cC, rfl, hX, hXl, VC⟩
            refine dr_l (x_fieldAddr fd46_0 rfl) ?_
            refine dr_mem rfl (V := []) rfl rfl (wtd_none rfl) (x_load ag3 rfl (cells_ext mauto Ext.auto)) ?_
            refine dr_callq rfl (V := (EC ++ [])) rfl rfl rfl (wtd_none rfl) (opS_F rfl rfl rfl rfl cl16 ((has_s aC cC X _ (VC.slv' (fun _ => rfl) rfl (by first | exact sub_n1 | exact sub_n2 | exact sub_news | exact Sub.autoE)) e.job))) (⟨_, rfl⟩) ?_
            rintro _ rfl
            generalize hd : decide (e.job ∈ X) = d1
            cases d1
            · have hd9 := hX e.job
              refine dr_drop ?_
              refine aw_kp [0, 3, 57] ?_
              refine aw_false rfl ?_
              refine aw_skip ?_
              show AW _ _ _ _ _ _ _
              refine aw_seq_region ?_
              refine sr_mv ?_
              refine sr_rd (x_loadN ag46 sz46 rfl (cells_ext mauto Ext.auto) rfl) ?_
              refine sr_new rfl (wtd_none rfl) rfl (x_buildSlice Try.underlying39 sz46 zr46 rfl rfl rfl rfl Parts.auto Fill.auto) ?_
              intro r10_2 hr10_2 gr10_2
              refine sr_d rfl (wtd_none rfl) rfl (opS_append (G := (r10_2, .cells (DEdge.cells e).toArray 46 (0, 0)) :: (r0_0, .cells (DEdge.cells e).toArray 46 (0, 0)) :: G) (N := (DEdge.cells e)) (m := 1) Try.underlying39 sz46 zr46 rfl by46 rfl rfl V Sub.autoP (.inr ⟨_, _, rfl, (cells_ext mauto Ext.auto)⟩) (rfl) rfl (by omega) (by omega)) ?_
              rintro v62 _ ⟨E62, hV62, rfl⟩
              obtain ⟨a62, cap62, rfl⟩ := hV62.isSl
              refine sr_as ?_
              refine sr_as ?_
              refine sr_nil ?_
              refine aw_kp [4, 5] ?_
              refine aw_ret ?_
              show ∃ v H2, ResV _ _ _ _ _ _ v ∧ Sub H2 _ ∧ _
              first | exact ⟨_, Ei ++ G, resV rfl (.cons rfl (.cons rfl .nil)), Sub.autoP, 1, E, a, cap, Ei, rfl, .arg (by first | exact .inl (by omega) | exact .inr (.inl (by omega)) | exact .inr (.inr (.inl (by omega))) | exact .inr (.inr (.inr (by omega)))), V, rfl⟩ | exact ⟨_, Ei ++ G, resV rfl (.cons rfl (.cons rfl .nil)), Sub.autoP, 13, E, a, cap, Ei, rfl, .twice (fun q => by omega) (⟨x, List.mem_of_getElem? hx, by omega, by omega⟩ : ∃ x ∈ E, x.job = e.job ∧ x.for_ = e.for_), V, rfl⟩ | exact ⟨_, Ei ++ G, resV rfl (.cons rfl (.cons rfl .nil)), Sub.autoP, 15, E, a, cap, Ei, rfl, .cyc (fun q => by omega) (fun y hy => by obtain ⟨j, hj⟩ := List.getElem?_of_mem hy; exact hok j y (by have := get_lt hj; omega) hj) (hd9.1 (of_decide_eq_true hd)), V, rfl⟩ | exact ⟨_, E62 ++ G, resV rfl (.cons rfl (.cons rfl .nil)), Sub.autoP, 0, E ++ [e], a62, cap62, E62, (by rw [List.length_append]; rfl), .ok (fun q => by omega) (fun y hy => by obtain ⟨j, hj⟩ := List.getElem?_of_mem hy; exact hok j y (by have := get_lt hj; omega) hj) (fun q => of_decide_eq_false hd (hd9.2 q)), OwnVec.snocS hV62, rfl⟩
            · have hd9 := hX e.job
              refine dr_drop ?_
              refine aw_kp [0, 3, 57] ?_
              refine aw_true rfl ?_
              refine aw_seq_region ?_
              refine sr_mv ?_
              refine sr_as ?_
              refine sr_as ?_
              refine sr_nil ?_
              refine aw_kp [0, 3, 4, 5] ?_
              refine aw_ret ?_
              show ∃ v H2, ResV _ _ _ _ _ _ v ∧ Sub H2 _ ∧ _
              first | exact ⟨_, Ei ++ G, resV rfl (.cons rfl (.cons rfl .nil)), Sub.autoP, 1, E, a, cap, Ei, rfl, .arg (by first | exact .inl (by omega) | exact .inr (.inl (by omega)) | exact .inr (.inr (.inl (by omega))) | exact .inr (.inr (.inr (by omega)))), V, rfl⟩ | exact ⟨_, Ei ++ G, resV rfl (.cons rfl (.cons rfl .nil)), Sub.autoP, 13, E, a, cap, Ei, rfl, .twice (fun q => by omega) (⟨x, List.mem_of_getElem? hx, by omega, by omega⟩ : ∃ x ∈ E, x.job = e.job ∧ x.for_ = e.for_), V, rfl⟩ | exact ⟨_, Ei ++ G, resV rfl (.cons rfl (.cons rfl .nil)), Sub.autoP, 15, E, a, cap, Ei, rfl, .cyc (fun q => by omega) (fun y hy => by obtain ⟨j, hj⟩ := List.getElem?_of_mem hy; exact hok j y (by have := get_lt hj; omega) hj) (hd9.1 (of_decide_eq_true hd)), V, rfl⟩ | exact ⟨_, E62 ++ G, resV rfl (.cons rfl (.cons rfl .nil)), Sub.autoP, 0, E ++ [e], a62, cap62, E62, (by rw [List.length_append]; rfl), .ok (fun q => by omega) (fun y hy => by obtain ⟨j, hj⟩ := List.getElem?_of_mem hy; exact hok j y (by have := get_lt hj; omega) hj) (fun q => of_decide_eq_false hd (hd9.2 q)), OwnVec.snocS hV62, rfl⟩
set_option maxRecDepth 100000 in
set_option maxHeartbeats 400000 in
theorem gnew_s (H : SHeap) : AC Try.prog W0 12 [] H (fun v H' => ∃ p, v = .pointer (some ⟨p, 0, none⟩) ∧ H' = gB p none 0 0 :: H) := by
  refine ac_of Try.func12 rfl rfl rfl ?_
  refine aw_seq_region ?_
  refine sr_as ?_
  refine sr_nil ?_
  refine aw_kp [0] ?_
  refine aw_seq_region ?_
  refine sr_rd (x_build zr62 rfl fl62 Parts.auto Fill.auto) ?_
  refine sr_new rfl (wtd_none rfl) rfl (x_box rfl rfl) ?_
  intro r1_1 hr1_1 gr1_1
  refine sr_as ?_
  refine sr_nil ?_
  refine aw_kp [0] ?_
  refine aw_ret ?_
  show ∃ v H2, ResV _ _ _ _ _ _ v ∧ Sub H2 _ ∧ _
  exact ⟨_, _, resV rfl (.cons rfl .nil), Sub.autoP, ⟨_, rfl, rfl⟩⟩
set_option maxRecDepth 100000 in
set_option maxHeartbeats 400000 in
theorem gnoneT_s (p : Nat) (sl : Value) (H : SHeap) (hc : Cells W0 H p 0 [sl, .bool true]) : AC Try.prog W0 29 [.pointer (some ⟨p, 0, none⟩)] H (fun v H' => v = .bool false ∧ H' = H) := by
  refine ac_of Try.func29 rfl rfl rfl ?_
  refine aw_seq_region ?_
  refine sr_as ?_
  refine sr_nil ?_
  refine aw_kp [0, 2] ?_
  refine aw_seq_region ?_
  refine sr_mv ?_
  refine sr_rd (x_eqnil Try.underlying41 rfl rfl) ?_
  refine sr_mv ?_
  refine sr_ry (x_move rfl) ?_
  refine sr_ry (x_nilCheck rfl) ?_
  refine sr_ry (x_fieldAddr fd62_1 rfl) ?_
  refine sr_ry (x_load ag4 rfl (cells_get (Cells.mono hc Sub.autoR) 1 rfl)) ?_
  refine sr_ry (x_not rfl) ?_
  refine sr_rd (x_pick_f rfl rfl rfl) ?_
  refine sr_as ?_
  refine sr_nil ?_
  refine aw_kp [2] ?_
  refine aw_ret ?_
  show ∃ v H2, ResV _ _ _ _ _ _ v ∧ Sub H2 _ ∧ _
  exact ⟨_, H, resV rfl (.cons rfl .nil), (by repeat (first | exact Sub.refl _ | apply Sub.drop)), ⟨rfl, rfl⟩⟩
set_option maxRecDepth 100000 in
set_option maxHeartbeats 400000 in
theorem gnoneF_s (p : Nat) (sl : Value) (H : SHeap) (hc : Cells W0 H p 0 [sl, .bool false]) : AC Try.prog W0 29 [.pointer (some ⟨p, 0, none⟩)] H (fun v H' => v = .bool true ∧ H' = H) := by
  refine ac_of Try.func29 rfl rfl rfl ?_
  refine aw_seq_region ?_
  refine sr_as ?_
  refine sr_nil ?_
  refine aw_kp [0, 2] ?_
  refine aw_seq_region ?_
  refine sr_mv ?_
  refine sr_rd (x_eqnil Try.underlying41 rfl rfl) ?_
  refine sr_mv ?_
  refine sr_ry (x_move rfl) ?_
  refine sr_ry (x_nilCheck rfl) ?_
  refine sr_ry (x_fieldAddr fd62_1 rfl) ?_
  refine sr_ry (x_load ag4 rfl (cells_get (Cells.mono hc Sub.autoR) 1 rfl)) ?_
  refine sr_ry (x_not rfl) ?_
  refine sr_rd (x_pick_f rfl rfl rfl) ?_
  refine sr_as ?_
  refine sr_nil ?_
  refine aw_kp [2] ?_
  refine aw_ret ?_
  show ∃ v H2, ResV _ _ _ _ _ _ v ∧ Sub H2 _ ∧ _
  exact ⟨_, H, resV rfl (.cons rfl .nil), (by repeat (first | exact Sub.refl _ | apply Sub.drop)), ⟨rfl, rfl⟩⟩
set_option maxRecDepth 100000 in
set_option maxHeartbeats 400000 in
theorem gnoneN_s (H : SHeap) : AC Try.prog W0 29 [.pointer none] H (fun v H' => v = .bool true ∧ H' = H) := by
  refine ac_of Try.func29 rfl rfl rfl ?_
  refine aw_seq_region ?_
  refine sr_as ?_
  refine sr_nil ?_
  refine aw_kp [0, 2] ?_
  refine aw_seq_region ?_
  refine sr_mv ?_
  refine sr_rd (x_eqnil Try.underlying41 rfl rfl) ?_
  refine sr_mv ?_
  refine sr_sk ?_
  refine sr_sk ?_
  refine sr_sk ?_
  refine sr_sk ?_
  refine sr_sk ?_
  refine sr_rd (x_pick_t rfl rfl rfl) ?_
  refine sr_as ?_
  refine sr_nil ?_
  refine aw_kp [2] ?_
  refine aw_ret ?_
  show ∃ v H2, ResV _ _ _ _ _ _ v ∧ Sub H2 _ ∧ _
  exact ⟨_, H, resV rfl (.cons rfl .nil), (by repeat (first | exact Sub.refl _ | apply Sub.drop)), ⟨rfl, rfl⟩⟩
set_option maxRecDepth 100000 in
set_option maxHeartbeats 400000 in
theorem eclone_s (a : Option Addr) (cap : Nat) (xs : List DEdge) (H : SHeap) (hs : SlV W0 H 3 DEdge.cells a cap xs) (hjl : xs.length ≤ 1000000) : AC Try.prog W0 33 [.slice a xs.length cap] H (fun v H' => ∃ E2, (∃ a2 cap2, OwnVec 3 46 (.slice a2 xs.length cap2) xs.length (xs.flatMap DEdge.cells) E2 ∧ v = .slice a2 xs.length cap2) ∧ H' = E2 ++ H) := by
  have hfl := flat_len (n := 3) (enc := DEdge.cells) (fun _ => rfl) xs
  have hfn : a.isNone = true → xs.length = 0 := fun h => by rcases hs.flat (fun _ => rfl) (by omega) with ⟨q, _⟩ | ⟨b, off, rfl, _⟩ <;> first | exact q | cases h
  refine ac_of Try.func33 rfl rfl rfl ?_
  refine aw_seq_region ?_
  refine sr_as ?_
  refine sr_nil ?_
  refine aw_kp [0, 2] ?_
  refine aw_seq ?_
  refine aw_seq_region ?_
  refine sr_mv ?_
  refine sr_rd (x_eqnils Try.underlying39 rfl rfl) ?_
  refine sr_nil ?_
  refine aw_kp [0, 2, 4] ?_
  refine aw_cond rfl (fun hb1 => ?_) (fun hb1 => ?_)
  · refine aw_seq_region ?_
    refine sr_as ?_
    refine sr_nil ?_
    refine aw_kp [0, 2] ?_
    refine aw_ret ?_
    show ∃ v H2, ResV _ _ _ _ _ _ v ∧ Sub H2 _ ∧ _
    first | (rw [Nat.zero_add, List.nil_append] at hV7; obtain ⟨a7, cap7, rfl⟩ := hV7.isSl; exact ⟨_, E7 ++ H, resV rfl (.cons rfl .nil), (Sub.refl _), E7, ⟨a7, cap7, hV7, rfl⟩, rfl⟩) | (have hz := hfn (by assumption); have hj0 : xs = [] := List.length_eq_zero_iff.1 hz; subst hj0; exact ⟨_, [] ++ H, resV rfl (.cons rfl .nil), (Sub.refl _), [], ⟨none, 0, .nil, rfl⟩, rfl⟩)
  · refine aw_skip ?_
    show AW _ _ _ _ _ _ _
    refine aw_seq_region ?_
    refine sr_new rfl (wtd_none rfl) rfl (x_buildSlice0 Try.underlying39 sz46 rfl) ?_
    intro r3_0 hr3_0 gr3_0
    refine sr_mv ?_
    refine sr_d rfl (wtd_none rfl) rfl (opS_append (G := H) (N := xs.flatMap DEdge.cells) (m := xs.length) Try.underlying39 sz46 zr46 rfl by46 rfl rfl (OwnVec.mk (r := r3_0) (n := 0) (cap := 0) (L := []) (post := []) rfl rfl (by omega) (by omega)) Sub.autoP (((hs.mono (by repeat (first | exact Sub.refl _ | apply Sub.drop))).flat (fun _ => rfl) (by omega))) (hfl) (all_oneE xs) (by omega) (by omega)) ?_
    rintro v7 _ ⟨E7, hV7, rfl⟩
    refine sr_as ?_
    refine sr_nil ?_
    refine aw_kp [2] ?_
    refine aw_ret ?_
    show ∃ v H2, ResV _ _ _ _ _ _ v ∧ Sub H2 _ ∧ _
    first | (rw [Nat.zero_add, List.nil_append] at hV7; obtain ⟨a7, cap7, rfl⟩ := hV7.isSl; exact ⟨_, E7 ++ H, resV rfl (.cons rfl .nil), (Sub.refl _), E7, ⟨a7, cap7, hV7, rfl⟩, rfl⟩) | (have hz := hfn (by assumption); have hj0 : xs = [] := List.length_eq_zero_iff.1 hz; subst hj0; exact ⟨_, [] ++ H, resV rfl (.cons rfl .nil), (Sub.refl _), [], ⟨none, 0, .nil, rfl⟩, rfl⟩)
set_option maxRecDepth 100000 in
set_option maxHeartbeats 400000 in
theorem gedges_s (p : Nat) (a : Option Addr) (cap : Nat) (E : List DEdge) (H : SHeap) (hc : Cells W0 H p 0 [.slice a E.length cap, .bool true]) (hs : SlV W0 H 3 DEdge.cells a cap E) (hl : E.length ≤ 500) : AC Try.prog W0 15 [.pointer (some ⟨p, 0, none⟩)] H (fun v H' => ∃ E2, (∃ a2 c2, OwnVec 3 46 (.slice a2 E.length c2) E.length (E.flatMap DEdge.cells) E2 ∧ v = .slice a2 E.length c2) ∧ H' = E2 ++ H) := by
  refine ac_of Try.func15 rfl rfl rfl ?_
  refine aw_seq_region ?_
  refine sr_as ?_
  refine sr_nil ?_
  refine aw_kp [0, 2] ?_
  refine aw_seq ?_
  refine aw_seq_region ?_
  refine sr_mv ?_
  refine sr_d rfl (wtd_none rfl) rfl (opS_call rfl rfl rfl rfl cl29 (gnoneT_s p _ _ (Cells.mono hc Sub.autoR))) ?_
  rintro _ H9 ⟨rfl, rfl⟩
  refine sr_nil ?_
  refine aw_kp [0, 2, 4] ?_
  refine aw_false rfl ?_
  refine aw_skip ?_
  show AW _ _ _ _ _ _ _
  refine aw_seq_region ?_
  refine sr_mv ?_
  refine sr_rd (x_nilCheck rfl) ?_
  refine sr_rd (x_fieldAddr fd62_0 rfl) ?_
  refine sr_rd (x_load ag39 rfl (cells_get (Cells.mono hc Sub.autoR) 0 rfl)) ?_
  refine sr_d rfl (wtd_none rfl) rfl (opS_call rfl rfl rfl rfl cl33 (eclone_s a cap E _ hs (by omega))) ?_
  rintro _ _ ⟨E2, ⟨a2, c2, V2, rfl⟩, rfl⟩
  refine sr_as ?_
  refine sr_nil ?_
  refine aw_kp [2] ?_
  refine aw_ret ?_
  show ∃ v H2, ResV _ _ _ _ _ _ v ∧ Sub H2 _ ∧ _
  exact ⟨_, _, resV rfl (.cons rfl .nil), Sub.autoP, ⟨E2, ⟨a2, c2, V2, rfl⟩, rfl⟩⟩
set_option maxRecDepth 100000 in
set_option maxHeartbeats 400000 in
theorem gedgesF_s (p : Nat) (sl : Value) (H : SHeap) (hc : Cells W0 H p 0 [sl, .bool false]) : AC Try.prog W0 15 [.pointer (some ⟨p, 0, none⟩)] H (fun v H' => v = .slice none 0 0 ∧ H' = H) := by
  refine ac_of Try.func15 rfl rfl rfl ?_
  refine aw_seq_region ?_
  refine sr_as ?_
  refine sr_nil ?_
  refine aw_kp [0, 2] ?_
  refine aw_seq ?_
  refine aw_seq_region ?_
  refine sr_mv ?_
  refine sr_d rfl (wtd_none rfl) rfl (opS_call rfl rfl rfl rfl cl29 (gnoneF_s p _ _ hc)) ?_
  rintro _ H ⟨rfl, rfl⟩
  refine sr_nil ?_
  refine aw_kp [0, 2, 4] ?_
  refine aw_true rfl ?_
  refine aw_seq_region ?_
  refine sr_as ?_
  refine sr_nil ?_
  refine aw_kp [0, 2] ?_
  refine aw_ret ?_
  show ∃ v H2, ResV _ _ _ _ _ _ v ∧ Sub H2 _ ∧ _
  exact ⟨_, H, resV rfl (.cons rfl .nil), (by repeat (first | exact Sub.refl _ | apply Sub.drop)), ⟨rfl, rfl⟩⟩
set_option maxRecDepth 100000 in
set_option maxHeartbeats 400000 in
theorem gedgesN_s (H : SHeap) : AC Try.prog W0 15 [.pointer none] H (fun v H' => v = .slice none 0 0 ∧ H' = H) := by
  refine ac_of Try.func15 rfl rfl rfl ?_
  refine aw_seq_region ?_
  refine sr_as ?_
  refine sr_nil ?_
  refine aw_kp [0, 2] ?_
  refine aw_seq ?_
  refine aw_seq_region ?_
  refine sr_mv ?_
  refine sr_d rfl (wtd_none rfl) rfl (opS_call rfl rfl rfl rfl cl29 (gnoneN_s _)) ?_
  rintro _ H ⟨rfl, rfl⟩
  refine sr_nil ?_
  refine aw_kp [0, 2, 4] ?_
  refine aw_true rfl ?_
  refine aw_seq_region ?_
  refine sr_as ?_
  refine sr_nil ?_
  refine aw_kp [0, 2] ?_
  refine aw_ret ?_
  show ∃ v H2, ResV _ _ _ _ _ _ v ∧ Sub H2 _ ∧ _
  exact ⟨_, H, resV rfl (.cons rfl .nil), (by repeat (first | exact Sub.refl _ | apply Sub.drop)), ⟨rfl, rfl⟩⟩
set_option maxRecDepth 100000 in
set_option maxHeartbeats 400000 in
theorem gtw_s (x y : DEdge) (qn : Nat) (H : SHeap) (hq : Cells W0 H qn 0 (DEdge.cells y)) : AC Try.prog W0 31 [DEdge.v x, .pointer (some ⟨qn, 0, none⟩)] H (fun v H' => v = .bool (twE y x) ∧ H' = H) := by
  refine ac_of Try.func31 rfl rfl rfl ?_
  refine aw_seq_region ?_
  refine sr_new rfl (wtd_none rfl) rfl (x_box rfl rfl) ?_
  intro r0_0 hr0_0 gr0_0
  refine sr_as ?_
  refine sr_nil ?_
  refine aw_kp [1, 2, 3] ?_
  refine aw_seq_region ?_
  refine sr_rd (x_fieldAddr fd46_0 rfl) ?_
  refine sr_rd (x_load ag3 rfl (cells_ext mauto Ext.auto)) ?_
  refine sr_rd (x_fieldAddr fd46_0 rfl) ?_
  refine sr_rd (x_load ag3 rfl (cells_get (Cells.mono hq Sub.autoR) 0 rfl)) ?_
  refine sr_c (x_eq rfl rfl) (fun h1 => ?_) (fun h1 => ?_)
  · refine sr_mv ?_
    refine sr_ry (x_fieldAddr fd46_1 rfl) ?_
    refine sr_ry (x_load ag3 rfl (cells_ext mauto Ext.auto)) ?_
    refine sr_ry (x_fieldAddr fd46_1 rfl) ?_
    refine sr_ry (x_load ag3 rfl (cells_get (Cells.mono hq Sub.autoR) 1 rfl)) ?_
    refine sr_cy (x_eq rfl rfl) (fun h2 => ?_) (fun h2 => ?_)
    · refine sr_rd (x_pick_t rfl rfl rfl) ?_
      refine sr_as ?_
      refine sr_nil ?_
      refine aw_kp [3] ?_
      refine aw_ret ?_
      show ∃ v H2, ResV _ _ _ _ _ _ v ∧ Sub H2 _ ∧ _
      exact ⟨_, H, resV rfl (.cons rfl .nil), Sub.autoR, ⟨congrArg Value.bool (by unfold twE; first | (rw [decide_eq_true (by omega), decide_eq_true (by omega)]; rfl) | (rw [decide_eq_true (show x.job = y.job by omega), decide_eq_false (by omega)]; rfl) | (rw [decide_eq_false (show ¬ x.job = y.job by omega)]; rfl)), rfl⟩⟩
    · refine sr_rd (x_pick_t rfl rfl rfl) ?_
      refine sr_as ?_
      refine sr_nil ?_
      refine aw_kp [3] ?_
      refine aw_ret ?_
      show ∃ v H2, ResV _ _ _ _ _ _ v ∧ Sub H2 _ ∧ _
      exact ⟨_, H, resV rfl (.cons rfl .nil), Sub.autoR, ⟨congrArg Value.bool (by unfold twE; first | (rw [decide_eq_true (by omega), decide_eq_true (by omega)]; rfl) | (rw [decide_eq_true (show x.job = y.job by omega), decide_eq_false (by omega)]; rfl) | (rw [decide_eq_false (show ¬ x.job = y.job by omega)]; rfl)), rfl⟩⟩
  · refine sr_mv ?_
    refine sr_sk ?_
    refine sr_sk ?_
    refine sr_sk ?_
    refine sr_sk ?_
    refine sr_sk ?_
    refine sr_rd (x_pick_f rfl rfl rfl) ?_
    refine sr_as ?_
    refine sr_nil ?_
    refine aw_kp [3] ?_
    refine aw_ret ?_
    show ∃ v H2, ResV _ _ _ _ _ _ v ∧ Sub H2 _ ∧ _
    exact ⟨_, H, resV rfl (.cons rfl .nil), Sub.autoR, ⟨congrArg Value.bool (by unfold twE; first | (rw [decide_eq_true (by omega), decide_eq_true (by omega)]; rfl) | (rw [decide_eq_true (show x.job = y.job by omega), decide_eq_false (by omega)]; rfl) | (rw [decide_eq_false (show ¬ x.job = y.job by omega)]; rfl)), rfl⟩⟩
set_option maxRecDepth 100000 in
set_option maxHeartbeats 400000 in
theorem gidx_s (a : Option Addr) (cap : Nat) (E : List DEdge) (H : SHeap) (hs : SlV W0 H 3 DEdge.cells a cap E) (y : DEdge) (qn : Nat) (hq : Cells W0 H qn 0 (DEdge.cells y)) : AC Try.prog W0 46 [.slice a E.length cap, .func (.func 31) #[] #[.pointer (some ⟨qn, 0, none⟩)]] H (fun v H' => (∃ i : Int, v = .int .i64 i ∧ (0 ≤ i ↔ E.any (twE y) = true)) ∧ H' = H) := by
  have hle := hs.le
  have hcb := hs.capb
  refine ac_of Try.func46 rfl rfl rfl ?_
  refine aw_seq_region ?_
  refine sr_as ?_
  refine sr_nil ?_
  refine aw_kp [0, 1, 4] ?_
  refine aw_seq ?_
  refine aw_seq_region ?_
  refine sr_mv ?_
  refine sr_rd (x_lenSlice Try.underlying39 rfl) ?_
  refine sr_mv ?_
  refine sr_nil ?_
  refine aw_kp [0, 1, 4, 7, 8] ?_
  refine aw_block ?_
  refine aw_loop (ι := Nat) (fun k => k ≤ E.length ∧ ∀ j x, j < k → E[j]? = some x → twE y x = false) (fun k => [(0, .slice a E.length cap), (1, .func (.func 31) #[] #[.pointer (some ⟨qn, 0, none⟩)]), (7, .int .i64 E.length), (8, .int .i64 k)]) (fun _ => H) (fun k => E.length - k) 0 (⟨Nat.zero_le _, fun j x h => by omega⟩) KeepF.auto Sub.autoP ?_
  intro k hk9
  obtain ⟨hk, hok⟩ := hk9
  refine aw_seq_region ?_
  refine sr_c (x_lt rfl rfl) (fun h1 => ?_) (fun h1 => ?_)
  · refine sr_nil ?_
    refine aw_kp [0, 1, 7, 8, 9] ?_
    refine aw_seq ?_
    refine aw_true rfl ?_
    refine aw_skip ?_
    show AW _ _ _ _ _ _ _
    refine aw_seq ?_
    refine aw_block ?_
    refine aw_seq_region ?_
    refine sr_mv ?_
    refine sr_as ?_
    refine sr_nil ?_
    refine aw_kp [0, 1, 5, 7, 8, 9, 10] ?_
    refine aw_seq_region ?_
    obtain ⟨e, he⟩ := get_ex (show k < E.length by omega)
    obtain ⟨be, oe, hae, hce⟩ := hs.at_ _ _ he
    refine sr_mv ?_
    refine sr_mv ?_
    refine sr_mv ?_
    refine sr_rd (x_indexAddrN (k) Try.underlying39 sz46 rfl hae rfl (by omega) (by omega)) ?_
    refine sr_rd (x_loadN ag46 sz46 rfl (Cells.mono hce Sub.autoR) rfl) ?_
    refine sr_d rfl (wtd_none rfl) rfl (opS_call rfl rfl rfl rfl cl31 (gtw_s e y qn _ hq)) ?_
    rintro _ H ⟨rfl, rfl⟩
    generalize hd : twE y e = d1
    cases d1
    · refine sr_nil ?_
      refine aw_kp [0, 1, 5, 7, 8, 9, 10, 11, 12, 13, 14, 15, 16] ?_
      refine aw_false rfl ?_
      refine aw_skip ?_
      show AW _ _ _ _ _ _ _
      refine aw_region ?_
      refine sr_rd (x_add' rfl rfl (i64w (by omega) (by omega))) ?_
      refine sr_mv ?_
      refine sr_nil ?_
      show ∃ s', _ ∧ _ ∧ _ ∧ _
      exact ⟨k + 1, ⟨by omega, fun j y2 h hy => by (rcases Nat.lt_or_eq_of_le (Nat.le_of_lt_succ h) with q | q); (exact hok j y2 q hy); (subst q; rw [he] at hy; cases hy; exact hd)⟩, by omega, KeepF.auto, Sub.autoR⟩
    · refine sr_nil ?_
      refine aw_kp [0, 1, 5, 7, 8, 9, 10, 11, 12, 13, 14, 15, 16] ?_
      refine aw_true rfl ?_
      refine aw_seq_region ?_
      refine sr_mv ?_
      refine sr_as ?_
      refine sr_nil ?_
      refine aw_kp [0, 1, 4, 5, 7, 8, 9, 10, 11, 12, 13, 14, 15, 16, 17] ?_
      refine aw_ret ?_
      show ∃ v H2, ResV _ _ _ _ _ _ v ∧ Sub H2 _ ∧ _
      first | exact ⟨_, H, resV rfl (.cons rfl .nil), Sub.refl _, ⟨_, rfl, ⟨fun _ => List.any_eq_true.2 ⟨e, List.mem_of_getElem? he, hd⟩, fun _ => by omega⟩⟩, rfl⟩ | exact ⟨_, H, resV rfl (.cons rfl .nil), Sub.refl _, ⟨_, rfl, ⟨fun h => by omega, fun h => by (obtain ⟨x, hx, hxq⟩ := List.any_eq_true.1 h); (obtain ⟨j, hj⟩ := List.getElem?_of_mem hx); (rw [hok j x (by have := get_lt hj; omega) hj] at hxq); cases hxq⟩⟩, rfl⟩
  · refine sr_nil ?_
    refine aw_kp [0, 1, 7, 8, 9] ?_
    refine aw_seq ?_
    refine aw_false rfl ?_
    refine aw_exit ?_
    show AW _ _ _ _ _ _ _
    refine aw_seq_region ?_
    refine sr_as ?_
    refine sr_nil ?_
    refine aw_kp [4] ?_
    refine aw_ret ?_
    show ∃ v H2, ResV _ _ _ _ _ _ v ∧ Sub H2 _ ∧ _
    first | exact ⟨_, H, resV rfl (.cons rfl .nil), Sub.refl _, ⟨_, rfl, ⟨fun _ => List.any_eq_true.2 ⟨e, List.mem_of_getElem? he, hd⟩, fun _ => by omega⟩⟩, rfl⟩ | exact ⟨_, H, resV rfl (.cons rfl .nil), Sub.refl _, ⟨_, rfl, ⟨fun h => by omega, fun h => by (obtain ⟨x, hx, hxq⟩ := List.any_eq_true.1 h); (obtain ⟨j, hj⟩ := List.getElem?_of_mem hx); (rw [hok j x (by have := get_lt hj; omega) hj] at hxq); cases hxq⟩⟩, rfl⟩
set_option maxRecDepth 100000 in
set_option maxHeartbeats 400000 in
theorem gcon_s (a : Option Addr) (cap : Nat) (E : List DEdge) (H : SHeap) (hs : SlV W0 H 3 DEdge.cells a cap E) (y : DEdge) (qn : Nat) (hq : Cells W0 H qn 0 (DEdge.cells y)) : AC Try.prog W0 30 [.slice a E.length cap, .func (.func 31) #[] #[.pointer (some ⟨qn, 0, none⟩)]] H (fun v H' => v = .bool (E.any (twE y)) ∧ H' = H) := by
  refine ac_of Try.func30 rfl rfl rfl ?_
  refine aw_seq_region ?_
  refine sr_as ?_
  refine sr_nil ?_
  refine aw_kp [0, 1, 4] ?_
  refine aw_seq_region ?_
  refine sr_mv ?_
  refine sr_mv ?_
  refine sr_d rfl (wtd_none rfl) rfl (opS_call rfl rfl rfl rfl cl46 (gidx_s a cap E H hs y qn hq)) ?_
  rintro _ H ⟨⟨i, rfl, hi⟩, rfl⟩
  refine sr_c (x_ge rfl rfl) (fun h1 => ?_) (fun h1 => ?_)
  · refine sr_as ?_
    refine sr_nil ?_
    refine aw_kp [4] ?_
    refine aw_ret ?_
    show ∃ v H2, ResV _ _ _ _ _ _ v ∧ Sub H2 _ ∧ _
    exact ⟨_, H, resV rfl (.cons rfl .nil), (by repeat (first | exact Sub.refl _ | apply Sub.drop)), ⟨congrArg Value.bool (by first | exact (hi.1 (by omega)).symm | exact (Bool.eq_false_iff.2 (fun h => by have := hi.2 h; omega)).symm), rfl⟩⟩
  · refine sr_as ?_
    refine sr_nil ?_
    refine aw_kp [4] ?_
    refine aw_ret ?_
    show ∃ v H2, ResV _ _ _ _ _ _ v ∧ Sub H2 _ ∧ _
    exact ⟨_, H, resV rfl (.cons rfl .nil), (by repeat (first | exact Sub.refl _ | apply Sub.drop)), ⟨congrArg Value.bool (by first | exact (hi.1 (by omega)).symm | exact (Bool.eq_false_iff.2 (fun h => by have := hi.2 h; omega)).symm), rfl⟩⟩
set_option maxRecDepth 100000 in
set_option maxHeartbeats 2000000 in
theorem gleads_s (p : Nat) (a : Option Addr) (cap : Nat) (E : List DEdge) (H : SHeap) (hc : Cells W0 H p 0 [.slice a E.length cap, .bool true]) (hs : SlV W0 H 3 DEdge.cells a cap E) (hl : E.length ≤ 500) (f t : Int) : AC Try.prog W0 32 [.pointer (some ⟨p, 0, none⟩), .int .i64 f, .int .i64 t] H (fun v H' => (∃ b : Bool, v = .bool b ∧ (b = true ↔ Rch E f t)) ∧ H' = H) := by
  have hle := hs.le
  have hcb := hs.capb
  refine ac_of Try.func32 rfl rfl rfl ?_
  refine aw_seq_region ?_
  refine sr_as ?_
  refine sr_nil ?_
  refine aw_kp [0, 1, 2, 6] ?_
  refine aw_seq_region ?_
  refine sr_new rfl (wtd_none rfl) rfl (x_makeMap) ?_
  intro r1_0 hr1_0 gr1_0
  refine sr_as ?_
  refine sr_nil ?_
  refine aw_kp [0, 1, 2, 6, 7] ?_
  refine aw_seq_region ?_
  refine sr_mv ?_
  refine sr_new rfl (wtd_none rfl) rfl (x_buildSlice Try.underlying50 sz3 zr3 rfl rfl rfl rfl Parts.auto Fill.auto) ?_
  intro r2_1 hr2_1 gr2_1
  refine sr_as ?_
  refine sr_nil ?_
  refine aw_kp [0, 2, 6, 7, 8] ?_
  refine aw_seq ?_
  refine aw_block ?_
  refine aw_loop (ι := LdG) (fun s => Sch E f t s.seen s.todo ∧ SnI s.seen s.es ∧ unsn E s.seen + s.todo.length ≤ E.length + 1 ∧ OwnVec 1 3 (.slice s.a s.todo.length s.c) s.todo.length (s.todo.flatMap intC) s.E) (fun s => [(0, .pointer (some ⟨p, 0, none⟩)), (2, .int .i64 t), (7, .map (some r1_0)), (8, .slice s.a s.todo.length s.c)]) (fun s => (r1_0, .map s.es.toArray s.clk) :: (s.E ++ H)) (fun s => 2 * unsn E s.seen + s.todo.length) ⟨[], [], 0, [f], some ⟨r2_1, 0, none⟩, 1, [(r2_1, .cells [.int .i64 f].toArray 3 (0, 0))]⟩ (⟨Sch.init, SnI.nil, (by have : unsn E [] ≤ E.length := List.length_filter_le _ _; simp; omega), .mk (L := [.int .i64 f]) (post := []) rfl rfl (Nat.le_refl 1) (by first | omega | (dsimp only; omega))⟩) KeepF.auto Sub.autoP ?_
  intro s hs9
  obtain ⟨seen, es, clk, todo, a1, c1, E1⟩ := s
  dsimp only at hs9 ⊢
  obtain ⟨hS, hM, hb, V1⟩ := hs9
  have hs1 := V1.slv' (W0 := W0) (fun _ => rfl) rfl (Sub.refl _)
  have hle1 := hs1.le
  have hcb1 := hs1.capb
  refine aw_seq ?_
  refine aw_seq_region ?_
  refine sr_mv ?_
  refine sr_rd (x_lenSlice Try.underlying50 rfl) ?_
  refine sr_c (x_gt rfl rfl) (fun h1 => ?_) (fun h1 => ?_)
  · refine sr_nil ?_
    refine aw_kp [0, 2, 7, 8, 15, 16, 17] ?_
    refine aw_true rfl ?_
    refine aw_skip ?_
    show AW _ _ _ _ _ _ _
    refine aw_block ?_
    refine aw_seq_region ?_
    obtain ⟨todo, x, rfl⟩ := snoc_ex (show 0 < todo.length by omega)
    obtain ⟨bi, oi, hai, hci⟩ := hs1.at_ todo.length x (by simp)
    have hl9 : (todo ++ [x]).length = todo.length + 1 := by simp
    refine sr_mv ?_
    refine sr_mv ?_
    refine sr_rd (x_lenSlice Try.underlying50 rfl) ?_
    refine sr_rd (x_cast (u := .int .i64 (todo.length : Int)) (x_sub' rfl rfl (i64w (by omega) (by omega))) (by congr 1; omega)) ?_
    refine sr_rd (x_indexAddrN (todo.length) Try.underlying50 sz3 rfl hai rfl (by omega) (by omega)) ?_
    refine sr_rd (x_load ag3 rfl (cells_get (Cells.mono hci Sub.autoE) 0 rfl)) ?_
    refine sr_as ?_
    refine sr_nil ?_
    refine aw_kp [0, 2, 7, 8, 9, 15, 16, 17, 18, 19, 20, 21, 22, 23] ?_
    refine aw_seq_region ?_
    refine sr_mv ?_
    refine sr_mv ?_
    refine sr_rd (x_lenSlice Try.underlying50 rfl) ?_
    refine sr_rd (x_cast (u := .int .i64 (todo.length : Int)) (x_sub' rfl rfl (i64w (by omega) (by omega))) (by congr 1; omega)) ?_
    refine sr_rd (x_sliceHiK todo.length Try.underlying50 sz3 rfl rfl rfl (by omega)) ?_
    refine sr_as ?_
    refine sr_nil ?_
    refine aw_kp [0, 2, 7, 8, 9, 15, 16, 17, 18, 19, 20, 21, 22, 23, 24, 25, 26, 27, 28] ?_
    refine aw_seq ?_
    refine aw_seq_region ?_
    refine sr_mv ?_
    refine sr_mv ?_
    refine sr_c (x_eq rfl rfl) (fun h2 => ?_) (fun h2 => ?_)
    · refine sr_nil ?_
      refine aw_kp [0, 2, 7, 8, 9, 15, 16, 17, 18, 19, 20, 21, 22, 23, 24, 25, 26, 27, 28, 29, 30, 31] ?_
      refine aw_true rfl ?_
      refine aw_seq_region ?_
      refine sr_as ?_
      refine sr_nil ?_
      refine aw_kp [0, 2, 6, 7, 8, 9, 15, 16, 17, 18, 19, 20, 21, 22, 23, 24, 25, 26, 27, 28, 29, 30, 31] ?_
      refine aw_ret ?_
      show ∃ v H2, ResV _ _ _ _ _ _ v ∧ Sub H2 _ ∧ _
      first | (obtain rfl : x = t := by omega); exact ⟨_, H, resV rfl (.cons rfl .nil), Sub.autoD, ⟨true, rfl, ⟨fun _ => hS.sound x (.inr (by simp)), fun _ => rfl⟩⟩, rfl⟩ | (obtain rfl : todo = [] := List.length_eq_zero_iff.1 (by omega)); exact ⟨_, H, resV rfl (.cons rfl .nil), Sub.autoD, ⟨false, rfl, ⟨fun h => (by cases h), fun h => absurd h hS.done⟩⟩, rfl⟩
    · refine sr_nil ?_
      refine aw_kp [0, 2, 7, 8, 9, 15, 16, 17, 18, 19, 20, 21, 22, 23, 24, 25, 26, 27, 28, 29, 30, 31] ?_
      refine aw_false rfl ?_
      refine aw_skip ?_
      show AW _ _ _ _ _ _ _
      refine aw_seq ?_
      refine aw_seq_region ?_
      generalize hb9 : decide (x ∈ seen) = b9
      cases b9
      · refine sr_mv ?_
        refine sr_mv ?_
        refine sr_rd (x_cast (u := .bool false) (x_lookup Try.underlying85 Try.underlying3 zr4 rfl rfl (map_at mauto) hM.keys) ((hM.mem x).trans (by rw [hb9]))) ?_
        refine sr_nil ?_
        refine aw_kp [0, 2, 7, 8, 9, 15, 16, 17, 18, 19, 20, 21, 22, 23, 24, 25, 26, 27, 28, 29, 30, 31, 32, 33, 34] ?_
        refine aw_false rfl ?_
        refine aw_skip ?_
        show AW _ _ _ _ _ _ _
        refine aw_seq_region ?_
        refine sr_mv ?_
        refine sr_mv ?_
        refine sr_x0 rfl (wtd_none rfl) (x_mapUpdate Try.underlying85 Try.underlying3 rfl rfl rfl hM.keys Repl.auto) ?_
        refine sr_nil ?_
        refine aw_kp [0, 2, 7, 8, 9, 15, 16, 17, 18, 19, 20, 21, 22, 23, 24, 25, 26, 27, 28, 29, 30, 31, 32, 33, 34, 35, 36] ?_
        refine aw_seq_region ?_
        refine sr_mv ?_
        refine sr_rd (x_nilCheck rfl) ?_
        refine sr_rd (x_fieldAddr fd62_0 rfl) ?_
        refine sr_rd (x_load ag39 rfl (cells_get (Cells.mono hc Sub.autoR) 0 rfl)) ?_
        refine sr_rd (x_lenSlice Try.underlying39 rfl) ?_
        refine sr_mv ?_
        refine sr_nil ?_
        refine aw_kp [0, 2, 7, 8, 9, 15, 16, 17, 18, 19, 20, 21, 22, 23, 24, 25, 26, 27, 28, 29, 30, 31, 32, 33, 34, 35, 36, 37, 38, 39, 40, 41, 42] ?_
        refine aw_block ?_
        refine aw_loop (ι := IvG) (fun s => s.k ≤ E.length ∧ s.X = todo ++ outs (E.take s.k) x ∧ OwnVec 1 3 (.slice s.a s.X.length s.c) s.X.length (s.X.flatMap intC) s.E) (fun s => [(0, .pointer (some ⟨p, 0, none⟩)), (2, .int .i64 t), (7, .map (some r1_0)), (8, .slice s.a s.X.length s.c), (9, .int .i64 x), (40, .slice a E.length cap), (41, .int .i64 E.length), (42, .int .i64 s.k)]) (fun s => (r1_0, .map (mset .i64 x (.bool true) clk es).toArray (mclk x es clk)) :: (s.E ++ H)) (fun s => E.length - s.k) ⟨0, todo, a1, c1, E1⟩ (⟨Nat.zero_le _, (List.append_nil _).symm, ownPopI V1⟩) KeepF.auto Sub.autoP ?_
        intro s hs9
        obtain ⟨k, X, a2, c2, E2⟩ := s
        dsimp only at hs9 ⊢
        obtain ⟨hk, hX, V2⟩ := hs9
        have hXl : X.length ≤ todo.length + k := by (rw [hX, List.length_append]; have := outs_len (E.take k) x; rw [List.length_take] at this; omega)
        refine aw_seq_region ?_
        refine sr_c (x_lt rfl rfl) (fun h3 => ?_) (fun h3 => ?_)
        · refine sr_nil ?_
          refine aw_kp [0, 2, 7, 8, 9, 40, 41, 42, 43] ?_
          refine aw_seq ?_
          refine aw_true rfl ?_
          refine aw_skip ?_
          show AW _ _ _ _ _ _ _
          refine aw_seq ?_
          refine aw_block ?_
          refine aw_seq_region ?_
          obtain ⟨e, he⟩ := get_ex (show k < E.length by omega)
          obtain ⟨be, oe, hae, hce⟩ := hs.at_ _ _ he
          refine sr_rd (x_indexAddrN (k) Try.underlying39 sz46 rfl hae rfl (by omega) (by omega)) ?_
          refine sr_rd (x_loadN ag46 sz46 rfl (Cells.mono hce Sub.autoR) rfl) ?_
          refine sr_new rfl (wtd_none rfl) rfl (x_alloc zr46 rfl) ?_
          intro r12_2 hr12_2 gr12_2
          refine sr_x0 rfl (wtd_none rfl) (x_store sz46 rfl rfl rfl rfl rfl Repl.auto Spl.auto) ?_
          refine sr_nil ?_
          refine aw_kp [0, 2, 7, 8, 9, 11, 40, 41, 42, 43, 44, 45] ?_
          refine aw_seq_region ?_
          refine sr_rd (x_fieldAddr fd46_0 rfl) ?_
          refine sr_rd (x_load ag3 rfl (cells_ext mauto Ext.auto)) ?_
          refine sr_mv ?_
          refine sr_c (x_eq rfl rfl) (fun h4 => ?_) (fun h4 => ?_)
          · refine sr_nil ?_
            refine aw_kp [0, 2, 7, 8, 9, 11, 40, 41, 42, 43, 44, 45, 46, 47, 48, 49] ?_
            refine aw_true rfl ?_
            refine aw_region ?_
            refine sr_mv ?_
            refine sr_rd (x_fieldAddr fd46_1 rfl) ?_
            refine sr_rd (x_load ag3 rfl (cells_ext mauto Ext.auto)) ?_
            refine sr_new rfl (wtd_none rfl) rfl (x_buildSlice Try.underlying50 sz3 zr3 rfl rfl rfl rfl Parts.auto Fill.auto) ?_
            intro r14_3 hr14_3 gr14_3
            refine sr_d rfl (wtd_none rfl) rfl (opS_append (G := (r14_3, .cells [.int .i64 e.for_].toArray 3 (0, 0)) :: (r12_2, .cells (DEdge.cells e).toArray 46 (0, 0)) :: (r1_0, .map (mset .i64 x (.bool true) clk es).toArray (mclk x es clk)) :: H) (N := (intC e.for_)) (m := 1) Try.underlying50 sz3 zr3 rfl by3 rfl rfl V2 Sub.autoP (.inr ⟨_, _, rfl, (cells_ext mauto Ext.auto)⟩) (rfl) rfl (by omega) (by omega)) ?_
            rintro v54 _ ⟨E54, hV54, rfl⟩
            obtain ⟨a54, cap54, rfl⟩ := hV54.isSl
            refine sr_as ?_
            refine sr_nil ?_
            show AW _ _ _ _ _ _ _
            refine aw_region ?_
            refine sr_rd (x_add' rfl rfl (i64w (by omega) (by omega))) ?_
            refine sr_mv ?_
            refine sr_nil ?_
            show ∃ s', _ ∧ _ ∧ _ ∧ _
            first | exact ⟨⟨k + 1, X ++ [e.for_], a54, cap54, E54⟩, ⟨by dsimp only; omega, (by dsimp only; rw [outs_take he, if_pos (by omega), hX, List.append_assoc]), OwnVec.snocS hV54⟩, by dsimp only; omega, (by rw [List.length_append]; exact KeepF.auto), Sub.autoD⟩ | exact ⟨⟨k + 1, X, a2, c2, E2⟩, ⟨by dsimp only; omega, (by dsimp only; rw [outs_take he, if_neg (by omega), List.append_nil, hX]), V2⟩, by dsimp only; omega, KeepF.auto, Sub.autoD⟩
          · refine sr_nil ?_
            refine aw_kp [0, 2, 7, 8, 9, 11, 40, 41, 42, 43, 44, 45, 46, 47, 48, 49] ?_
            refine aw_false rfl ?_
            refine aw_skip ?_
            show AW _ _ _ _ _ _ _
            refine aw_region ?_
            refine sr_rd (x_add' rfl rfl (i64w (by omega) (by omega))) ?_
            refine sr_mv ?_
            refine sr_nil ?_
            show ∃ s', _ ∧ _ ∧ _ ∧ _
            first | exact ⟨⟨k + 1, X ++ [e.for_], a54, cap54, E54⟩, ⟨by dsimp only; omega, (by dsimp only; rw [outs_take he, if_pos (by omega), hX, List.append_assoc]), OwnVec.snocS hV54⟩, by dsimp only; omega, (by rw [List.length_append]; exact KeepF.auto), Sub.autoD⟩ | exact ⟨⟨k + 1, X, a2, c2, E2⟩, ⟨by dsimp only; omega, (by dsimp only; rw [outs_take he, if_neg (by omega), List.append_nil, hX]), V2⟩, by dsimp only; omega, KeepF.auto, Sub.autoD⟩
        · refine sr_nil ?_
          refine aw_kp [0, 2, 7, 8, 9, 40, 41, 42, 43] ?_
          refine aw_seq ?_
          refine aw_false rfl ?_
          refine aw_exit ?_
          show ∃ s', _ ∧ _ ∧ _ ∧ _
          rw [List.take_of_length_le (by omega)] at hX; subst hX; exact ⟨⟨x :: seen, mset .i64 x (.bool true) clk es, mclk x es clk, todo ++ outs E x, a2, c2, E2⟩, ⟨hS.go (by omega), hM.put, (by dsimp only; have := unsn_go (E := E) (of_decide_eq_false hb9); rw [List.length_append]; omega), V2⟩, (by dsimp only; have := unsn_go (E := E) (of_decide_eq_false hb9); rw [List.length_append]; omega), KeepF.auto, Sub.autoD⟩
      · refine sr_mv ?_
        refine sr_mv ?_
        refine sr_rd (x_cast (u := .bool true) (x_lookup Try.underlying85 Try.underlying3 zr4 rfl rfl (map_at mauto) hM.keys) ((hM.mem x).trans (by rw [hb9]))) ?_
        refine sr_nil ?_
        refine aw_kp [0, 2, 7, 8, 9, 15, 16, 17, 18, 19, 20, 21, 22, 23, 24, 25, 26, 27, 28, 29, 30, 31, 32, 33, 34] ?_
        refine aw_true rfl ?_
        refine aw_exit ?_
        show ∃ s', _ ∧ _ ∧ _ ∧ _
        exact ⟨⟨seen, es, clk, todo, a1, c1, E1⟩, ⟨hS.skip (of_decide_eq_true hb9), hM, by dsimp only; omega, ownPopI V1⟩, (by dsimp only; omega), KeepF.auto, Sub.autoD⟩
  · refine sr_nil ?_
    refine aw_kp [0, 2, 7, 8, 15, 16, 17] ?_
    refine aw_false rfl ?_
    refine aw_exit ?_
    show AW _ _ _ _ _ _ _
    refine aw_seq_region ?_
    refine sr_as ?_
    refine sr_nil ?_
    refine aw_kp [6] ?_
    refine aw_ret ?_
    show ∃ v H2, ResV _ _ _ _ _ _ v ∧ Sub H2 _ ∧ _
    first | (obtain rfl : x = t := by omega); exact ⟨_, H, resV rfl (.cons rfl .nil), Sub.autoD, ⟨true, rfl, ⟨fun _ => hS.sound x (.inr (by simp)), fun _ => rfl⟩⟩, rfl⟩ | (obtain rfl : todo = [] := List.length_eq_zero_iff.1 (by omega)); exact ⟨_, H, resV rfl (.cons rfl .nil), Sub.autoD, ⟨false, rfl, ⟨fun h => (by cases h), fun h => absurd h hS.done⟩⟩, rfl⟩
end
end Go.Proofs.Ytonpnkekcipmlaa
