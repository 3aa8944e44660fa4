/- Sorting numbers. -/
import Derived.Test.YteilocpjikmmdaaPdma
namespace Go.Proofs.Yteilocpjikmmdaa
open Go.Proofs.Yteilocpjikmmdaa.Sym
open Go.RowKit (Below)
set_option linter.unusedVariables false
set_option linter.unusedSimpArgs false

section
variable {W0 : World}
set_option maxRecDepth 100000 in
set_option maxHeartbeats 4000000 in
theorem mPart_s (b cap n : Nat) (W : List Int) (post : List Value) (G : SHeap) (hl : W.length = n) (hn : n ≤ 100000) (hcap : n ≤ cap) (hcb : cap ≤ 9223372036854775807) (a e q : Nat) (h1 : a ≤ q) (h2 : q < e) (h3 : e ≤ n) : AC Try.prog W0 164 [.slice (some ⟨b, 0, none⟩) n cap, .int .i64 a, .int .i64 e, .int .i64 q] ((b, .cells ((W).flatMap intC ++ post).toArray 3 (0, 0)) :: G) (fun v H' => ∃ W' m, a ≤ m ∧ m < e ∧ Pq W a e W' ∧ (Al W' a m (fun x => x < gd W q) ∧ gd W' m = gd W q ∧ Al W' (m + 1) e (fun x => gd W q ≤ x)) ∧ (∃ bb, v = .tuple #[.int .i64 (m : Nat), .bool bb]) ∧ H' = (b, .cells ((W').flatMap intC ++ post).toArray 3 (0, 0)) :: G) := by
  refine ac_of Try.func164 rfl rfl rfl ?_
  refine aw_seq_region ?_
  refine sr_as ?_
  refine sr_as ?_
  refine sr_nil ?_
  refine aw_kp [0, 1, 2, 3, 8, 9] ?_
  refine aw_seq_dr ⟨_, 16, 168, [[], [], [], [], [], [], [4, 5], [4, 5, 6], [], [], [8, 9], [8, 9, 10], [0, 1, 4, 5, 6, 7, 8, 9, 10, 11], [0, 1, 4, 5, 6, 7, 8, 9, 10, 11, 12], [0, 1, 2, 3, 4, 5, 6, 7, 8, 9, 10, 11, 12, 13], [0, 1, 2, 3, 4, 5, 6, 7, 8, 9, 10, 11, 12, 13, 14]], [.light, .light, .light, .light, .light, .light, .light, .mem, .light, .light, .light, .mem, .light, .eff, .light, .eff]⟩ (by kernel_rfl) rfl rfl mix ?_
  refine dr_l (x_move rfl) ?_
  refine dr_l (x_move rfl) ?_
  refine dr_l (x_move rfl) ?_
  refine dr_l (x_move rfl) ?_
  refine dr_l (x_move rfl) ?_
  refine dr_l (x_move rfl) ?_
  refine dr_l (x_indexAddrN (q) Try.underlying134 sz3 rfl rfl rfl (by omega) (by omega)) ?_
  refine dr_mem0 rfl rfl (wtd_none rfl) (x_load ag3 rfl (cells_get (cells_flat0 (n := 1) (enc := intC) (fun _ => rfl) (xs := W) (i := q) (post := post) (show (b, Obj.cells ((W).flatMap intC ++ post).toArray 3 (0, 0)) ∈ _ from mauto) (gd_some (by omega))) 0 rfl)) ?_
  refine dr_l (x_move rfl) ?_
  refine dr_l (x_move rfl) ?_
  refine dr_l (x_indexAddrN (a) Try.underlying134 sz3 rfl rfl rfl (by omega) (by omega)) ?_
  refine dr_mem0 rfl rfl (wtd_none rfl) (x_load ag3 rfl (cells_get (cells_flat0 (n := 1) (enc := intC) (fun _ => rfl) (xs := W) (i := a) (post := post) (show (b, Obj.cells ((W).flatMap intC ++ post).toArray 3 (0, 0)) ∈ _ from mauto) (gd_some (by omega))) 0 rfl)) ?_
  refine dr_l (x_indexAddrN (a) Try.underlying134 sz3 rfl rfl rfl (by omega) (by omega)) ?_
  refine dr_store0 rfl rfl (wtd_none rfl) (x_store sz3 rfl rfl rfl rfl rfl Repl.auto (spl_flat0 (n := 1) (enc := intC) (fun _ => rfl) (xs := W) (post := post) (i := (a)) (x' := gd W (q)) (by first | omega | (rw [List.length_set]; omega)))) (by first | rfl | simp [keys_append, keys_cons]) ?_
  refine dr_l (x_indexAddrN (q) Try.underlying134 sz3 rfl rfl rfl (by omega) (by omega)) ?_
  refine dr_store0 rfl rfl (wtd_none rfl) (x_store sz3 rfl rfl rfl rfl rfl Repl.auto (spl_flat0 (n := 1) (enc := intC) (fun _ => rfl) (xs := ((W).set (a) (gd W (q)))) (post := post) (i := (q)) (x' := gd W (a)) (by first | omega | (rw [List.length_set]; omega)))) (by first | rfl | simp [keys_append, keys_cons]) ?_
  refine dr_nil0 ?_
  refine aw_kp [0, 1, 2, 8, 9] ?_
  refine aw_seq_region ?_
  refine sr_mv ?_
  refine sr_rd (x_cast (u := .int .i64 ((a + 1 : Nat) : Int)) (x_add' rfl rfl (i64w (by omega) (by omega))) (by congr 1)) ?_
  refine sr_mv ?_
  refine sr_rd (x_cast (u := .int .i64 ((e - 1 : Nat) : Int)) (x_sub' rfl rfl (i64w (by omega) (by omega))) (by congr 1; omega)) ?_
  refine sr_as ?_
  refine sr_as ?_
  refine sr_nil ?_
  refine aw_kp [0, 1, 8, 9, 10, 11] ?_
  refine aw_seq ?_
  refine aw_block ?_
  refine aw_loop (ι := Pd1) (fun s => a + 1 ≤ s.k ∧ s.k ≤ e ∧ s.W.length = n ∧ Pq W a e s.W ∧ gd s.W a = gd W q ∧ Al s.W (a + 1) s.k (fun x => x < gd W q)) (fun s => [(0, .slice (some ⟨b, 0, none⟩) n cap), (1, .int .i64 a), (10, .int .i64 s.k), (11, .int .i64 ((e - 1 : Nat) : Int))]) (fun s => (b, .cells ((s.W).flatMap intC ++ post).toArray 3 (0, 0)) :: G) (fun s => e - s.k) ⟨a + 1, sw W a q⟩ (⟨Nat.le_refl _, by dsimp only; omega, sw_len.trans hl, Pq.sw (by omega) (by omega) (by omega), gd_swl (by omega) (by omega), Al.zero (Nat.le_refl _)⟩) KeepF.auto Sub.autoP ?_
  intro s hs9
  obtain ⟨i0, cur⟩ := s
  dsimp only at hs9 ⊢
  obtain ⟨hi1, hi2, hcl, hpq, hpa, hA0⟩ := hs9
  refine aw_seq ?_
  refine aw_seq_dr ⟨_, 14, 168, [[], [], [0, 1], [0, 1, 2], [0, 1, 2, 3], [0, 1, 2, 3], [0, 1, 2, 3, 4, 5], [0, 1, 2, 3, 4, 5, 6], [0, 1, 2, 3], [0, 1, 2, 3], [0, 1, 2, 3, 8, 9], [0, 1, 2, 3, 8, 9, 10], [0, 1, 2, 3, 4, 5, 6, 7, 8, 9, 10, 11], [0, 1, 2, 3, 4, 5, 6, 7, 8, 9, 10, 11, 12]], [.light, .light, .light, .light, .light, .light, .light, .mem, .light, .light, .light, .mem, .call, .light]⟩ (by kernel_rfl) rfl rfl mix ?_
  refine dr_l (x_move rfl) ?_
  refine dr_l (x_move rfl) ?_
  refine dr_cmp rfl rfl (wtd_none rfl) (x_le rfl rfl) (fun h1 => ?_) (fun h1 => ?_)
  · refine dr_l (x_move rfl) ?_
    refine dr_y (x_move rfl) ?_
    refine dr_y (x_move rfl) ?_
    refine dr_y (x_indexAddrN (i0) Try.underlying134 sz3 rfl rfl rfl (by omega) (by omega)) ?_
    refine dr_mem0 rfl rfl (wtd_yes rfl rfl rfl) (x_load ag3 rfl (cells_get (cells_flat0 (n := 1) (enc := intC) (fun _ => rfl) (xs := cur) (i := i0) (post := post) (show (b, Obj.cells ((cur).flatMap intC ++ post).toArray 3 (0, 0)) ∈ _ from mauto) (gd_some (by omega))) 0 rfl)) ?_
    refine dr_y (x_move rfl) ?_
    refine dr_y (x_move rfl) ?_
    refine dr_y (x_indexAddrN (a) Try.underlying134 sz3 rfl rfl rfl (by omega) (by omega)) ?_
    refine dr_mem0 rfl rfl (wtd_yes rfl rfl rfl) (x_load ag3 rfl (cells_get (cells_flat0 (n := 1) (enc := intC) (fun _ => rfl) (xs := cur) (i := a) (post := post) (show (b, Obj.cells ((cur).flatMap intC ++ post).toArray 3 (0, 0)) ∈ _ from mauto) (gd_some (by omega))) 0 rfl)) ?_
    refine dr_callq0 rfl rfl (wtd_yes rfl rfl rfl) (opS_F rfl rfl rfl rfl cl162 ((mLess_s (gd cur i0) (gd cur a) _))) (⟨_, rfl⟩) ?_
    rintro _ rfl
    generalize hdA : decide (gd cur i0 < gd cur a) = dA
    cases dA
    · refine dr_l (x_pick_t rfl rfl rfl) ?_
      refine dr_nil0 ?_
      refine aw_kp [0, 1, 10, 11, 30, 31, 32, 33, 34, 35, 36, 37, 38, 39, 40, 41, 42, 43] ?_
      refine aw_false rfl ?_
      refine aw_exit ?_
      show AW _ _ _ _ _ _ _
      refine aw_seq ?_
      refine aw_block ?_
      refine aw_loop (ι := Nat) (fun k => k ≤ e - 1 ∧ i0 ≤ k + 1 ∧ Al cur (k + 1) e (fun x => gd W q ≤ x)) (fun k => [(0, .slice (some ⟨b, 0, none⟩) n cap), (1, .int .i64 a), (10, .int .i64 i0), (11, .int .i64 k)]) (fun _ => (b, .cells ((cur).flatMap intC ++ post).toArray 3 (0, 0)) :: G) (fun k => k) (e - 1) (⟨Nat.le_refl _, by omega, Al.zero (by omega)⟩) KeepF.auto Sub.autoP ?_
      intro j0 hj9
      obtain ⟨hj1, hj2, hB0⟩ := hj9
      refine aw_seq ?_
      refine aw_seq_dr ⟨_, 15, 168, [[], [], [0, 1], [0, 1, 2], [0, 1, 2, 3], [0, 1, 2, 3], [0, 1, 2, 3, 4, 5], [0, 1, 2, 3, 4, 5, 6], [0, 1, 2, 3], [0, 1, 2, 3], [0, 1, 2, 3, 8, 9], [0, 1, 2, 3, 8, 9, 10], [0, 1, 2, 3, 4, 5, 6, 7, 8, 9, 10, 11], [0, 1, 2, 3, 4, 5, 6, 7, 8, 9, 10, 11, 12], [0, 1, 2, 3, 4, 5, 6, 7, 8, 9, 10, 11, 12, 13]], [.light, .light, .light, .light, .light, .light, .light, .mem, .light, .light, .light, .mem, .call, .light, .light]⟩ (by kernel_rfl) rfl rfl mix ?_
      refine dr_l (x_move rfl) ?_
      refine dr_l (x_move rfl) ?_
      refine dr_cmp rfl rfl (wtd_none rfl) (x_le rfl rfl) (fun h2 => ?_) (fun h2 => ?_)
      · refine dr_l (x_move rfl) ?_
        refine dr_y (x_move rfl) ?_
        refine dr_y (x_move rfl) ?_
        refine dr_y (x_indexAddrN (j0) Try.underlying134 sz3 rfl rfl rfl (by omega) (by omega)) ?_
        refine dr_mem0 rfl rfl (wtd_yes rfl rfl rfl) (x_load ag3 rfl (cells_get (cells_flat0 (n := 1) (enc := intC) (fun _ => rfl) (xs := cur) (i := j0) (post := post) (show (b, Obj.cells ((cur).flatMap intC ++ post).toArray 3 (0, 0)) ∈ _ from mauto) (gd_some (by omega))) 0 rfl)) ?_
        refine dr_y (x_move rfl) ?_
        refine dr_y (x_move rfl) ?_
        refine dr_y (x_indexAddrN (a) Try.underlying134 sz3 rfl rfl rfl (by omega) (by omega)) ?_
        refine dr_mem0 rfl rfl (wtd_yes rfl rfl rfl) (x_load ag3 rfl (cells_get (cells_flat0 (n := 1) (enc := intC) (fun _ => rfl) (xs := cur) (i := a) (post := post) (show (b, Obj.cells ((cur).flatMap intC ++ post).toArray 3 (0, 0)) ∈ _ from mauto) (gd_some (by omega))) 0 rfl)) ?_
        refine dr_callq0 rfl rfl (wtd_yes rfl rfl rfl) (opS_F rfl rfl rfl rfl cl162 ((mLess_s (gd cur j0) (gd cur a) _))) (⟨_, rfl⟩) ?_
        rintro _ rfl
        generalize hdB : decide (gd cur j0 < gd cur a) = dB
        cases dB
        · refine dr_y (x_not rfl) ?_
          refine dr_l (x_pick_t rfl rfl rfl) ?_
          refine dr_nil0 ?_
          refine aw_kp [0, 1, 10, 11, 46, 47, 48, 49, 50, 51, 52, 53, 54, 55, 56, 57, 58, 59, 60] ?_
          refine aw_true rfl ?_
          refine aw_skip ?_
          show AW _ _ _ _ _ _ _
          refine aw_block ?_
          refine aw_region ?_
          refine sr_mv ?_
          refine sr_rd (x_cast (u := .int .i64 ((j0 - 1 : Nat) : Int)) (x_sub' rfl rfl (i64w (by omega) (by omega))) (by congr 1; omega)) ?_
          refine sr_as ?_
          refine sr_nil ?_
          show ∃ s', _ ∧ _ ∧ _ ∧ _
          exact ⟨j0 - 1, ⟨by omega, by omega, (Al.down hB0 (by (have q9 := of_decide_eq_false hdB); (rw [hpa] at q9); exact Int.not_lt.1 q9)).mono (by omega) (Nat.le_refl _)⟩, by omega, KeepF.auto, Sub.autoP⟩
        · refine dr_y (x_not rfl) ?_
          refine dr_l (x_pick_t rfl rfl rfl) ?_
          refine dr_nil0 ?_
          refine aw_kp [0, 1, 10, 11, 46, 47, 48, 49, 50, 51, 52, 53, 54, 55, 56, 57, 58, 59, 60] ?_
          refine aw_false rfl ?_
          refine aw_exit ?_
          show AW _ _ _ _ _ _ _
          refine aw_seq ?_
          refine aw_seq_region ?_
          refine sr_mv ?_
          refine sr_mv ?_
          refine sr_c (x_gt rfl rfl) (fun h3 => absurd h3 (by first | omega | decide)) (fun h3 => ?_)
          refine sr_nil ?_
          refine aw_kp [0, 1, 10, 11, 65] ?_
          refine aw_false rfl ?_
          refine aw_skip ?_
          show AW _ _ _ _ _ _ _
          refine aw_seq_dr ⟨_, 16, 168, [[], [], [], [], [], [], [4, 5], [4, 5, 6], [], [], [8, 9], [8, 9, 10], [0, 1, 4, 5, 6, 7, 8, 9, 10, 11], [0, 1, 4, 5, 6, 7, 8, 9, 10, 11, 12], [0, 1, 2, 3, 4, 5, 6, 7, 8, 9, 10, 11, 12, 13], [0, 1, 2, 3, 4, 5, 6, 7, 8, 9, 10, 11, 12, 13, 14]], [.light, .light, .light, .light, .light, .light, .light, .mem, .light, .light, .light, .mem, .light, .eff, .light, .eff]⟩ (by kernel_rfl) rfl rfl mix ?_
          have hlt : i0 < j0 := by (rcases Nat.lt_or_ge i0 j0 with q9 | q9); (exact q9); (obtain rfl : i0 = j0 := (by omega)); (have q8 := of_decide_eq_false hdA); (have q7 := of_decide_eq_true hdB); omega
          refine dr_l (x_move rfl) ?_
          refine dr_l (x_move rfl) ?_
          refine dr_l (x_move rfl) ?_
          refine dr_l (x_move rfl) ?_
          refine dr_l (x_move rfl) ?_
          refine dr_l (x_move rfl) ?_
          refine dr_l (x_indexAddrN (j0) Try.underlying134 sz3 rfl rfl rfl (by omega) (by omega)) ?_
          refine dr_mem0 rfl rfl (wtd_none rfl) (x_load ag3 rfl (cells_get (cells_flat0 (n := 1) (enc := intC) (fun _ => rfl) (xs := cur) (i := j0) (post := post) (show (b, Obj.cells ((cur).flatMap intC ++ post).toArray 3 (0, 0)) ∈ _ from mauto) (gd_some (by omega))) 0 rfl)) ?_
          refine dr_l (x_move rfl) ?_
          refine dr_l (x_move rfl) ?_
          refine dr_l (x_indexAddrN (i0) Try.underlying134 sz3 rfl rfl rfl (by omega) (by omega)) ?_
          refine dr_mem0 rfl rfl (wtd_none rfl) (x_load ag3 rfl (cells_get (cells_flat0 (n := 1) (enc := intC) (fun _ => rfl) (xs := cur) (i := i0) (post := post) (show (b, Obj.cells ((cur).flatMap intC ++ post).toArray 3 (0, 0)) ∈ _ from mauto) (gd_some (by omega))) 0 rfl)) ?_
          refine dr_l (x_indexAddrN (i0) Try.underlying134 sz3 rfl rfl rfl (by omega) (by omega)) ?_
          refine dr_store0 rfl rfl (wtd_none rfl) (x_store sz3 rfl rfl rfl rfl rfl Repl.auto (spl_flat0 (n := 1) (enc := intC) (fun _ => rfl) (xs := cur) (post := post) (i := (i0)) (x' := gd cur (j0)) (by first | omega | (rw [List.length_set]; omega)))) (by first | rfl | simp [keys_append, keys_cons]) ?_
          refine dr_l (x_indexAddrN (j0) Try.underlying134 sz3 rfl rfl rfl (by omega) (by omega)) ?_
          refine dr_store0 rfl rfl (wtd_none rfl) (x_store sz3 rfl rfl rfl rfl rfl Repl.auto (spl_flat0 (n := 1) (enc := intC) (fun _ => rfl) (xs := ((cur).set (i0) (gd cur (j0)))) (post := post) (i := (j0)) (x' := gd cur (i0)) (by first | omega | (rw [List.length_set]; omega)))) (by first | rfl | simp [keys_append, keys_cons]) ?_
          refine dr_nil0 ?_
          refine aw_kp [0, 1, 10, 11] ?_
          refine aw_seq_region ?_
          refine sr_mv ?_
          refine sr_rd (x_cast (u := .int .i64 ((i0 + 1 : Nat) : Int)) (x_add' rfl rfl (i64w (by omega) (by omega))) (by congr 1)) ?_
          refine sr_as ?_
          refine sr_nil ?_
          refine aw_kp [0, 1, 10, 11] ?_
          refine aw_seq_region ?_
          refine sr_mv ?_
          refine sr_rd (x_cast (u := .int .i64 ((j0 - 1 : Nat) : Int)) (x_sub' rfl rfl (i64w (by omega) (by omega))) (by congr 1; omega)) ?_
          refine sr_as ?_
          refine sr_nil ?_
          refine aw_kp [0, 1, 10, 11] ?_
          refine aw_seq ?_
          refine aw_block ?_
          refine aw_loop (ι := Pd2) (fun s => a + 1 ≤ s.i ∧ s.i ≤ s.j + 1 ∧ s.j + 1 ≤ e ∧ s.W.length = n ∧ Pq W a e s.W ∧ gd s.W a = gd W q ∧ Al s.W (a + 1) s.i (fun x => x < gd W q) ∧ Al s.W (s.j + 1) e (fun x => gd W q ≤ x)) (fun s => [(0, .slice (some ⟨b, 0, none⟩) n cap), (1, .int .i64 a), (10, .int .i64 s.i), (11, .int .i64 s.j)]) (fun s => (b, .cells ((s.W).flatMap intC ++ post).toArray 3 (0, 0)) :: G) (fun s => s.j + 1 - s.i) ⟨i0 + 1, j0 - 1, sw cur i0 j0⟩ (⟨by dsimp only; omega, by dsimp only; omega, by dsimp only; omega, sw_len.trans hcl, hpq.trans (Pq.sw (by omega) (by omega) (by omega)), (gd_swn (by omega) (by omega) (by omega) (by omega)).trans hpa, (hA0.swo (by omega) (by omega) (by omega) (by omega)).up (by (rw [gd_swl (by omega) (by omega)]); (have q9 := of_decide_eq_true hdB); (rw [hpa] at q9); exact q9), (Al.down (hB0.swo (by omega) (by omega) (by omega) (by omega)) (by (rw [gd_swr (by omega) (by omega)]); (have q9 := of_decide_eq_false hdA); (rw [hpa] at q9); exact Int.not_lt.1 q9)).mono (by dsimp only; omega) (Nat.le_refl _)⟩) KeepF.auto Sub.autoP ?_
          intro s hs8
          clear hi1 hi2 hcl hpq hpa hA0 hj1 hj2 hB0 hlt hdA hdB
          obtain ⟨i, j, cur⟩ := s
          dsimp only at hs8 ⊢
          obtain ⟨hi1, hij, hj1, hcl, hpq, hpa, hA, hB⟩ := hs8
          refine aw_block ?_
          refine aw_seq ?_
          refine aw_block ?_
          refine aw_loop (ι := Nat) (fun k => i ≤ k ∧ k ≤ j + 1 ∧ Al cur (a + 1) k (fun x => x < gd W q)) (fun k => [(0, .slice (some ⟨b, 0, none⟩) n cap), (1, .int .i64 a), (10, .int .i64 k), (11, .int .i64 j)]) (fun _ => (b, .cells ((cur).flatMap intC ++ post).toArray 3 (0, 0)) :: G) (fun k => j + 1 - k) i (⟨Nat.le_refl _, hij, hA⟩) KeepF.auto Sub.autoP ?_
          intro i2 hi9
          obtain ⟨hi2, hi3, hA2⟩ := hi9
          refine aw_seq ?_
          refine aw_seq_dr ⟨_, 14, 168, [[], [], [0, 1], [0, 1, 2], [0, 1, 2, 3], [0, 1, 2, 3], [0, 1, 2, 3, 4, 5], [0, 1, 2, 3, 4, 5, 6], [0, 1, 2, 3], [0, 1, 2, 3], [0, 1, 2, 3, 8, 9], [0, 1, 2, 3, 8, 9, 10], [0, 1, 2, 3, 4, 5, 6, 7, 8, 9, 10, 11], [0, 1, 2, 3, 4, 5, 6, 7, 8, 9, 10, 11, 12]], [.light, .light, .light, .light, .light, .light, .light, .mem, .light, .light, .light, .mem, .call, .light]⟩ (by kernel_rfl) rfl rfl mix ?_
          refine dr_l (x_move rfl) ?_
          refine dr_l (x_move rfl) ?_
          refine dr_cmp rfl rfl (wtd_none rfl) (x_le rfl rfl) (fun h4 => ?_) (fun h4 => ?_)
          · refine dr_l (x_move rfl) ?_
            refine dr_y (x_move rfl) ?_
            refine dr_y (x_move rfl) ?_
            refine dr_y (x_indexAddrN (i2) Try.underlying134 sz3 rfl rfl rfl (by omega) (by omega)) ?_
            refine dr_mem0 rfl rfl (wtd_yes rfl rfl rfl) (x_load ag3 rfl (cells_get (cells_flat0 (n := 1) (enc := intC) (fun _ => rfl) (xs := cur) (i := i2) (post := post) (show (b, Obj.cells ((cur).flatMap intC ++ post).toArray 3 (0, 0)) ∈ _ from mauto) (gd_some (by omega))) 0 rfl)) ?_
            refine dr_y (x_move rfl) ?_
            refine dr_y (x_move rfl) ?_
            refine dr_y (x_indexAddrN (a) Try.underlying134 sz3 rfl rfl rfl (by omega) (by omega)) ?_
            refine dr_mem0 rfl rfl (wtd_yes rfl rfl rfl) (x_load ag3 rfl (cells_get (cells_flat0 (n := 1) (enc := intC) (fun _ => rfl) (xs := cur) (i := a) (post := post) (show (b, Obj.cells ((cur).flatMap intC ++ post).toArray 3 (0, 0)) ∈ _ from mauto) (gd_some (by omega))) 0 rfl)) ?_
            refine dr_callq0 rfl rfl (wtd_yes rfl rfl rfl) (opS_F rfl rfl rfl rfl cl162 ((mLess_s (gd cur i2) (gd cur a) _))) (⟨_, rfl⟩) ?_
            rintro _ rfl
            generalize hd1 : decide (gd cur i2 < gd cur a) = d1
            cases d1
            · refine dr_l (x_pick_t rfl rfl rfl) ?_
              refine dr_nil0 ?_
              refine aw_kp [0, 1, 10, 11, 99, 100, 101, 102, 103, 104, 105, 106, 107, 108, 109, 110, 111, 112] ?_
              refine aw_false rfl ?_
              refine aw_exit ?_
              show AW _ _ _ _ _ _ _
              refine aw_seq ?_
              refine aw_block ?_
              refine aw_loop (ι := Nat) (fun k => k ≤ j ∧ i2 ≤ k + 1 ∧ Al cur (k + 1) e (fun x => gd W q ≤ x)) (fun k => [(0, .slice (some ⟨b, 0, none⟩) n cap), (1, .int .i64 a), (10, .int .i64 i2), (11, .int .i64 k)]) (fun _ => (b, .cells ((cur).flatMap intC ++ post).toArray 3 (0, 0)) :: G) (fun k => k) j (⟨Nat.le_refl _, hi3, hB⟩) KeepF.auto Sub.autoP ?_
              intro j2 hj9
              obtain ⟨hj2, hj3, hB2⟩ := hj9
              refine aw_seq ?_
              refine aw_seq_dr ⟨_, 15, 168, [[], [], [0, 1], [0, 1, 2], [0, 1, 2, 3], [0, 1, 2, 3], [0, 1, 2, 3, 4, 5], [0, 1, 2, 3, 4, 5, 6], [0, 1, 2, 3], [0, 1, 2, 3], [0, 1, 2, 3, 8, 9], [0, 1, 2, 3, 8, 9, 10], [0, 1, 2, 3, 4, 5, 6, 7, 8, 9, 10, 11], [0, 1, 2, 3, 4, 5, 6, 7, 8, 9, 10, 11, 12], [0, 1, 2, 3, 4, 5, 6, 7, 8, 9, 10, 11, 12, 13]], [.light, .light, .light, .light, .light, .light, .light, .mem, .light, .light, .light, .mem, .call, .light, .light]⟩ (by kernel_rfl) rfl rfl mix ?_
              refine dr_l (x_move rfl) ?_
              refine dr_l (x_move rfl) ?_
              refine dr_cmp rfl rfl (wtd_none rfl) (x_le rfl rfl) (fun h5 => ?_) (fun h5 => ?_)
              · refine dr_l (x_move rfl) ?_
                refine dr_y (x_move rfl) ?_
                refine dr_y (x_move rfl) ?_
                refine dr_y (x_indexAddrN (j2) Try.underlying134 sz3 rfl rfl rfl (by omega) (by omega)) ?_
                refine dr_mem0 rfl rfl (wtd_yes rfl rfl rfl) (x_load ag3 rfl (cells_get (cells_flat0 (n := 1) (enc := intC) (fun _ => rfl) (xs := cur) (i := j2) (post := post) (show (b, Obj.cells ((cur).flatMap intC ++ post).toArray 3 (0, 0)) ∈ _ from mauto) (gd_some (by omega))) 0 rfl)) ?_
                refine dr_y (x_move rfl) ?_
                refine dr_y (x_move rfl) ?_
                refine dr_y (x_indexAddrN (a) Try.underlying134 sz3 rfl rfl rfl (by omega) (by omega)) ?_
                refine dr_mem0 rfl rfl (wtd_yes rfl rfl rfl) (x_load ag3 rfl (cells_get (cells_flat0 (n := 1) (enc := intC) (fun _ => rfl) (xs := cur) (i := a) (post := post) (show (b, Obj.cells ((cur).flatMap intC ++ post).toArray 3 (0, 0)) ∈ _ from mauto) (gd_some (by omega))) 0 rfl)) ?_
                refine dr_callq0 rfl rfl (wtd_yes rfl rfl rfl) (opS_F rfl rfl rfl rfl cl162 ((mLess_s (gd cur j2) (gd cur a) _))) (⟨_, rfl⟩) ?_
                rintro _ rfl
                generalize hd2 : decide (gd cur j2 < gd cur a) = d2
                cases d2
                · refine dr_y (x_not rfl) ?_
                  refine dr_l (x_pick_t rfl rfl rfl) ?_
                  refine dr_nil0 ?_
                  refine aw_kp [0, 1, 10, 11, 115, 116, 117, 118, 119, 120, 121, 122, 123, 124, 125, 126, 127, 128, 129] ?_
                  refine aw_true rfl ?_
                  refine aw_skip ?_
                  show AW _ _ _ _ _ _ _
                  refine aw_block ?_
                  refine aw_region ?_
                  refine sr_mv ?_
                  refine sr_rd (x_cast (u := .int .i64 ((j2 - 1 : Nat) : Int)) (x_sub' rfl rfl (i64w (by omega) (by omega))) (by congr 1; omega)) ?_
                  refine sr_as ?_
                  refine sr_nil ?_
                  show ∃ s', _ ∧ _ ∧ _ ∧ _
                  exact ⟨j2 - 1, ⟨by omega, by omega, (Al.down hB2 (by (have q9 := of_decide_eq_false hd2); (rw [hpa] at q9); exact Int.not_lt.1 q9)).mono (by omega) (Nat.le_refl _)⟩, by omega, KeepF.auto, Sub.autoP⟩
                · refine dr_y (x_not rfl) ?_
                  refine dr_l (x_pick_t rfl rfl rfl) ?_
                  refine dr_nil0 ?_
                  refine aw_kp [0, 1, 10, 11, 115, 116, 117, 118, 119, 120, 121, 122, 123, 124, 125, 126, 127, 128, 129] ?_
                  refine aw_false rfl ?_
                  refine aw_exit ?_
                  show AW _ _ _ _ _ _ _
                  refine aw_seq ?_
                  refine aw_seq_region ?_
                  refine sr_mv ?_
                  refine sr_mv ?_
                  refine sr_c (x_gt rfl rfl) (fun h6 => absurd h6 (by first | omega | decide)) (fun h6 => ?_)
                  refine sr_nil ?_
                  refine aw_kp [0, 1, 10, 11, 115, 116, 117, 118, 119, 120, 121, 122, 123, 124, 125, 126, 127, 128, 129, 132, 133, 134] ?_
                  refine aw_false rfl ?_
                  refine aw_skip ?_
                  show AW _ _ _ _ _ _ _
                  refine aw_seq_dr ⟨_, 16, 168, [[], [], [], [], [], [], [4, 5], [4, 5, 6], [], [], [8, 9], [8, 9, 10], [0, 1, 4, 5, 6, 7, 8, 9, 10, 11], [0, 1, 4, 5, 6, 7, 8, 9, 10, 11, 12], [0, 1, 2, 3, 4, 5, 6, 7, 8, 9, 10, 11, 12, 13], [0, 1, 2, 3, 4, 5, 6, 7, 8, 9, 10, 11, 12, 13, 14]], [.light, .light, .light, .light, .light, .light, .light, .mem, .light, .light, .light, .mem, .light, .eff, .light, .eff]⟩ (by kernel_rfl) rfl rfl mix ?_
                  have hlt : i2 < j2 := by (rcases Nat.lt_or_ge i2 j2 with q9 | q9); (exact q9); (obtain rfl : i2 = j2 := (by omega)); (have q8 := of_decide_eq_false hd1); (have q7 := of_decide_eq_true hd2); omega
                  refine dr_l (x_move rfl) ?_
                  refine dr_l (x_move rfl) ?_
                  refine dr_l (x_move rfl) ?_
                  refine dr_l (x_move rfl) ?_
                  refine dr_l (x_move rfl) ?_
                  refine dr_l (x_move rfl) ?_
                  refine dr_l (x_indexAddrN (j2) Try.underlying134 sz3 rfl rfl rfl (by omega) (by omega)) ?_
                  refine dr_mem0 rfl rfl (wtd_none rfl) (x_load ag3 rfl (cells_get (cells_flat0 (n := 1) (enc := intC) (fun _ => rfl) (xs := cur) (i := j2) (post := post) (show (b, Obj.cells ((cur).flatMap intC ++ post).toArray 3 (0, 0)) ∈ _ from mauto) (gd_some (by omega))) 0 rfl)) ?_
                  refine dr_l (x_move rfl) ?_
                  refine dr_l (x_move rfl) ?_
                  refine dr_l (x_indexAddrN (i2) Try.underlying134 sz3 rfl rfl rfl (by omega) (by omega)) ?_
                  refine dr_mem0 rfl rfl (wtd_none rfl) (x_load ag3 rfl (cells_get (cells_flat0 (n := 1) (enc := intC) (fun _ => rfl) (xs := cur) (i := i2) (post := post) (show (b, Obj.cells ((cur).flatMap intC ++ post).toArray 3 (0, 0)) ∈ _ from mauto) (gd_some (by omega))) 0 rfl)) ?_
                  refine dr_l (x_indexAddrN (i2) Try.underlying134 sz3 rfl rfl rfl (by omega) (by omega)) ?_
                  refine dr_store0 rfl rfl (wtd_none rfl) (x_store sz3 rfl rfl rfl rfl rfl Repl.auto (spl_flat0 (n := 1) (enc := intC) (fun _ => rfl) (xs := cur) (post := post) (i := (i2)) (x' := gd cur (j2)) (by first | omega | (rw [List.length_set]; omega)))) (by first | rfl | simp [keys_append, keys_cons]) ?_
                  refine dr_l (x_indexAddrN (j2) Try.underlying134 sz3 rfl rfl rfl (by omega) (by omega)) ?_
                  refine dr_store0 rfl rfl (wtd_none rfl) (x_store sz3 rfl rfl rfl rfl rfl Repl.auto (spl_flat0 (n := 1) (enc := intC) (fun _ => rfl) (xs := ((cur).set (i2) (gd cur (j2)))) (post := post) (i := (j2)) (x' := gd cur (i2)) (by first | omega | (rw [List.length_set]; omega)))) (by first | rfl | simp [keys_append, keys_cons]) ?_
                  refine dr_nil0 ?_
                  refine aw_kp [0, 1, 10, 11, 115, 116, 117, 118, 119, 120, 121, 122, 123, 124, 125, 126, 127, 128, 129, 132, 133, 134, 135, 136, 137, 138, 139, 140, 141, 142, 143, 144, 145, 146, 147, 148] ?_
                  refine aw_seq_region ?_
                  refine sr_mv ?_
                  refine sr_rd (x_cast (u := .int .i64 ((i2 + 1 : Nat) : Int)) (x_add' rfl rfl (i64w (by omega) (by omega))) (by congr 1)) ?_
                  refine sr_as ?_
                  refine sr_nil ?_
                  refine aw_kp [0, 1, 10, 11, 115, 116, 117, 118, 119, 120, 121, 122, 123, 124, 125, 126, 127, 128, 129, 132, 133, 134, 135, 136, 137, 138, 139, 140, 141, 142, 143, 144, 145, 146, 147, 148, 149, 150] ?_
                  refine aw_region ?_
                  refine sr_mv ?_
                  refine sr_rd (x_cast (u := .int .i64 ((j2 - 1 : Nat) : Int)) (x_sub' rfl rfl (i64w (by omega) (by omega))) (by congr 1; omega)) ?_
                  refine sr_as ?_
                  refine sr_nil ?_
                  show ∃ s', _ ∧ _ ∧ _ ∧ _
                  exact ⟨⟨i2 + 1, j2 - 1, sw cur i2 j2⟩, ⟨by dsimp only; omega, by dsimp only; omega, by dsimp only; omega, sw_len.trans hcl, hpq.trans (Pq.sw (by omega) (by omega) (by omega)), (gd_swn (by omega) (by omega) (by omega) (by omega)).trans hpa, (hA2.swo (by omega) (by omega) (by omega) (by omega)).up (by (rw [gd_swl (by omega) (by omega)]); (have q9 := of_decide_eq_true hd2); (rw [hpa] at q9); exact q9), (Al.down (hB2.swo (by omega) (by omega) (by omega) (by omega)) (by (rw [gd_swr (by omega) (by omega)]); (have q9 := of_decide_eq_false hd1); (rw [hpa] at q9); exact Int.not_lt.1 q9)).mono (by dsimp only; omega) (Nat.le_refl _)⟩, by dsimp only; omega, KeepF.auto, Sub.autoP⟩
              · refine dr_l (x_move rfl) ?_
                refine dr_sk ?_
                refine dr_sk ?_
                refine dr_sk ?_
                refine dr_sk ?_
                refine dr_sk ?_
                refine dr_sk ?_
                refine dr_sk ?_
                refine dr_sk ?_
                refine dr_sk ?_
                refine dr_sk ?_
                refine dr_l (x_pick_f rfl rfl rfl) ?_
                refine dr_nil0 ?_
                refine aw_kp [0, 1, 10, 11, 115, 116, 117, 118, 119, 120, 121, 122, 123, 124, 125, 126, 127, 128, 129] ?_
                refine aw_false rfl ?_
                refine aw_exit ?_
                show AW _ _ _ _ _ _ _
                refine aw_seq ?_
                refine aw_seq_region ?_
                refine sr_mv ?_
                refine sr_mv ?_
                refine sr_c (x_gt rfl rfl) (fun h7 => ?_) (fun h7 => absurd (by first | omega | decide) h7)
                refine sr_nil ?_
                refine aw_kp [0, 1, 10, 11, 115, 116, 117, 118, 119, 120, 121, 122, 123, 124, 125, 126, 127, 128, 129, 132, 133, 134] ?_
                refine aw_true rfl ?_
                refine aw_exit ?_
                show AW _ _ _ _ _ _ _
                refine aw_seq_dr ⟨_, 16, 168, [[], [], [], [], [], [], [4, 5], [4, 5, 6], [], [], [8, 9], [8, 9, 10], [0, 1, 4, 5, 6, 7, 8, 9, 10, 11], [0, 1, 4, 5, 6, 7, 8, 9, 10, 11, 12], [0, 1, 2, 3, 4, 5, 6, 7, 8, 9, 10, 11, 12, 13], [0, 1, 2, 3, 4, 5, 6, 7, 8, 9, 10, 11, 12, 13, 14]], [.light, .light, .light, .light, .light, .light, .light, .mem, .light, .light, .light, .mem, .light, .eff, .light, .eff]⟩ (by kernel_rfl) rfl rfl mix ?_
                refine dr_l (x_move rfl) ?_
                refine dr_l (x_move rfl) ?_
                refine dr_l (x_move rfl) ?_
                refine dr_l (x_move rfl) ?_
                refine dr_l (x_move rfl) ?_
                refine dr_l (x_move rfl) ?_
                refine dr_l (x_indexAddrN (a) Try.underlying134 sz3 rfl rfl rfl (by omega) (by omega)) ?_
                refine dr_mem0 rfl rfl (wtd_none rfl) (x_load ag3 rfl (cells_get (cells_flat0 (n := 1) (enc := intC) (fun _ => rfl) (xs := cur) (i := a) (post := post) (show (b, Obj.cells ((cur).flatMap intC ++ post).toArray 3 (0, 0)) ∈ _ from mauto) (gd_some (by omega))) 0 rfl)) ?_
                refine dr_l (x_move rfl) ?_
                refine dr_l (x_move rfl) ?_
                refine dr_l (x_indexAddrN (j2) Try.underlying134 sz3 rfl rfl rfl (by omega) (by omega)) ?_
                refine dr_mem0 rfl rfl (wtd_none rfl) (x_load ag3 rfl (cells_get (cells_flat0 (n := 1) (enc := intC) (fun _ => rfl) (xs := cur) (i := j2) (post := post) (show (b, Obj.cells ((cur).flatMap intC ++ post).toArray 3 (0, 0)) ∈ _ from mauto) (gd_some (by omega))) 0 rfl)) ?_
                refine dr_l (x_indexAddrN (j2) Try.underlying134 sz3 rfl rfl rfl (by omega) (by omega)) ?_
                refine dr_store0 rfl rfl (wtd_none rfl) (x_store sz3 rfl rfl rfl rfl rfl Repl.auto (spl_flat0 (n := 1) (enc := intC) (fun _ => rfl) (xs := cur) (post := post) (i := (j2)) (x' := gd cur (a)) (by first | omega | (rw [List.length_set]; omega)))) (by first | rfl | simp [keys_append, keys_cons]) ?_
                refine dr_l (x_indexAddrN (a) Try.underlying134 sz3 rfl rfl rfl (by omega) (by omega)) ?_
                refine dr_store0 rfl rfl (wtd_none rfl) (x_store sz3 rfl rfl rfl rfl rfl Repl.auto (spl_flat0 (n := 1) (enc := intC) (fun _ => rfl) (xs := ((cur).set (j2) (gd cur (a)))) (post := post) (i := (a)) (x' := gd cur (j2)) (by first | omega | (rw [List.length_set]; omega)))) (by first | rfl | simp [keys_append, keys_cons]) ?_
                refine dr_nil0 ?_
                refine aw_kp [11] ?_
                refine aw_seq_region ?_
                refine sr_mv ?_
                refine sr_as ?_
                refine sr_as ?_
                refine sr_nil ?_
                refine aw_kp [8, 9] ?_
                refine aw_ret ?_
                show ∃ v H2, ResV _ _ _ _ _ _ v ∧ Sub H2 _ ∧ _
                first | exact ⟨_, _, resV rfl (.cons rfl (.cons rfl .nil)), Sub.refl _, sw cur j2 a, j2, by omega, by omega, hpq.trans (Pq.sw (by omega) (by omega) (by omega)), part_end (by omega) (by omega) (by omega) hpa (hA2.mono (Nat.le_refl _) (by omega)) hB2, ⟨_, rfl⟩, rfl⟩ | exact ⟨_, _, resV rfl (.cons rfl (.cons rfl .nil)), Sub.refl _, sw cur j0 a, j0, by omega, by omega, hpq.trans (Pq.sw (by omega) (by omega) (by omega)), part_end (by omega) (by omega) (by omega) hpa (hA0.mono (Nat.le_refl _) (by omega)) hB0, ⟨_, rfl⟩, rfl⟩
            · refine dr_l (x_pick_t rfl rfl rfl) ?_
              refine dr_nil0 ?_
              refine aw_kp [0, 1, 10, 11, 99, 100, 101, 102, 103, 104, 105, 106, 107, 108, 109, 110, 111, 112] ?_
              refine aw_true rfl ?_
              refine aw_skip ?_
              show AW _ _ _ _ _ _ _
              refine aw_block ?_
              refine aw_region ?_
              refine sr_mv ?_
              refine sr_rd (x_cast (u := .int .i64 ((i2 + 1 : Nat) : Int)) (x_add' rfl rfl (i64w (by omega) (by omega))) (by congr 1)) ?_
              refine sr_as ?_
              refine sr_nil ?_
              show ∃ s', _ ∧ _ ∧ _ ∧ _
              exact ⟨i2 + 1, ⟨by omega, by omega, hA2.up (by (have q9 := of_decide_eq_true hd1); (rw [hpa] at q9); exact q9)⟩, by omega, KeepF.auto, Sub.autoP⟩
          · refine dr_l (x_move rfl) ?_
            refine dr_sk ?_
            refine dr_sk ?_
            refine dr_sk ?_
            refine dr_sk ?_
            refine dr_sk ?_
            refine dr_sk ?_
            refine dr_sk ?_
            refine dr_sk ?_
            refine dr_sk ?_
            refine dr_l (x_pick_f rfl rfl rfl) ?_
            refine dr_nil0 ?_
            refine aw_kp [0, 1, 10, 11, 99, 100, 101, 102, 103, 104, 105, 106, 107, 108, 109, 110, 111, 112] ?_
            refine aw_false rfl ?_
            refine aw_exit ?_
            show AW _ _ _ _ _ _ _
            refine aw_seq ?_
            refine aw_block ?_
            refine aw_loop (ι := Nat) (fun k => k ≤ j ∧ i2 ≤ k + 1 ∧ Al cur (k + 1) e (fun x => gd W q ≤ x)) (fun k => [(0, .slice (some ⟨b, 0, none⟩) n cap), (1, .int .i64 a), (10, .int .i64 i2), (11, .int .i64 k)]) (fun _ => (b, .cells ((cur).flatMap intC ++ post).toArray 3 (0, 0)) :: G) (fun k => k) j (⟨Nat.le_refl _, hi3, hB⟩) KeepF.auto Sub.autoP ?_
            intro j2 hj9
            obtain ⟨hj2, hj3, hB2⟩ := hj9
            refine aw_seq ?_
            refine aw_seq_dr ⟨_, 15, 168, [[], [], [0, 1], [0, 1, 2], [0, 1, 2, 3], [0, 1, 2, 3], [0, 1, 2, 3, 4, 5], [0, 1, 2, 3, 4, 5, 6], [0, 1, 2, 3], [0, 1, 2, 3], [0, 1, 2, 3, 8, 9], [0, 1, 2, 3, 8, 9, 10], [0, 1, 2, 3, 4, 5, 6, 7, 8, 9, 10, 11], [0, 1, 2, 3, 4, 5, 6, 7, 8, 9, 10, 11, 12], [0, 1, 2, 3, 4, 5, 6, 7, 8, 9, 10, 11, 12, 13]], [.light, .light, .light, .light, .light, .light, .light, .mem, .light, .light, .light, .mem, .call, .light, .light]⟩ (by kernel_rfl) rfl rfl mix ?_
            refine dr_l (x_move rfl) ?_
            refine dr_l (x_move rfl) ?_
            refine dr_cmp rfl rfl (wtd_none rfl) (x_le rfl rfl) (fun h8 => ?_) (fun h8 => ?_)
            · refine dr_l (x_move rfl) ?_
              refine dr_y (x_move rfl) ?_
              refine dr_y (x_move rfl) ?_
              refine dr_y (x_indexAddrN (j2) Try.underlying134 sz3 rfl rfl rfl (by omega) (by omega)) ?_
              refine dr_mem0 rfl rfl (wtd_yes rfl rfl rfl) (x_load ag3 rfl (cells_get (cells_flat0 (n := 1) (enc := intC) (fun _ => rfl) (xs := cur) (i := j2) (post := post) (show (b, Obj.cells ((cur).flatMap intC ++ post).toArray 3 (0, 0)) ∈ _ from mauto) (gd_some (by omega))) 0 rfl)) ?_
              refine dr_y (x_move rfl) ?_
              refine dr_y (x_move rfl) ?_
              refine dr_y (x_indexAddrN (a) Try.underlying134 sz3 rfl rfl rfl (by omega) (by omega)) ?_
              refine dr_mem0 rfl rfl (wtd_yes rfl rfl rfl) (x_load ag3 rfl (cells_get (cells_flat0 (n := 1) (enc := intC) (fun _ => rfl) (xs := cur) (i := a) (post := post) (show (b, Obj.cells ((cur).flatMap intC ++ post).toArray 3 (0, 0)) ∈ _ from mauto) (gd_some (by omega))) 0 rfl)) ?_
              refine dr_callq0 rfl rfl (wtd_yes rfl rfl rfl) (opS_F rfl rfl rfl rfl cl162 ((mLess_s (gd cur j2) (gd cur a) _))) (⟨_, rfl⟩) ?_
              rintro _ rfl
              generalize hd2 : decide (gd cur j2 < gd cur a) = d2
              cases d2
              · refine dr_y (x_not rfl) ?_
                refine dr_l (x_pick_t rfl rfl rfl) ?_
                refine dr_nil0 ?_
                refine aw_kp [0, 1, 10, 11, 115, 116, 117, 118, 119, 120, 121, 122, 123, 124, 125, 126, 127, 128, 129] ?_
                refine aw_true rfl ?_
                refine aw_skip ?_
                show AW _ _ _ _ _ _ _
                refine aw_block ?_
                refine aw_region ?_
                refine sr_mv ?_
                refine sr_rd (x_cast (u := .int .i64 ((j2 - 1 : Nat) : Int)) (x_sub' rfl rfl (i64w (by omega) (by omega))) (by congr 1; omega)) ?_
                refine sr_as ?_
                refine sr_nil ?_
                show ∃ s', _ ∧ _ ∧ _ ∧ _
                exact ⟨j2 - 1, ⟨by omega, by omega, (Al.down hB2 (by (have q9 := of_decide_eq_false hd2); (rw [hpa] at q9); exact Int.not_lt.1 q9)).mono (by omega) (Nat.le_refl _)⟩, by omega, KeepF.auto, Sub.autoP⟩
              · refine dr_y (x_not rfl) ?_
                refine dr_l (x_pick_t rfl rfl rfl) ?_
                refine dr_nil0 ?_
                refine aw_kp [0, 1, 10, 11, 115, 116, 117, 118, 119, 120, 121, 122, 123, 124, 125, 126, 127, 128, 129] ?_
                refine aw_false rfl ?_
                refine aw_exit ?_
                show AW _ _ _ _ _ _ _
                refine aw_seq ?_
                refine aw_seq_region ?_
                refine sr_mv ?_
                refine sr_mv ?_
                refine sr_c (x_gt rfl rfl) (fun h9 => ?_) (fun h9 => absurd (by first | omega | decide) h9)
                refine sr_nil ?_
                refine aw_kp [0, 1, 10, 11, 115, 116, 117, 118, 119, 120, 121, 122, 123, 124, 125, 126, 127, 128, 129, 132, 133, 134] ?_
                refine aw_true rfl ?_
                refine aw_exit ?_
                show AW _ _ _ _ _ _ _
                refine aw_seq_dr ⟨_, 16, 168, [[], [], [], [], [], [], [4, 5], [4, 5, 6], [], [], [8, 9], [8, 9, 10], [0, 1, 4, 5, 6, 7, 8, 9, 10, 11], [0, 1, 4, 5, 6, 7, 8, 9, 10, 11, 12], [0, 1, 2, 3, 4, 5, 6, 7, 8, 9, 10, 11, 12, 13], [0, 1, 2, 3, 4, 5, 6, 7, 8, 9, 10, 11, 12, 13, 14]], [.light, .light, .light, .light, .light, .light, .light, .mem, .light, .light, .light, .mem, .light, .eff, .light, .eff]⟩ (by kernel_rfl) rfl rfl mix ?_
                refine dr_l (x_move rfl) ?_
                refine dr_l (x_move rfl) ?_
                refine dr_l (x_move rfl) ?_
                refine dr_l (x_move rfl) ?_
                refine dr_l (x_move rfl) ?_
                refine dr_l (x_move rfl) ?_
                refine dr_l (x_indexAddrN (a) Try.underlying134 sz3 rfl rfl rfl (by omega) (by omega)) ?_
                refine dr_mem0 rfl rfl (wtd_none rfl) (x_load ag3 rfl (cells_get (cells_flat0 (n := 1) (enc := intC) (fun _ => rfl) (xs := cur) (i := a) (post := post) (show (b, Obj.cells ((cur).flatMap intC ++ post).toArray 3 (0, 0)) ∈ _ from mauto) (gd_some (by omega))) 0 rfl)) ?_
                refine dr_l (x_move rfl) ?_
                refine dr_l (x_move rfl) ?_
                refine dr_l (x_indexAddrN (j2) Try.underlying134 sz3 rfl rfl rfl (by omega) (by omega)) ?_
                refine dr_mem0 rfl rfl (wtd_none rfl) (x_load ag3 rfl (cells_get (cells_flat0 (n := 1) (enc := intC) (fun _ => rfl) (xs := cur) (i := j2) (post := post) (show (b, Obj.cells ((cur).flatMap intC ++ post).toArray 3 (0, 0)) ∈ _ from mauto) (gd_some (by omega))) 0 rfl)) ?_
                refine dr_l (x_indexAddrN (j2) Try.underlying134 sz3 rfl rfl rfl (by omega) (by omega)) ?_
                refine dr_store0 rfl rfl (wtd_none rfl) (x_store sz3 rfl rfl rfl rfl rfl Repl.auto (spl_flat0 (n := 1) (enc := intC) (fun _ => rfl) (xs := cur) (post := post) (i := (j2)) (x' := gd cur (a)) (by first | omega | (rw [List.length_set]; omega)))) (by first | rfl | simp [keys_append, keys_cons]) ?_
                refine dr_l (x_indexAddrN (a) Try.underlying134 sz3 rfl rfl rfl (by omega) (by omega)) ?_
                refine dr_store0 rfl rfl (wtd_none rfl) (x_store sz3 rfl rfl rfl rfl rfl Repl.auto (spl_flat0 (n := 1) (enc := intC) (fun _ => rfl) (xs := ((cur).set (j2) (gd cur (a)))) (post := post) (i := (a)) (x' := gd cur (j2)) (by first | omega | (rw [List.length_set]; omega)))) (by first | rfl | simp [keys_append, keys_cons]) ?_
                refine dr_nil0 ?_
                refine aw_kp [11] ?_
                refine aw_seq_region ?_
                refine sr_mv ?_
                refine sr_as ?_
                refine sr_as ?_
                refine sr_nil ?_
                refine aw_kp [8, 9] ?_
                refine aw_ret ?_
                show ∃ v H2, ResV _ _ _ _ _ _ v ∧ Sub H2 _ ∧ _
                first | exact ⟨_, _, resV rfl (.cons rfl (.cons rfl .nil)), Sub.refl _, sw cur j2 a, j2, by omega, by omega, hpq.trans (Pq.sw (by omega) (by omega) (by omega)), part_end (by omega) (by omega) (by omega) hpa (hA2.mono (Nat.le_refl _) (by omega)) hB2, ⟨_, rfl⟩, rfl⟩ | exact ⟨_, _, resV rfl (.cons rfl (.cons rfl .nil)), Sub.refl _, sw cur j0 a, j0, by omega, by omega, hpq.trans (Pq.sw (by omega) (by omega) (by omega)), part_end (by omega) (by omega) (by omega) hpa (hA0.mono (Nat.le_refl _) (by omega)) hB0, ⟨_, rfl⟩, rfl⟩
            · refine dr_l (x_move rfl) ?_
              refine dr_sk ?_
              refine dr_sk ?_
              refine dr_sk ?_
              refine dr_sk ?_
              refine dr_sk ?_
              refine dr_sk ?_
              refine dr_sk ?_
              refine dr_sk ?_
              refine dr_sk ?_
              refine dr_sk ?_
              refine dr_l (x_pick_f rfl rfl rfl) ?_
              refine dr_nil0 ?_
              refine aw_kp [0, 1, 10, 11, 115, 116, 117, 118, 119, 120, 121, 122, 123, 124, 125, 126, 127, 128, 129] ?_
              refine aw_false rfl ?_
              refine aw_exit ?_
              show AW _ _ _ _ _ _ _
              refine aw_seq ?_
              refine aw_seq_region ?_
              refine sr_mv ?_
              refine sr_mv ?_
              refine sr_c (x_gt rfl rfl) (fun h10 => ?_) (fun h10 => absurd (by first | omega | decide) h10)
              refine sr_nil ?_
              refine aw_kp [0, 1, 10, 11, 115, 116, 117, 118, 119, 120, 121, 122, 123, 124, 125, 126, 127, 128, 129, 132, 133, 134] ?_
              refine aw_true rfl ?_
              refine aw_exit ?_
              show AW _ _ _ _ _ _ _
              refine aw_seq_dr ⟨_, 16, 168, [[], [], [], [], [], [], [4, 5], [4, 5, 6], [], [], [8, 9], [8, 9, 10], [0, 1, 4, 5, 6, 7, 8, 9, 10, 11], [0, 1, 4, 5, 6, 7, 8, 9, 10, 11, 12], [0, 1, 2, 3, 4, 5, 6, 7, 8, 9, 10, 11, 12, 13], [0, 1, 2, 3, 4, 5, 6, 7, 8, 9, 10, 11, 12, 13, 14]], [.light, .light, .light, .light, .light, .light, .light, .mem, .light, .light, .light, .mem, .light, .eff, .light, .eff]⟩ (by kernel_rfl) rfl rfl mix ?_
              refine dr_l (x_move rfl) ?_
              refine dr_l (x_move rfl) ?_
              refine dr_l (x_move rfl) ?_
              refine dr_l (x_move rfl) ?_
              refine dr_l (x_move rfl) ?_
              refine dr_l (x_move rfl) ?_
              refine dr_l (x_indexAddrN (a) Try.underlying134 sz3 rfl rfl rfl (by omega) (by omega)) ?_
              refine dr_mem0 rfl rfl (wtd_none rfl) (x_load ag3 rfl (cells_get (cells_flat0 (n := 1) (enc := intC) (fun _ => rfl) (xs := cur) (i := a) (post := post) (show (b, Obj.cells ((cur).flatMap intC ++ post).toArray 3 (0, 0)) ∈ _ from mauto) (gd_some (by omega))) 0 rfl)) ?_
              refine dr_l (x_move rfl) ?_
              refine dr_l (x_move rfl) ?_
              refine dr_l (x_indexAddrN (j2) Try.underlying134 sz3 rfl rfl rfl (by omega) (by omega)) ?_
              refine dr_mem0 rfl rfl (wtd_none rfl) (x_load ag3 rfl (cells_get (cells_flat0 (n := 1) (enc := intC) (fun _ => rfl) (xs := cur) (i := j2) (post := post) (show (b, Obj.cells ((cur).flatMap intC ++ post).toArray 3 (0, 0)) ∈ _ from mauto) (gd_some (by omega))) 0 rfl)) ?_
              refine dr_l (x_indexAddrN (j2) Try.underlying134 sz3 rfl rfl rfl (by omega) (by omega)) ?_
              refine dr_store0 rfl rfl (wtd_none rfl) (x_store sz3 rfl rfl rfl rfl rfl Repl.auto (spl_flat0 (n := 1) (enc := intC) (fun _ => rfl) (xs := cur) (post := post) (i := (j2)) (x' := gd cur (a)) (by first | omega | (rw [List.length_set]; omega)))) (by first | rfl | simp [keys_append, keys_cons]) ?_
              refine dr_l (x_indexAddrN (a) Try.underlying134 sz3 rfl rfl rfl (by omega) (by omega)) ?_
              refine dr_store0 rfl rfl (wtd_none rfl) (x_store sz3 rfl rfl rfl rfl rfl Repl.auto (spl_flat0 (n := 1) (enc := intC) (fun _ => rfl) (xs := ((cur).set (j2) (gd cur (a)))) (post := post) (i := (a)) (x' := gd cur (j2)) (by first | omega | (rw [List.length_set]; omega)))) (by first | rfl | simp [keys_append, keys_cons]) ?_
              refine dr_nil0 ?_
              refine aw_kp [11] ?_
              refine aw_seq_region ?_
              refine sr_mv ?_
              refine sr_as ?_
              refine sr_as ?_
              refine sr_nil ?_
              refine aw_kp [8, 9] ?_
              refine aw_ret ?_
              show ∃ v H2, ResV _ _ _ _ _ _ v ∧ Sub H2 _ ∧ _
              first | exact ⟨_, _, resV rfl (.cons rfl (.cons rfl .nil)), Sub.refl _, sw cur j2 a, j2, by omega, by omega, hpq.trans (Pq.sw (by omega) (by omega) (by omega)), part_end (by omega) (by omega) (by omega) hpa (hA2.mono (Nat.le_refl _) (by omega)) hB2, ⟨_, rfl⟩, rfl⟩ | exact ⟨_, _, resV rfl (.cons rfl (.cons rfl .nil)), Sub.refl _, sw cur j0 a, j0, by omega, by omega, hpq.trans (Pq.sw (by omega) (by omega) (by omega)), part_end (by omega) (by omega) (by omega) hpa (hA0.mono (Nat.le_refl _) (by omega)) hB0, ⟨_, rfl⟩, rfl⟩
      · refine dr_l (x_move rfl) ?_
        refine dr_sk ?_
        refine dr_sk ?_
        refine dr_sk ?_
        refine dr_sk ?_
        refine dr_sk ?_
        refine dr_sk ?_
        refine dr_sk ?_
        refine dr_sk ?_
        refine dr_sk ?_
        refine dr_sk ?_
        refine dr_l (x_pick_f rfl rfl rfl) ?_
        refine dr_nil0 ?_
        refine aw_kp [0, 1, 10, 11, 46, 47, 48, 49, 50, 51, 52, 53, 54, 55, 56, 57, 58, 59, 60] ?_
        refine aw_false rfl ?_
        refine aw_exit ?_
        show AW _ _ _ _ _ _ _
        refine aw_seq ?_
        refine aw_seq_region ?_
        refine sr_mv ?_
        refine sr_mv ?_
        refine sr_c (x_gt rfl rfl) (fun h11 => ?_) (fun h11 => absurd (by first | omega | decide) h11)
        refine sr_nil ?_
        refine aw_kp [0, 1, 10, 11, 65] ?_
        refine aw_true rfl ?_
        refine aw_seq_dr ⟨_, 16, 168, [[], [], [], [], [], [], [4, 5], [4, 5, 6], [], [], [8, 9], [8, 9, 10], [0, 1, 4, 5, 6, 7, 8, 9, 10, 11], [0, 1, 4, 5, 6, 7, 8, 9, 10, 11, 12], [0, 1, 2, 3, 4, 5, 6, 7, 8, 9, 10, 11, 12, 13], [0, 1, 2, 3, 4, 5, 6, 7, 8, 9, 10, 11, 12, 13, 14]], [.light, .light, .light, .light, .light, .light, .light, .mem, .light, .light, .light, .mem, .light, .eff, .light, .eff]⟩ (by kernel_rfl) rfl rfl mix ?_
        refine dr_l (x_move rfl) ?_
        refine dr_l (x_move rfl) ?_
        refine dr_l (x_move rfl) ?_
        refine dr_l (x_move rfl) ?_
        refine dr_l (x_move rfl) ?_
        refine dr_l (x_move rfl) ?_
        refine dr_l (x_indexAddrN (a) Try.underlying134 sz3 rfl rfl rfl (by omega) (by omega)) ?_
        refine dr_mem0 rfl rfl (wtd_none rfl) (x_load ag3 rfl (cells_get (cells_flat0 (n := 1) (enc := intC) (fun _ => rfl) (xs := cur) (i := a) (post := post) (show (b, Obj.cells ((cur).flatMap intC ++ post).toArray 3 (0, 0)) ∈ _ from mauto) (gd_some (by omega))) 0 rfl)) ?_
        refine dr_l (x_move rfl) ?_
        refine dr_l (x_move rfl) ?_
        refine dr_l (x_indexAddrN (j0) Try.underlying134 sz3 rfl rfl rfl (by omega) (by omega)) ?_
        refine dr_mem0 rfl rfl (wtd_none rfl) (x_load ag3 rfl (cells_get (cells_flat0 (n := 1) (enc := intC) (fun _ => rfl) (xs := cur) (i := j0) (post := post) (show (b, Obj.cells ((cur).flatMap intC ++ post).toArray 3 (0, 0)) ∈ _ from mauto) (gd_some (by omega))) 0 rfl)) ?_
        refine dr_l (x_indexAddrN (j0) Try.underlying134 sz3 rfl rfl rfl (by omega) (by omega)) ?_
        refine dr_store0 rfl rfl (wtd_none rfl) (x_store sz3 rfl rfl rfl rfl rfl Repl.auto (spl_flat0 (n := 1) (enc := intC) (fun _ => rfl) (xs := cur) (post := post) (i := (j0)) (x' := gd cur (a)) (by first | omega | (rw [List.length_set]; omega)))) (by first | rfl | simp [keys_append, keys_cons]) ?_
        refine dr_l (x_indexAddrN (a) Try.underlying134 sz3 rfl rfl rfl (by omega) (by omega)) ?_
        refine dr_store0 rfl rfl (wtd_none rfl) (x_store sz3 rfl rfl rfl rfl rfl Repl.auto (spl_flat0 (n := 1) (enc := intC) (fun _ => rfl) (xs := ((cur).set (j0) (gd cur (a)))) (post := post) (i := (a)) (x' := gd cur (j0)) (by first | omega | (rw [List.length_set]; omega)))) (by first | rfl | simp [keys_append, keys_cons]) ?_
        refine dr_nil0 ?_
        refine aw_kp [0, 1, 10, 11] ?_
        refine aw_seq_region ?_
        refine sr_mv ?_
        refine sr_as ?_
        refine sr_as ?_
        refine sr_nil ?_
        refine aw_kp [0, 1, 8, 9, 10, 11] ?_
        refine aw_ret ?_
        show ∃ v H2, ResV _ _ _ _ _ _ v ∧ Sub H2 _ ∧ _
        first | exact ⟨_, _, resV rfl (.cons rfl (.cons rfl .nil)), Sub.refl _, sw cur j2 a, j2, by omega, by omega, hpq.trans (Pq.sw (by omega) (by omega) (by omega)), part_end (by omega) (by omega) (by omega) hpa (hA2.mono (Nat.le_refl _) (by omega)) hB2, ⟨_, rfl⟩, rfl⟩ | exact ⟨_, _, resV rfl (.cons rfl (.cons rfl .nil)), Sub.refl _, sw cur j0 a, j0, by omega, by omega, hpq.trans (Pq.sw (by omega) (by omega) (by omega)), part_end (by omega) (by omega) (by omega) hpa (hA0.mono (Nat.le_refl _) (by omega)) hB0, ⟨_, rfl⟩, rfl⟩
    · refine dr_l (x_pick_t rfl rfl rfl) ?_
      refine dr_nil0 ?_
      refine aw_kp [0, 1, 10, 11, 30, 31, 32, 33, 34, 35, 36, 37, 38, 39, 40, 41, 42, 43] ?_
      refine aw_true rfl ?_
      refine aw_skip ?_
      show AW _ _ _ _ _ _ _
      refine aw_block ?_
      refine aw_region ?_
      refine sr_mv ?_
      refine sr_rd (x_cast (u := .int .i64 ((i0 + 1 : Nat) : Int)) (x_add' rfl rfl (i64w (by omega) (by omega))) (by congr 1)) ?_
      refine sr_as ?_
      refine sr_nil ?_
      show ∃ s', _ ∧ _ ∧ _ ∧ _
      exact ⟨⟨i0 + 1, cur⟩, ⟨by dsimp only; omega, by dsimp only; omega, hcl, hpq, hpa, hA0.up (by (have q9 := of_decide_eq_true hdA); (rw [hpa] at q9); exact q9)⟩, by dsimp only; omega, KeepF.auto, Sub.autoP⟩
  · refine dr_l (x_move rfl) ?_
    refine dr_sk ?_
    refine dr_sk ?_
    refine dr_sk ?_
    refine dr_sk ?_
    refine dr_sk ?_
    refine dr_sk ?_
    refine dr_sk ?_
    refine dr_sk ?_
    refine dr_sk ?_
    refine dr_l (x_pick_f rfl rfl rfl) ?_
    refine dr_nil0 ?_
    refine aw_kp [0, 1, 10, 11, 30, 31, 32, 33, 34, 35, 36, 37, 38, 39, 40, 41, 42, 43] ?_
    refine aw_false rfl ?_
    refine aw_exit ?_
    show AW _ _ _ _ _ _ _
    refine aw_seq ?_
    refine aw_block ?_
    refine aw_loop (ι := Nat) (fun k => k ≤ e - 1 ∧ i0 ≤ k + 1 ∧ Al cur (k + 1) e (fun x => gd W q ≤ x)) (fun k => [(0, .slice (some ⟨b, 0, none⟩) n cap), (1, .int .i64 a), (10, .int .i64 i0), (11, .int .i64 k)]) (fun _ => (b, .cells ((cur).flatMap intC ++ post).toArray 3 (0, 0)) :: G) (fun k => k) (e - 1) (⟨Nat.le_refl _, by omega, Al.zero (by omega)⟩) KeepF.auto Sub.autoP ?_
    intro j0 hj9
    obtain ⟨hj1, hj2, hB0⟩ := hj9
    refine aw_seq ?_
    refine aw_seq_dr ⟨_, 15, 168, [[], [], [0, 1], [0, 1, 2], [0, 1, 2, 3], [0, 1, 2, 3], [0, 1, 2, 3, 4, 5], [0, 1, 2, 3, 4, 5, 6], [0, 1, 2, 3], [0, 1, 2, 3], [0, 1, 2, 3, 8, 9], [0, 1, 2, 3, 8, 9, 10], [0, 1, 2, 3, 4, 5, 6, 7, 8, 9, 10, 11], [0, 1, 2, 3, 4, 5, 6, 7, 8, 9, 10, 11, 12], [0, 1, 2, 3, 4, 5, 6, 7, 8, 9, 10, 11, 12, 13]], [.light, .light, .light, .light, .light, .light, .light, .mem, .light, .light, .light, .mem, .call, .light, .light]⟩ (by kernel_rfl) rfl rfl mix ?_
    refine dr_l (x_move rfl) ?_
    refine dr_l (x_move rfl) ?_
    refine dr_cmp rfl rfl (wtd_none rfl) (x_le rfl rfl) (fun h12 => ?_) (fun h12 => ?_)
    · refine dr_l (x_move rfl) ?_
      refine dr_y (x_move rfl) ?_
      refine dr_y (x_move rfl) ?_
      refine dr_y (x_indexAddrN (j0) Try.underlying134 sz3 rfl rfl rfl (by omega) (by omega)) ?_
      refine dr_mem0 rfl rfl (wtd_yes rfl rfl rfl) (x_load ag3 rfl (cells_get (cells_flat0 (n := 1) (enc := intC) (fun _ => rfl) (xs := cur) (i := j0) (post := post) (show (b, Obj.cells ((cur).flatMap intC ++ post).toArray 3 (0, 0)) ∈ _ from mauto) (gd_some (by omega))) 0 rfl)) ?_
      refine dr_y (x_move rfl) ?_
      refine dr_y (x_move rfl) ?_
      refine dr_y (x_indexAddrN (a) Try.underlying134 sz3 rfl rfl rfl (by omega) (by omega)) ?_
      refine dr_mem0 rfl rfl (wtd_yes rfl rfl rfl) (x_load ag3 rfl (cells_get (cells_flat0 (n := 1) (enc := intC) (fun _ => rfl) (xs := cur) (i := a) (post := post) (show (b, Obj.cells ((cur).flatMap intC ++ post).toArray 3 (0, 0)) ∈ _ from mauto) (gd_some (by omega))) 0 rfl)) ?_
      refine dr_callq0 rfl rfl (wtd_yes rfl rfl rfl) (opS_F rfl rfl rfl rfl cl162 ((mLess_s (gd cur j0) (gd cur a) _))) (⟨_, rfl⟩) ?_
      rintro _ rfl
      generalize hdB : decide (gd cur j0 < gd cur a) = dB
      cases dB
      · refine dr_y (x_not rfl) ?_
        refine dr_l (x_pick_t rfl rfl rfl) ?_
        refine dr_nil0 ?_
        refine aw_kp [0, 1, 10, 11, 46, 47, 48, 49, 50, 51, 52, 53, 54, 55, 56, 57, 58, 59, 60] ?_
        refine aw_true rfl ?_
        refine aw_skip ?_
        show AW _ _ _ _ _ _ _
        refine aw_block ?_
        refine aw_region ?_
        refine sr_mv ?_
        refine sr_rd (x_cast (u := .int .i64 ((j0 - 1 : Nat) : Int)) (x_sub' rfl rfl (i64w (by omega) (by omega))) (by congr 1; omega)) ?_
        refine sr_as ?_
        refine sr_nil ?_
        show ∃ s', _ ∧ _ ∧ _ ∧ _
        exact ⟨j0 - 1, ⟨by omega, by omega, (Al.down hB0 (by (have q9 := of_decide_eq_false hdB); (rw [hpa] at q9); exact Int.not_lt.1 q9)).mono (by omega) (Nat.le_refl _)⟩, by omega, KeepF.auto, Sub.autoP⟩
      · refine dr_y (x_not rfl) ?_
        refine dr_l (x_pick_t rfl rfl rfl) ?_
        refine dr_nil0 ?_
        refine aw_kp [0, 1, 10, 11, 46, 47, 48, 49, 50, 51, 52, 53, 54, 55, 56, 57, 58, 59, 60] ?_
        refine aw_false rfl ?_
        refine aw_exit ?_
        show AW _ _ _ _ _ _ _
        refine aw_seq ?_
        refine aw_seq_region ?_
        refine sr_mv ?_
        refine sr_mv ?_
        refine sr_c (x_gt rfl rfl) (fun h13 => ?_) (fun h13 => absurd (by first | omega | decide) h13)
        refine sr_nil ?_
        refine aw_kp [0, 1, 10, 11, 65] ?_
        refine aw_true rfl ?_
        refine aw_seq_dr ⟨_, 16, 168, [[], [], [], [], [], [], [4, 5], [4, 5, 6], [], [], [8, 9], [8, 9, 10], [0, 1, 4, 5, 6, 7, 8, 9, 10, 11], [0, 1, 4, 5, 6, 7, 8, 9, 10, 11, 12], [0, 1, 2, 3, 4, 5, 6, 7, 8, 9, 10, 11, 12, 13], [0, 1, 2, 3, 4, 5, 6, 7, 8, 9, 10, 11, 12, 13, 14]], [.light, .light, .light, .light, .light, .light, .light, .mem, .light, .light, .light, .mem, .light, .eff, .light, .eff]⟩ (by kernel_rfl) rfl rfl mix ?_
        refine dr_l (x_move rfl) ?_
        refine dr_l (x_move rfl) ?_
        refine dr_l (x_move rfl) ?_
        refine dr_l (x_move rfl) ?_
        refine dr_l (x_move rfl) ?_
        refine dr_l (x_move rfl) ?_
        refine dr_l (x_indexAddrN (a) Try.underlying134 sz3 rfl rfl rfl (by omega) (by omega)) ?_
        refine dr_mem0 rfl rfl (wtd_none rfl) (x_load ag3 rfl (cells_get (cells_flat0 (n := 1) (enc := intC) (fun _ => rfl) (xs := cur) (i := a) (post := post) (show (b, Obj.cells ((cur).flatMap intC ++ post).toArray 3 (0, 0)) ∈ _ from mauto) (gd_some (by omega))) 0 rfl)) ?_
        refine dr_l (x_move rfl) ?_
        refine dr_l (x_move rfl) ?_
        refine dr_l (x_indexAddrN (j0) Try.underlying134 sz3 rfl rfl rfl (by omega) (by omega)) ?_
        refine dr_mem0 rfl rfl (wtd_none rfl) (x_load ag3 rfl (cells_get (cells_flat0 (n := 1) (enc := intC) (fun _ => rfl) (xs := cur) (i := j0) (post := post) (show (b, Obj.cells ((cur).flatMap intC ++ post).toArray 3 (0, 0)) ∈ _ from mauto) (gd_some (by omega))) 0 rfl)) ?_
        refine dr_l (x_indexAddrN (j0) Try.underlying134 sz3 rfl rfl rfl (by omega) (by omega)) ?_
        refine dr_store0 rfl rfl (wtd_none rfl) (x_store sz3 rfl rfl rfl rfl rfl Repl.auto (spl_flat0 (n := 1) (enc := intC) (fun _ => rfl) (xs := cur) (post := post) (i := (j0)) (x' := gd cur (a)) (by first | omega | (rw [List.length_set]; omega)))) (by first | rfl | simp [keys_append, keys_cons]) ?_
        refine dr_l (x_indexAddrN (a) Try.underlying134 sz3 rfl rfl rfl (by omega) (by omega)) ?_
        refine dr_store0 rfl rfl (wtd_none rfl) (x_store sz3 rfl rfl rfl rfl rfl Repl.auto (spl_flat0 (n := 1) (enc := intC) (fun _ => rfl) (xs := ((cur).set (j0) (gd cur (a)))) (post := post) (i := (a)) (x' := gd cur (j0)) (by first | omega | (rw [List.length_set]; omega)))) (by first | rfl | simp [keys_append, keys_cons]) ?_
        refine dr_nil0 ?_
        refine aw_kp [0, 1, 10, 11] ?_
        refine aw_seq_region ?_
        refine sr_mv ?_
        refine sr_as ?_
        refine sr_as ?_
        refine sr_nil ?_
        refine aw_kp [0, 1, 8, 9, 10, 11] ?_
        refine aw_ret ?_
        show ∃ v H2, ResV _ _ _ _ _ _ v ∧ Sub H2 _ ∧ _
        first | exact ⟨_, _, resV rfl (.cons rfl (.cons rfl .nil)), Sub.refl _, sw cur j2 a, j2, by omega, by omega, hpq.trans (Pq.sw (by omega) (by omega) (by omega)), part_end (by omega) (by omega) (by omega) hpa (hA2.mono (Nat.le_refl _) (by omega)) hB2, ⟨_, rfl⟩, rfl⟩ | exact ⟨_, _, resV rfl (.cons rfl (.cons rfl .nil)), Sub.refl _, sw cur j0 a, j0, by omega, by omega, hpq.trans (Pq.sw (by omega) (by omega) (by omega)), part_end (by omega) (by omega) (by omega) hpa (hA0.mono (Nat.le_refl _) (by omega)) hB0, ⟨_, rfl⟩, rfl⟩
    · refine dr_l (x_move rfl) ?_
      refine dr_sk ?_
      refine dr_sk ?_
      refine dr_sk ?_
      refine dr_sk ?_
      refine dr_sk ?_
      refine dr_sk ?_
      refine dr_sk ?_
      refine dr_sk ?_
      refine dr_sk ?_
      refine dr_sk ?_
      refine dr_l (x_pick_f rfl rfl rfl) ?_
      refine dr_nil0 ?_
      refine aw_kp [0, 1, 10, 11, 46, 47, 48, 49, 50, 51, 52, 53, 54, 55, 56, 57, 58, 59, 60] ?_
      refine aw_false rfl ?_
      refine aw_exit ?_
      show AW _ _ _ _ _ _ _
      refine aw_seq ?_
      refine aw_seq_region ?_
      refine sr_mv ?_
      refine sr_mv ?_
      refine sr_c (x_gt rfl rfl) (fun h14 => ?_) (fun h14 => absurd (by first | omega | decide) h14)
      refine sr_nil ?_
      refine aw_kp [0, 1, 10, 11, 65] ?_
      refine aw_true rfl ?_
      refine aw_seq_dr ⟨_, 16, 168, [[], [], [], [], [], [], [4, 5], [4, 5, 6], [], [], [8, 9], [8, 9, 10], [0, 1, 4, 5, 6, 7, 8, 9, 10, 11], [0, 1, 4, 5, 6, 7, 8, 9, 10, 11, 12], [0, 1, 2, 3, 4, 5, 6, 7, 8, 9, 10, 11, 12, 13], [0, 1, 2, 3, 4, 5, 6, 7, 8, 9, 10, 11, 12, 13, 14]], [.light, .light, .light, .light, .light, .light, .light, .mem, .light, .light, .light, .mem, .light, .eff, .light, .eff]⟩ (by kernel_rfl) rfl rfl mix ?_
      refine dr_l (x_move rfl) ?_
      refine dr_l (x_move rfl) ?_
      refine dr_l (x_move rfl) ?_
      refine dr_l (x_move rfl) ?_
      refine dr_l (x_move rfl) ?_
      refine dr_l (x_move rfl) ?_
      refine dr_l (x_indexAddrN (a) Try.underlying134 sz3 rfl rfl rfl (by omega) (by omega)) ?_
      refine dr_mem0 rfl rfl (wtd_none rfl) (x_load ag3 rfl (cells_get (cells_flat0 (n := 1) (enc := intC) (fun _ => rfl) (xs := cur) (i := a) (post := post) (show (b, Obj.cells ((cur).flatMap intC ++ post).toArray 3 (0, 0)) ∈ _ from mauto) (gd_some (by omega))) 0 rfl)) ?_
      refine dr_l (x_move rfl) ?_
      refine dr_l (x_move rfl) ?_
      refine dr_l (x_indexAddrN (j0) Try.underlying134 sz3 rfl rfl rfl (by omega) (by omega)) ?_
      refine dr_mem0 rfl rfl (wtd_none rfl) (x_load ag3 rfl (cells_get (cells_flat0 (n := 1) (enc := intC) (fun _ => rfl) (xs := cur) (i := j0) (post := post) (show (b, Obj.cells ((cur).flatMap intC ++ post).toArray 3 (0, 0)) ∈ _ from mauto) (gd_some (by omega))) 0 rfl)) ?_
      refine dr_l (x_indexAddrN (j0) Try.underlying134 sz3 rfl rfl rfl (by omega) (by omega)) ?_
      refine dr_store0 rfl rfl (wtd_none rfl) (x_store sz3 rfl rfl rfl rfl rfl Repl.auto (spl_flat0 (n := 1) (enc := intC) (fun _ => rfl) (xs := cur) (post := post) (i := (j0)) (x' := gd cur (a)) (by first | omega | (rw [List.length_set]; omega)))) (by first | rfl | simp [keys_append, keys_cons]) ?_
      refine dr_l (x_indexAddrN (a) Try.underlying134 sz3 rfl rfl rfl (by omega) (by omega)) ?_
      refine dr_store0 rfl rfl (wtd_none rfl) (x_store sz3 rfl rfl rfl rfl rfl Repl.auto (spl_flat0 (n := 1) (enc := intC) (fun _ => rfl) (xs := ((cur).set (j0) (gd cur (a)))) (post := post) (i := (a)) (x' := gd cur (j0)) (by first | omega | (rw [List.length_set]; omega)))) (by first | rfl | simp [keys_append, keys_cons]) ?_
      refine dr_nil0 ?_
      refine aw_kp [0, 1, 10, 11] ?_
      refine aw_seq_region ?_
      refine sr_mv ?_
      refine sr_as ?_
      refine sr_as ?_
      refine sr_nil ?_
      refine aw_kp [0, 1, 8, 9, 10, 11] ?_
      refine aw_ret ?_
      show ∃ v H2, ResV _ _ _ _ _ _ v ∧ Sub H2 _ ∧ _
      first | exact ⟨_, _, resV rfl (.cons rfl (.cons rfl .nil)), Sub.refl _, sw cur j2 a, j2, by omega, by omega, hpq.trans (Pq.sw (by omega) (by omega) (by omega)), part_end (by omega) (by omega) (by omega) hpa (hA2.mono (Nat.le_refl _) (by omega)) hB2, ⟨_, rfl⟩, rfl⟩ | exact ⟨_, _, resV rfl (.cons rfl (.cons rfl .nil)), Sub.refl _, sw cur j0 a, j0, by omega, by omega, hpq.trans (Pq.sw (by omega) (by omega) (by omega)), part_end (by omega) (by omega) (by omega) hpa (hA0.mono (Nat.le_refl _) (by omega)) hB0, ⟨_, rfl⟩, rfl⟩
set_option maxRecDepth 100000 in
set_option maxHeartbeats 4000000 in
theorem mPis_s (b cap n : Nat) (W : List Int) (post : List Value) (G : SHeap) (hl : W.length = n) (hn : n ≤ 100000) (hcap : n ≤ cap) (hcb : cap ≤ 9223372036854775807) (a e : Nat) (h1 : a < e) (h2 : e ≤ n) (hpr : 0 < a → Al W a e (fun x => gd W (a - 1) ≤ x)) : AC Try.prog W0 161 [.slice (some ⟨b, 0, none⟩) n cap, .int .i64 a, .int .i64 e] ((b, .cells ((W).flatMap intC ++ post).toArray 3 (0, 0)) :: G) (fun v H' => ∃ W' bb, Pq W a e W' ∧ (bb = true → SrI W' a e) ∧ v = .bool bb ∧ H' = (b, .cells ((W').flatMap intC ++ post).toArray 3 (0, 0)) :: G) := by
  refine ac_of Try.func161 rfl rfl rfl ?_
  refine aw_seq_region ?_
  refine sr_as ?_
  refine sr_nil ?_
  refine aw_kp [0, 1, 2, 6] ?_
  refine aw_seq_region ?_
  refine sr_mv ?_
  refine sr_rd (x_cast (u := .int .i64 ((a + 1 : Nat) : Int)) (x_add' rfl rfl (i64w (by omega) (by omega))) (by congr 1)) ?_
  refine sr_as ?_
  refine sr_nil ?_
  refine aw_kp [0, 1, 2, 6, 7] ?_
  refine aw_seq ?_
  refine aw_seq_region ?_
  refine sr_as ?_
  refine sr_nil ?_
  refine aw_kp [0, 1, 2, 6, 7, 8] ?_
  refine aw_block ?_
  refine aw_loop (ι := Pd2) (fun s => s.i ≤ 5 ∧ a + 1 ≤ s.j ∧ s.j ≤ e ∧ s.W.length = n ∧ Pq W a e s.W ∧ SrtI cI s.W a s.j) (fun s => [(0, .slice (some ⟨b, 0, none⟩) n cap), (1, .int .i64 a), (2, .int .i64 e), (7, .int .i64 s.j), (8, .int .i64 s.i)]) (fun s => (b, .cells ((s.W).flatMap intC ++ post).toArray 3 (0, 0)) :: G) (fun s => 5 - s.i) ⟨0, a + 1, W⟩ (⟨Nat.zero_le _, Nat.le_refl _, by dsimp only; omega, hl, Pq.refl _ _ _, SrtI.one (Nat.le_refl _)⟩) KeepF.auto Sub.autoP ?_
  intro s hs9
  obtain ⟨k, i, cur⟩ := s
  dsimp only at hs9 ⊢
  obtain ⟨hk, hi1, hi2, hcl, hpq, hsr⟩ := hs9
  refine aw_seq ?_
  refine aw_seq_region ?_
  refine sr_mv ?_
  refine sr_c (x_lt rfl rfl) (fun h1 => ?_) (fun h1 => ?_)
  · refine sr_nil ?_
    refine aw_kp [0, 1, 2, 7, 8, 13, 14] ?_
    refine aw_true rfl ?_
    refine aw_skip ?_
    show AW _ _ _ _ _ _ _
    refine aw_seq ?_
    refine aw_block ?_
    refine aw_seq ?_
    refine aw_block ?_
    refine aw_loop (ι := Nat) (fun k => i ≤ k ∧ k ≤ e ∧ SrtI cI cur a k) (fun k2 => [(0, .slice (some ⟨b, 0, none⟩) n cap), (1, .int .i64 a), (2, .int .i64 e), (7, .int .i64 k2), (8, .int .i64 k)]) (fun _ => (b, .cells ((cur).flatMap intC ++ post).toArray 3 (0, 0)) :: G) (fun k => e - k) i (⟨Nat.le_refl _, hi2, hsr⟩) KeepF.auto Sub.autoP ?_
    intro i2 hi9
    obtain ⟨hi3, hi4, hsr2⟩ := hi9
    refine aw_seq ?_
    refine aw_seq_dr ⟨_, 16, 133, [[], [], [0, 1], [0, 1, 2], [0, 1, 2, 3], [0, 1, 2, 3], [0, 1, 2, 3, 4, 5], [0, 1, 2, 3, 4, 5, 6], [0, 1, 2, 3], [0, 1, 2, 3], [0, 1, 2, 3, 9], [0, 1, 2, 3, 8, 9, 10], [0, 1, 2, 3, 8, 9, 10, 11], [0, 1, 2, 3, 4, 5, 6, 7, 8, 9, 10, 11, 12], [0, 1, 2, 3, 4, 5, 6, 7, 8, 9, 10, 11, 12, 13], [0, 1, 2, 3, 4, 5, 6, 7, 8, 9, 10, 11, 12, 13, 14]], [.light, .light, .light, .light, .light, .light, .light, .mem, .light, .light, .light, .light, .mem, .call, .light, .light]⟩ (by kernel_rfl) rfl rfl mix ?_
    refine dr_l (x_move rfl) ?_
    refine dr_l (x_move rfl) ?_
    refine dr_cmp rfl rfl (wtd_none rfl) (x_lt rfl rfl) (fun h2 => ?_) (fun h2 => ?_)
    · refine dr_l (x_move rfl) ?_
      refine dr_y (x_move rfl) ?_
      refine dr_y (x_move rfl) ?_
      refine dr_y (x_indexAddrN (i2) Try.underlying134 sz3 rfl rfl rfl (by omega) (by omega)) ?_
      refine dr_mem0 rfl rfl (wtd_yes rfl rfl rfl) (x_load ag3 rfl (cells_get (cells_flat0 (n := 1) (enc := intC) (fun _ => rfl) (xs := cur) (i := i2) (post := post) (show (b, Obj.cells ((cur).flatMap intC ++ post).toArray 3 (0, 0)) ∈ _ from mauto) (gd_some (by omega))) 0 rfl)) ?_
      refine dr_y (x_move rfl) ?_
      refine dr_y (x_move rfl) ?_
      refine dr_y (x_cast (u := .int .i64 ((i2 - 1 : Nat) : Int)) (x_sub' rfl rfl (i64w (by omega) (by omega))) (by congr 1; omega)) ?_
      refine dr_y (x_indexAddrN (i2 - 1) Try.underlying134 sz3 rfl rfl rfl (by omega) (by omega)) ?_
      refine dr_mem0 rfl rfl (wtd_yes rfl rfl rfl) (x_load ag3 rfl (cells_get (cells_flat0 (n := 1) (enc := intC) (fun _ => rfl) (xs := cur) (i := (i2 - 1)) (post := post) (show (b, Obj.cells ((cur).flatMap intC ++ post).toArray 3 (0, 0)) ∈ _ from mauto) (gd_some (by omega))) 0 rfl)) ?_
      refine dr_callq0 rfl rfl (wtd_yes rfl rfl rfl) (opS_F rfl rfl rfl rfl cl162 ((mLess_s (gd cur i2) (gd cur (i2 - 1)) _))) (⟨_, rfl⟩) ?_
      rintro _ rfl
      generalize hd1 : decide (gd cur i2 < gd cur (i2 - 1)) = d1
      cases d1
      · refine dr_y (x_not rfl) ?_
        refine dr_l (x_pick_t rfl rfl rfl) ?_
        refine dr_nil0 ?_
        refine aw_kp [0, 1, 2, 7, 8, 17, 18, 19, 20, 21, 22, 23, 24, 25, 26, 27, 28, 29, 30, 31, 32] ?_
        refine aw_true rfl ?_
        refine aw_skip ?_
        show AW _ _ _ _ _ _ _
        refine aw_block ?_
        refine aw_region ?_
        refine sr_mv ?_
        refine sr_rd (x_cast (u := .int .i64 ((i2 + 1 : Nat) : Int)) (x_add' rfl rfl (i64w (by omega) (by omega))) (by congr 1)) ?_
        refine sr_as ?_
        refine sr_nil ?_
        show ∃ s', _ ∧ _ ∧ _ ∧ _
        exact ⟨i2 + 1, ⟨by omega, by omega, srt_snoc (by omega) (by omega) hsr2 (fun q8 => by first | (exfalso; omega) | (have q9 := of_decide_eq_false hd1; unfold cI; omega))⟩, by omega, KeepF.auto, Sub.autoP⟩
      · refine dr_y (x_not rfl) ?_
        refine dr_l (x_pick_t rfl rfl rfl) ?_
        refine dr_nil0 ?_
        refine aw_kp [0, 1, 2, 7, 8, 17, 18, 19, 20, 21, 22, 23, 24, 25, 26, 27, 28, 29, 30, 31, 32] ?_
        refine aw_false rfl ?_
        refine aw_exit ?_
        show AW _ _ _ _ _ _ _
        refine aw_seq ?_
        refine aw_seq_region ?_
        refine sr_mv ?_
        refine sr_mv ?_
        refine sr_c (x_eq rfl rfl) (fun h3 => absurd h3 (by first | omega | decide)) (fun h3 => ?_)
        refine sr_nil ?_
        refine aw_kp [0, 1, 2, 7, 8, 17, 18, 19, 20, 21, 22, 23, 24, 25, 26, 27, 28, 29, 30, 31, 32, 35, 36, 37] ?_
        refine aw_false rfl ?_
        refine aw_skip ?_
        show AW _ _ _ _ _ _ _
        refine aw_seq ?_
        refine aw_seq_region ?_
        refine sr_mv ?_
        refine sr_mv ?_
        refine sr_rd (x_cast (u := .int .i64 ((e - a : Nat) : Int)) (x_sub' rfl rfl (i64w (by omega) (by omega))) (by congr 1; omega)) ?_
        refine sr_c (x_lt rfl rfl) (fun h4 => ?_) (fun h4 => ?_)
        · refine sr_nil ?_
          refine aw_kp [0, 1, 2, 7, 8, 17, 18, 19, 20, 21, 22, 23, 24, 25, 26, 27, 28, 29, 30, 31, 32, 35, 36, 37, 38, 39, 40, 41] ?_
          refine aw_true rfl ?_
          refine aw_seq_region ?_
          refine sr_as ?_
          refine sr_nil ?_
          refine aw_kp [0, 1, 2, 6, 7, 8, 17, 18, 19, 20, 21, 22, 23, 24, 25, 26, 27, 28, 29, 30, 31, 32, 35, 36, 37, 38, 39, 40, 41] ?_
          refine aw_ret ?_
          show ∃ v H2, ResV _ _ _ _ _ _ v ∧ Sub H2 _ ∧ _
          first | exact ⟨_, _, resV rfl (.cons rfl .nil), Sub.refl _, cur, true, hpq, (fun _ => by (obtain rfl : i2 = e := (by omega)); exact SrI.of hsr2), rfl, rfl⟩ | exact ⟨_, _, resV rfl (.cons rfl .nil), Sub.refl _, cur, false, hpq, (fun q => by cases q), rfl, rfl⟩
        · refine sr_nil ?_
          refine aw_kp [0, 1, 2, 7, 8, 17, 18, 19, 20, 21, 22, 23, 24, 25, 26, 27, 28, 29, 30, 31, 32, 35, 36, 37, 38, 39, 40, 41] ?_
          refine aw_false rfl ?_
          refine aw_skip ?_
          show AW _ _ _ _ _ _ _
          refine aw_seq_dr ⟨_, 18, 133, [[], [], [], [], [3], [], [], [6], [5, 6, 7], [5, 6, 7, 8], [], [], [10, 11], [10, 11, 12], [0, 1, 5, 6, 7, 8, 9, 10, 11, 12, 13], [0, 1, 5, 6, 7, 8, 9, 10, 11, 12, 13, 14], [0, 1, 2, 3, 4, 5, 6, 7, 8, 9, 10, 11, 12, 13, 14, 15], [0, 1, 2, 3, 4, 5, 6, 7, 8, 9, 10, 11, 12, 13, 14, 15, 16]], [.light, .light, .light, .light, .light, .light, .light, .light, .light, .mem, .light, .light, .light, .mem, .light, .eff, .light, .eff]⟩ (by kernel_rfl) rfl rfl mix ?_
          refine dr_l (x_move rfl) ?_
          refine dr_l (x_move rfl) ?_
          refine dr_l (x_move rfl) ?_
          refine dr_l (x_move rfl) ?_
          refine dr_l (x_cast (u := .int .i64 ((i2 - 1 : Nat) : Int)) (x_sub' rfl rfl (i64w (by omega) (by omega))) (by congr 1; omega)) ?_
          refine dr_l (x_move rfl) ?_
          refine dr_l (x_move rfl) ?_
          refine dr_l (x_cast (u := .int .i64 ((i2 - 1 : Nat) : Int)) (x_sub' rfl rfl (i64w (by omega) (by omega))) (by congr 1; omega)) ?_
          refine dr_l (x_indexAddrN (i2 - 1) Try.underlying134 sz3 rfl rfl rfl (by omega) (by omega)) ?_
          refine dr_mem0 rfl rfl (wtd_none rfl) (x_load ag3 rfl (cells_get (cells_flat0 (n := 1) (enc := intC) (fun _ => rfl) (xs := cur) (i := (i2 - 1)) (post := post) (show (b, Obj.cells ((cur).flatMap intC ++ post).toArray 3 (0, 0)) ∈ _ from mauto) (gd_some (by omega))) 0 rfl)) ?_
          refine dr_l (x_move rfl) ?_
          refine dr_l (x_move rfl) ?_
          refine dr_l (x_indexAddrN (i2) Try.underlying134 sz3 rfl rfl rfl (by omega) (by omega)) ?_
          refine dr_mem0 rfl rfl (wtd_none rfl) (x_load ag3 rfl (cells_get (cells_flat0 (n := 1) (enc := intC) (fun _ => rfl) (xs := cur) (i := i2) (post := post) (show (b, Obj.cells ((cur).flatMap intC ++ post).toArray 3 (0, 0)) ∈ _ from mauto) (gd_some (by omega))) 0 rfl)) ?_
          refine dr_l (x_indexAddrN (i2) Try.underlying134 sz3 rfl rfl rfl (by omega) (by omega)) ?_
          refine dr_store0 rfl rfl (wtd_none rfl) (x_store sz3 rfl rfl rfl rfl rfl Repl.auto (spl_flat0 (n := 1) (enc := intC) (fun _ => rfl) (xs := cur) (post := post) (i := (i2)) (x' := gd cur (i2 - 1)) (by first | omega | (rw [List.length_set]; omega)))) (by first | rfl | simp [keys_append, keys_cons]) ?_
          refine dr_l (x_indexAddrN (i2 - 1) Try.underlying134 sz3 rfl rfl rfl (by omega) (by omega)) ?_
          refine dr_store0 rfl rfl (wtd_none rfl) (x_store sz3 rfl rfl rfl rfl rfl Repl.auto (spl_flat0 (n := 1) (enc := intC) (fun _ => rfl) (xs := ((cur).set (i2) (gd cur (i2 - 1)))) (post := post) (i := (i2 - 1)) (x' := gd cur (i2)) (by first | omega | (rw [List.length_set]; omega)))) (by first | rfl | simp [keys_append, keys_cons]) ?_
          refine dr_nil0 ?_
          refine aw_kp [0, 1, 2, 7, 8, 17, 18, 19, 20, 21, 22, 23, 24, 25, 26, 27, 28, 29, 30, 31, 32, 35, 36, 37, 38, 39, 40, 41, 42, 43, 44, 45, 46, 47, 48, 49, 50, 51, 52, 53, 54, 55, 56, 57] ?_
          refine aw_join (ι := List Int) (fun W3 => W3.length = n ∧ Mg cI cur a (i2 + 1) W3) (fun _ => [(0, .slice (some ⟨b, 0, none⟩) n cap), (1, .int .i64 a), (2, .int .i64 e), (7, .int .i64 i2), (8, .int .i64 k)]) (fun W3 => (b, .cells ((W3).flatMap intC ++ post).toArray 3 (0, 0)) :: G) ?_ ?_
          · refine aw_seq_region ?_
            refine sr_mv ?_
            refine sr_mv ?_
            refine sr_rd (x_cast (u := .int .i64 ((i2 - a : Nat) : Int)) (x_sub' rfl rfl (i64w (by omega) (by omega))) (by congr 1; omega)) ?_
            refine sr_c (x_ge rfl rfl) (fun h5 => ?_) (fun h5 => ?_)
            · refine sr_nil ?_
              refine aw_kp [0, 1, 2, 7, 8, 17, 18, 19, 20, 21, 22, 23, 24, 25, 26, 27, 28, 29, 30, 31, 32, 35, 36, 37, 38, 39, 40, 41, 42, 43, 44, 45, 46, 47, 48, 49, 50, 51, 52, 53, 54, 55, 56, 57, 58, 59, 60, 61] ?_
              refine aw_true rfl ?_
              refine aw_seq_region ?_
              refine sr_mv ?_
              refine sr_rd (x_cast (u := .int .i64 ((i2 - 1 : Nat) : Int)) (x_sub' rfl rfl (i64w (by omega) (by omega))) (by congr 1; omega)) ?_
              refine sr_as ?_
              refine sr_nil ?_
              refine aw_kp [0, 1, 2, 7, 8, 9, 17, 18, 19, 20, 21, 22, 23, 24, 25, 26, 27, 28, 29, 30, 31, 32, 35, 36, 37, 38, 39, 40, 41, 42, 43, 44, 45, 46, 47, 48, 49, 50, 51, 52, 53, 54, 55, 56, 57, 58, 59, 60, 61, 62, 63] ?_
              refine aw_block ?_
              refine aw_loop (ι := Pd1) (fun s => a ≤ s.k ∧ s.k ≤ i2 ∧ s.W.length = n ∧ Mv cur (rotF s.k i2 (i2 + 1)) s.W ∧ ∀ h, s.k ≤ h → h < i2 → cI (gd cur i2) (gd cur h) < 0) (fun s => [(0, .slice (some ⟨b, 0, none⟩) n cap), (1, .int .i64 a), (2, .int .i64 e), (7, .int .i64 i2), (8, .int .i64 k), (9, .int .i64 s.k)]) (fun s => (b, .cells ((s.W).flatMap intC ++ post).toArray 3 (0, 0)) :: G) (fun s => s.k) ⟨i2 - 1, sw cur i2 (i2 - 1)⟩ (⟨by dsimp only; omega, by dsimp only; omega, sw_len.trans hcl, (insr_step (c := cI) (by omega) (Nat.le_refl _) (by omega) (fun h q1 q2 => by omega) (Mv.refl _ (rotF_self i2)) (by (have q9 := of_decide_eq_true hd1); unfold cI; omega))⟩) KeepF.auto Sub.autoP ?_
              intro s hs8
              obtain ⟨j, cur3⟩ := s
              dsimp only at hs8 ⊢
              obtain ⟨hj1, hj2, hcl3, hmv3, hlt3⟩ := hs8
              refine aw_seq ?_
              refine aw_seq_region ?_
              refine sr_mv ?_
              refine sr_c (x_ge rfl rfl) (fun h6 => ?_) (fun h6 => ?_)
              · refine sr_nil ?_
                refine aw_kp [0, 1, 2, 7, 8, 9, 64, 65] ?_
                refine aw_true rfl ?_
                refine aw_skip ?_
                show AW _ _ _ _ _ _ _
                refine aw_seq ?_
                refine aw_block ?_
                refine aw_seq ?_
                refine aw_seq_dr ⟨_, 11, 133, [[], [], [0, 1], [0, 1, 2], [], [], [5], [4, 5, 6], [4, 5, 6, 7], [0, 1, 2, 3, 4, 5, 6, 7, 8], [0, 1, 2, 3, 4, 5, 6, 7, 8, 9]], [.light, .light, .light, .mem, .light, .light, .light, .light, .mem, .call, .light]⟩ (by kernel_rfl) rfl rfl mix ?_
                refine dr_l (x_move rfl) ?_
                refine dr_l (x_move rfl) ?_
                refine dr_l (x_indexAddrN (j) Try.underlying134 sz3 rfl rfl rfl (by omega) (by omega)) ?_
                refine dr_mem0 rfl rfl (wtd_none rfl) (x_load ag3 rfl (cells_get (cells_flat0 (n := 1) (enc := intC) (fun _ => rfl) (xs := cur3) (i := j) (post := post) (show (b, Obj.cells ((cur3).flatMap intC ++ post).toArray 3 (0, 0)) ∈ _ from mauto) (gd_some (by omega))) 0 rfl)) ?_
                refine dr_l (x_move rfl) ?_
                refine dr_l (x_move rfl) ?_
                refine dr_l (x_cast (u := .int .i64 ((j - 1 : Nat) : Int)) (x_sub' rfl rfl (i64w (by omega) (by omega))) (by congr 1; omega)) ?_
                refine dr_l (x_indexAddrN (j - 1) Try.underlying134 sz3 rfl rfl rfl (by omega) (by omega)) ?_
                refine dr_mem0 rfl rfl (wtd_none rfl) (x_load ag3 rfl (cells_get (cells_flat0 (n := 1) (enc := intC) (fun _ => rfl) (xs := cur3) (i := (j - 1)) (post := post) (show (b, Obj.cells ((cur3).flatMap intC ++ post).toArray 3 (0, 0)) ∈ _ from mauto) (gd_some (by omega))) 0 rfl)) ?_
                refine dr_callq0 rfl rfl (wtd_none rfl) (opS_F rfl rfl rfl rfl cl162 ((mLess_s (gd cur3 j) (gd cur3 (j - 1)) _))) (⟨_, rfl⟩) ?_
                rintro _ rfl
                generalize hd2 : decide (gd cur3 j < gd cur3 (j - 1)) = d2
                cases d2
                · refine dr_l (x_not rfl) ?_
                  refine dr_nil0 ?_
                  refine aw_kp [0, 1, 2, 7, 8, 9, 64, 65, 68, 69, 70, 71, 72, 73, 74, 75, 76, 77, 78] ?_
                  refine aw_true rfl ?_
                  refine aw_exit ?_
                  show ∃ s', _ ∧ _ ∧ _
                  first | exact ⟨cur3, ⟨hcl3, insr_end (c := cI) cI_swo hj1 hj2 (by omega) hsr2 hlt3 hmv3 (fun q8 => by first | (exfalso; omega) | (have q9 := of_decide_eq_false hd2; unfold cI; omega))⟩, KeepF.auto, Sub.autoD⟩ | exact ⟨sw cur i2 (i2 - 1), ⟨sw_len.trans hcl, insr_end (c := cI) (j := i2 - 1) cI_swo (by omega) (by omega) (by omega) hsr2 (insr_step (c := cI) (by omega) (Nat.le_refl _) (by omega) (fun h q1 q2 => by omega) (Mv.refl _ (rotF_self i2)) (by (have q9 := of_decide_eq_true hd1); unfold cI; omega)).2 (insr_step (c := cI) (by omega) (Nat.le_refl _) (by omega) (fun h q1 q2 => by omega) (Mv.refl _ (rotF_self i2)) (by (have q9 := of_decide_eq_true hd1); unfold cI; omega)).1 (fun q8 => by exfalso; omega)⟩, KeepF.auto, Sub.autoD⟩
                · refine dr_l (x_not rfl) ?_
                  refine dr_nil0 ?_
                  refine aw_kp [0, 1, 2, 7, 8, 9, 64, 65, 68, 69, 70, 71, 72, 73, 74, 75, 76, 77, 78] ?_
                  refine aw_false rfl ?_
                  refine aw_skip ?_
                  show AW _ _ _ _ _ _ _
                  refine aw_dr ⟨_, 18, 133, [[], [], [], [], [3], [], [], [6], [5, 6, 7], [5, 6, 7, 8], [], [], [10, 11], [10, 11, 12], [0, 1, 5, 6, 7, 8, 9, 10, 11, 12, 13], [0, 1, 5, 6, 7, 8, 9, 10, 11, 12, 13, 14], [0, 1, 2, 3, 4, 5, 6, 7, 8, 9, 10, 11, 12, 13, 14, 15], [0, 1, 2, 3, 4, 5, 6, 7, 8, 9, 10, 11, 12, 13, 14, 15, 16]], [.light, .light, .light, .light, .light, .light, .light, .light, .light, .mem, .light, .light, .light, .mem, .light, .eff, .light, .eff]⟩ (by kernel_rfl) rfl rfl mix ?_
                  refine dr_l (x_move rfl) ?_
                  refine dr_l (x_move rfl) ?_
                  refine dr_l (x_move rfl) ?_
                  refine dr_l (x_move rfl) ?_
                  refine dr_l (x_cast (u := .int .i64 ((j - 1 : Nat) : Int)) (x_sub' rfl rfl (i64w (by omega) (by omega))) (by congr 1; omega)) ?_
                  refine dr_l (x_move rfl) ?_
                  refine dr_l (x_move rfl) ?_
                  refine dr_l (x_cast (u := .int .i64 ((j - 1 : Nat) : Int)) (x_sub' rfl rfl (i64w (by omega) (by omega))) (by congr 1; omega)) ?_
                  refine dr_l (x_indexAddrN (j - 1) Try.underlying134 sz3 rfl rfl rfl (by omega) (by omega)) ?_
                  refine dr_mem0 rfl rfl (wtd_none rfl) (x_load ag3 rfl (cells_get (cells_flat0 (n := 1) (enc := intC) (fun _ => rfl) (xs := cur3) (i := (j - 1)) (post := post) (show (b, Obj.cells ((cur3).flatMap intC ++ post).toArray 3 (0, 0)) ∈ _ from mauto) (gd_some (by omega))) 0 rfl)) ?_
                  refine dr_l (x_move rfl) ?_
                  refine dr_l (x_move rfl) ?_
                  refine dr_l (x_indexAddrN (j) Try.underlying134 sz3 rfl rfl rfl (by omega) (by omega)) ?_
                  refine dr_mem0 rfl rfl (wtd_none rfl) (x_load ag3 rfl (cells_get (cells_flat0 (n := 1) (enc := intC) (fun _ => rfl) (xs := cur3) (i := j) (post := post) (show (b, Obj.cells ((cur3).flatMap intC ++ post).toArray 3 (0, 0)) ∈ _ from mauto) (gd_some (by omega))) 0 rfl)) ?_
                  refine dr_l (x_indexAddrN (j) Try.underlying134 sz3 rfl rfl rfl (by omega) (by omega)) ?_
                  refine dr_store0 rfl rfl (wtd_none rfl) (x_store sz3 rfl rfl rfl rfl rfl Repl.auto (spl_flat0 (n := 1) (enc := intC) (fun _ => rfl) (xs := cur3) (post := post) (i := (j)) (x' := gd cur3 (j - 1)) (by first | omega | (rw [List.length_set]; omega)))) (by first | rfl | simp [keys_append, keys_cons]) ?_
                  refine dr_l (x_indexAddrN (j - 1) Try.underlying134 sz3 rfl rfl rfl (by omega) (by omega)) ?_
                  refine dr_store0 rfl rfl (wtd_none rfl) (x_store sz3 rfl rfl rfl rfl rfl Repl.auto (spl_flat0 (n := 1) (enc := intC) (fun _ => rfl) (xs := ((cur3).set (j) (gd cur3 (j - 1)))) (post := post) (i := (j - 1)) (x' := gd cur3 (j)) (by first | omega | (rw [List.length_set]; omega)))) (by first | rfl | simp [keys_append, keys_cons]) ?_
                  refine dr_nil0 ?_
                  show AW _ _ _ _ _ _ _
                  refine aw_region ?_
                  refine sr_mv ?_
                  refine sr_rd (x_cast (u := .int .i64 ((j - 1 : Nat) : Int)) (x_sub' rfl rfl (i64w (by omega) (by omega))) (by congr 1; omega)) ?_
                  refine sr_as ?_
                  refine sr_nil ?_
                  show ∃ s', _ ∧ _ ∧ _ ∧ _
                  exact ⟨⟨j - 1, sw cur3 j (j - 1)⟩, ⟨by (have q7 := left_ok (fun q => hpq.pr hpr q i2 (by omega) (by omega)) hj1 hj2 (by omega) hmv3 (of_decide_eq_true hd2)); dsimp only; omega, by dsimp only; omega, sw_len.trans hcl3, insr_step (c := cI) (by omega) hj2 (by omega) hlt3 hmv3 (by (have q9 := of_decide_eq_true hd2); unfold cI; omega)⟩, by dsimp only; omega, KeepF.auto, Sub.autoP⟩
              · refine sr_nil ?_
                refine aw_kp [0, 1, 2, 7, 8, 9, 64, 65] ?_
                refine aw_false rfl ?_
                refine aw_exit ?_
                show ∃ s', _ ∧ _ ∧ _
                first | exact ⟨cur3, ⟨hcl3, insr_end (c := cI) cI_swo hj1 hj2 (by omega) hsr2 hlt3 hmv3 (fun q8 => by first | (exfalso; omega) | (have q9 := of_decide_eq_false hd2; unfold cI; omega))⟩, KeepF.auto, Sub.autoD⟩ | exact ⟨sw cur i2 (i2 - 1), ⟨sw_len.trans hcl, insr_end (c := cI) (j := i2 - 1) cI_swo (by omega) (by omega) (by omega) hsr2 (insr_step (c := cI) (by omega) (Nat.le_refl _) (by omega) (fun h q1 q2 => by omega) (Mv.refl _ (rotF_self i2)) (by (have q9 := of_decide_eq_true hd1); unfold cI; omega)).2 (insr_step (c := cI) (by omega) (Nat.le_refl _) (by omega) (fun h q1 q2 => by omega) (Mv.refl _ (rotF_self i2)) (by (have q9 := of_decide_eq_true hd1); unfold cI; omega)).1 (fun q8 => by exfalso; omega)⟩, KeepF.auto, Sub.autoD⟩
            · refine sr_nil ?_
              refine aw_kp [0, 1, 2, 7, 8, 17, 18, 19, 20, 21, 22, 23, 24, 25, 26, 27, 28, 29, 30, 31, 32, 35, 36, 37, 38, 39, 40, 41, 42, 43, 44, 45, 46, 47, 48, 49, 50, 51, 52, 53, 54, 55, 56, 57, 58, 59, 60, 61] ?_
              refine aw_false rfl ?_
              refine aw_skip ?_
              show ∃ s', _ ∧ _ ∧ _
              first | exact ⟨cur3, ⟨hcl3, insr_end (c := cI) cI_swo hj1 hj2 (by omega) hsr2 hlt3 hmv3 (fun q8 => by first | (exfalso; omega) | (have q9 := of_decide_eq_false hd2; unfold cI; omega))⟩, KeepF.auto, Sub.autoD⟩ | exact ⟨sw cur i2 (i2 - 1), ⟨sw_len.trans hcl, insr_end (c := cI) (j := i2 - 1) cI_swo (by omega) (by omega) (by omega) hsr2 (insr_step (c := cI) (by omega) (Nat.le_refl _) (by omega) (fun h q1 q2 => by omega) (Mv.refl _ (rotF_self i2)) (by (have q9 := of_decide_eq_true hd1); unfold cI; omega)).2 (insr_step (c := cI) (by omega) (Nat.le_refl _) (by omega) (fun h q1 q2 => by omega) (Mv.refl _ (rotF_self i2)) (by (have q9 := of_decide_eq_true hd1); unfold cI; omega)).1 (fun q8 => by exfalso; omega)⟩, KeepF.auto, Sub.autoD⟩
          · intro W3 hW3
            obtain ⟨hl3, hmg3⟩ := hW3
            refine aw_seq_region ?_
            refine sr_mv ?_
            refine sr_mv ?_
            refine sr_rd (x_cast (u := .int .i64 ((e - i2 : Nat) : Int)) (x_sub' rfl rfl (i64w (by omega) (by omega))) (by congr 1; omega)) ?_
            refine sr_c (x_ge rfl rfl) (fun h7 => ?_) (fun h7 => ?_)
            · refine sr_nil ?_
              refine aw_kp [0, 1, 2, 7, 8, 95, 96, 97, 98] ?_
              refine aw_true rfl ?_
              refine aw_seq_region ?_
              refine sr_mv ?_
              refine sr_rd (x_cast (u := .int .i64 ((i2 + 1 : Nat) : Int)) (x_add' rfl rfl (i64w (by omega) (by omega))) (by congr 1)) ?_
              refine sr_as ?_
              refine sr_nil ?_
              refine aw_kp [0, 1, 2, 7, 8, 10, 95, 96, 97, 98, 99, 100] ?_
              refine aw_block ?_
              refine aw_loop (ι := Pd1) (fun s => i2 + 1 ≤ s.k ∧ s.k ≤ e ∧ s.W.length = n ∧ Pq W3 i2 e s.W) (fun s => [(0, .slice (some ⟨b, 0, none⟩) n cap), (1, .int .i64 a), (2, .int .i64 e), (7, .int .i64 i2), (8, .int .i64 k), (10, .int .i64 s.k)]) (fun s => (b, .cells ((s.W).flatMap intC ++ post).toArray 3 (0, 0)) :: G) (fun s => e - s.k) ⟨i2 + 1, W3⟩ (⟨Nat.le_refl _, by dsimp only; omega, hl3, Pq.refl _ _ _⟩) KeepF.auto Sub.autoP ?_
              intro s hs7
              obtain ⟨m, cur5⟩ := s
              dsimp only at hs7 ⊢
              obtain ⟨hm1, hm2, hcl5, hpq5⟩ := hs7
              refine aw_seq ?_
              refine aw_seq_region ?_
              refine sr_mv ?_
              refine sr_mv ?_
              refine sr_c (x_lt rfl rfl) (fun h8 => ?_) (fun h8 => ?_)
              · refine sr_nil ?_
                refine aw_kp [0, 1, 2, 7, 8, 10, 101, 102, 103] ?_
                refine aw_true rfl ?_
                refine aw_skip ?_
                show AW _ _ _ _ _ _ _
                refine aw_seq ?_
                refine aw_block ?_
                refine aw_seq ?_
                refine aw_seq_dr ⟨_, 11, 133, [[], [], [0, 1], [0, 1, 2], [], [], [5], [4, 5, 6], [4, 5, 6, 7], [0, 1, 2, 3, 4, 5, 6, 7, 8], [0, 1, 2, 3, 4, 5, 6, 7, 8, 9]], [.light, .light, .light, .mem, .light, .light, .light, .light, .mem, .call, .light]⟩ (by kernel_rfl) rfl rfl mix ?_
                refine dr_l (x_move rfl) ?_
                refine dr_l (x_move rfl) ?_
                refine dr_l (x_indexAddrN (m) Try.underlying134 sz3 rfl rfl rfl (by omega) (by omega)) ?_
                refine dr_mem0 rfl rfl (wtd_none rfl) (x_load ag3 rfl (cells_get (cells_flat0 (n := 1) (enc := intC) (fun _ => rfl) (xs := cur5) (i := m) (post := post) (show (b, Obj.cells ((cur5).flatMap intC ++ post).toArray 3 (0, 0)) ∈ _ from mauto) (gd_some (by omega))) 0 rfl)) ?_
                refine dr_l (x_move rfl) ?_
                refine dr_l (x_move rfl) ?_
                refine dr_l (x_cast (u := .int .i64 ((m - 1 : Nat) : Int)) (x_sub' rfl rfl (i64w (by omega) (by omega))) (by congr 1; omega)) ?_
                refine dr_l (x_indexAddrN (m - 1) Try.underlying134 sz3 rfl rfl rfl (by omega) (by omega)) ?_
                refine dr_mem0 rfl rfl (wtd_none rfl) (x_load ag3 rfl (cells_get (cells_flat0 (n := 1) (enc := intC) (fun _ => rfl) (xs := cur5) (i := (m - 1)) (post := post) (show (b, Obj.cells ((cur5).flatMap intC ++ post).toArray 3 (0, 0)) ∈ _ from mauto) (gd_some (by omega))) 0 rfl)) ?_
                refine dr_callq0 rfl rfl (wtd_none rfl) (opS_F rfl rfl rfl rfl cl162 ((mLess_s (gd cur5 m) (gd cur5 (m - 1)) _))) (⟨_, rfl⟩) ?_
                rintro _ rfl
                generalize hd3 : decide (gd cur5 m < gd cur5 (m - 1)) = d3
                cases d3
                · refine dr_l (x_not rfl) ?_
                  refine dr_nil0 ?_
                  refine aw_kp [0, 1, 2, 7, 8, 10, 101, 102, 103, 106, 107, 108, 109, 110, 111, 112, 113, 114, 115, 116] ?_
                  refine aw_true rfl ?_
                  refine aw_exit ?_
                  show AW _ _ _ _ _ _ _
                  refine aw_region ?_
                  refine sr_mv ?_
                  refine sr_rd (x_cast (u := .int .i64 ((k + 1 : Nat) : Int)) (x_add' rfl rfl (i64w (by omega) (by omega))) (by congr 1)) ?_
                  refine sr_as ?_
                  refine sr_nil ?_
                  show ∃ s', _ ∧ _ ∧ _ ∧ _
                  first | exact ⟨⟨k + 1, i2, cur5⟩, ⟨by dsimp only; omega, by dsimp only; omega, by dsimp only; omega, hcl5, (hpq.trans ((Mg.pq hmg3).1.wide (Nat.le_refl _) (by omega))).trans ((hpq5).wide (by omega) (Nat.le_refl _)), (hmg3.2.2.up (show i2 ≤ i2 + 1 by omega)).same fun k q1 q2 => (hpq5).2.2.1 k (.inl q2)⟩, by dsimp only; omega, KeepF.auto, Sub.autoD⟩ | exact ⟨⟨k + 1, i2, W3⟩, ⟨by dsimp only; omega, by dsimp only; omega, by dsimp only; omega, hl3, (hpq.trans ((Mg.pq hmg3).1.wide (Nat.le_refl _) (by omega))).trans ((Pq.refl W3 i2 e).wide (by omega) (Nat.le_refl _)), (hmg3.2.2.up (show i2 ≤ i2 + 1 by omega)).same fun k q1 q2 => (Pq.refl W3 i2 e).2.2.1 k (.inl q2)⟩, by dsimp only; omega, KeepF.auto, Sub.autoD⟩
                · refine dr_l (x_not rfl) ?_
                  refine dr_nil0 ?_
                  refine aw_kp [0, 1, 2, 7, 8, 10, 101, 102, 103, 106, 107, 108, 109, 110, 111, 112, 113, 114, 115, 116] ?_
                  refine aw_false rfl ?_
                  refine aw_skip ?_
                  show AW _ _ _ _ _ _ _
                  refine aw_dr ⟨_, 18, 133, [[], [], [], [], [3], [], [], [6], [5, 6, 7], [5, 6, 7, 8], [], [], [10, 11], [10, 11, 12], [0, 1, 5, 6, 7, 8, 9, 10, 11, 12, 13], [0, 1, 5, 6, 7, 8, 9, 10, 11, 12, 13, 14], [0, 1, 2, 3, 4, 5, 6, 7, 8, 9, 10, 11, 12, 13, 14, 15], [0, 1, 2, 3, 4, 5, 6, 7, 8, 9, 10, 11, 12, 13, 14, 15, 16]], [.light, .light, .light, .light, .light, .light, .light, .light, .light, .mem, .light, .light, .light, .mem, .light, .eff, .light, .eff]⟩ (by kernel_rfl) rfl rfl mix ?_
                  refine dr_l (x_move rfl) ?_
                  refine dr_l (x_move rfl) ?_
                  refine dr_l (x_move rfl) ?_
                  refine dr_l (x_move rfl) ?_
                  refine dr_l (x_cast (u := .int .i64 ((m - 1 : Nat) : Int)) (x_sub' rfl rfl (i64w (by omega) (by omega))) (by congr 1; omega)) ?_
                  refine dr_l (x_move rfl) ?_
                  refine dr_l (x_move rfl) ?_
                  refine dr_l (x_cast (u := .int .i64 ((m - 1 : Nat) : Int)) (x_sub' rfl rfl (i64w (by omega) (by omega))) (by congr 1; omega)) ?_
                  refine dr_l (x_indexAddrN (m - 1) Try.underlying134 sz3 rfl rfl rfl (by omega) (by omega)) ?_
                  refine dr_mem0 rfl rfl (wtd_none rfl) (x_load ag3 rfl (cells_get (cells_flat0 (n := 1) (enc := intC) (fun _ => rfl) (xs := cur5) (i := (m - 1)) (post := post) (show (b, Obj.cells ((cur5).flatMap intC ++ post).toArray 3 (0, 0)) ∈ _ from mauto) (gd_some (by omega))) 0 rfl)) ?_
                  refine dr_l (x_move rfl) ?_
                  refine dr_l (x_move rfl) ?_
                  refine dr_l (x_indexAddrN (m) Try.underlying134 sz3 rfl rfl rfl (by omega) (by omega)) ?_
                  refine dr_mem0 rfl rfl (wtd_none rfl) (x_load ag3 rfl (cells_get (cells_flat0 (n := 1) (enc := intC) (fun _ => rfl) (xs := cur5) (i := m) (post := post) (show (b, Obj.cells ((cur5).flatMap intC ++ post).toArray 3 (0, 0)) ∈ _ from mauto) (gd_some (by omega))) 0 rfl)) ?_
                  refine dr_l (x_indexAddrN (m) Try.underlying134 sz3 rfl rfl rfl (by omega) (by omega)) ?_
                  refine dr_store0 rfl rfl (wtd_none rfl) (x_store sz3 rfl rfl rfl rfl rfl Repl.auto (spl_flat0 (n := 1) (enc := intC) (fun _ => rfl) (xs := cur5) (post := post) (i := (m)) (x' := gd cur5 (m - 1)) (by first | omega | (rw [List.length_set]; omega)))) (by first | rfl | simp [keys_append, keys_cons]) ?_
                  refine dr_l (x_indexAddrN (m - 1) Try.underlying134 sz3 rfl rfl rfl (by omega) (by omega)) ?_
                  refine dr_store0 rfl rfl (wtd_none rfl) (x_store sz3 rfl rfl rfl rfl rfl Repl.auto (spl_flat0 (n := 1) (enc := intC) (fun _ => rfl) (xs := ((cur5).set (m) (gd cur5 (m - 1)))) (post := post) (i := (m - 1)) (x' := gd cur5 (m)) (by first | omega | (rw [List.length_set]; omega)))) (by first | rfl | simp [keys_append, keys_cons]) ?_
                  refine dr_nil0 ?_
                  show AW _ _ _ _ _ _ _
                  refine aw_region ?_
                  refine sr_mv ?_
                  refine sr_rd (x_cast (u := .int .i64 ((m + 1 : Nat) : Int)) (x_add' rfl rfl (i64w (by omega) (by omega))) (by congr 1)) ?_
                  refine sr_as ?_
                  refine sr_nil ?_
                  show ∃ s', _ ∧ _ ∧ _ ∧ _
                  exact ⟨⟨m + 1, sw cur5 m (m - 1)⟩, ⟨by dsimp only; omega, by dsimp only; omega, sw_len.trans hcl5, hpq5.trans (Pq.sw (by omega) (by omega) (by omega))⟩, by dsimp only; omega, KeepF.auto, Sub.autoP⟩
              · refine sr_nil ?_
                refine aw_kp [0, 1, 2, 7, 8, 10, 101, 102, 103] ?_
                refine aw_false rfl ?_
                refine aw_exit ?_
                show AW _ _ _ _ _ _ _
                refine aw_region ?_
                refine sr_mv ?_
                refine sr_rd (x_cast (u := .int .i64 ((k + 1 : Nat) : Int)) (x_add' rfl rfl (i64w (by omega) (by omega))) (by congr 1)) ?_
                refine sr_as ?_
                refine sr_nil ?_
                show ∃ s', _ ∧ _ ∧ _ ∧ _
                first | exact ⟨⟨k + 1, i2, cur5⟩, ⟨by dsimp only; omega, by dsimp only; omega, by dsimp only; omega, hcl5, (hpq.trans ((Mg.pq hmg3).1.wide (Nat.le_refl _) (by omega))).trans ((hpq5).wide (by omega) (Nat.le_refl _)), (hmg3.2.2.up (show i2 ≤ i2 + 1 by omega)).same fun k q1 q2 => (hpq5).2.2.1 k (.inl q2)⟩, by dsimp only; omega, KeepF.auto, Sub.autoD⟩ | exact ⟨⟨k + 1, i2, W3⟩, ⟨by dsimp only; omega, by dsimp only; omega, by dsimp only; omega, hl3, (hpq.trans ((Mg.pq hmg3).1.wide (Nat.le_refl _) (by omega))).trans ((Pq.refl W3 i2 e).wide (by omega) (Nat.le_refl _)), (hmg3.2.2.up (show i2 ≤ i2 + 1 by omega)).same fun k q1 q2 => (Pq.refl W3 i2 e).2.2.1 k (.inl q2)⟩, by dsimp only; omega, KeepF.auto, Sub.autoD⟩
            · refine sr_nil ?_
              refine aw_kp [0, 1, 2, 7, 8, 95, 96, 97, 98] ?_
              refine aw_false rfl ?_
              refine aw_skip ?_
              show AW _ _ _ _ _ _ _
              refine aw_region ?_
              refine sr_mv ?_
              refine sr_rd (x_cast (u := .int .i64 ((k + 1 : Nat) : Int)) (x_add' rfl rfl (i64w (by omega) (by omega))) (by congr 1)) ?_
              refine sr_as ?_
              refine sr_nil ?_
              show ∃ s', _ ∧ _ ∧ _ ∧ _
              first | exact ⟨⟨k + 1, i2, cur5⟩, ⟨by dsimp only; omega, by dsimp only; omega, by dsimp only; omega, hcl5, (hpq.trans ((Mg.pq hmg3).1.wide (Nat.le_refl _) (by omega))).trans ((hpq5).wide (by omega) (Nat.le_refl _)), (hmg3.2.2.up (show i2 ≤ i2 + 1 by omega)).same fun k q1 q2 => (hpq5).2.2.1 k (.inl q2)⟩, by dsimp only; omega, KeepF.auto, Sub.autoD⟩ | exact ⟨⟨k + 1, i2, W3⟩, ⟨by dsimp only; omega, by dsimp only; omega, by dsimp only; omega, hl3, (hpq.trans ((Mg.pq hmg3).1.wide (Nat.le_refl _) (by omega))).trans ((Pq.refl W3 i2 e).wide (by omega) (Nat.le_refl _)), (hmg3.2.2.up (show i2 ≤ i2 + 1 by omega)).same fun k q1 q2 => (Pq.refl W3 i2 e).2.2.1 k (.inl q2)⟩, by dsimp only; omega, KeepF.auto, Sub.autoD⟩
    · refine dr_l (x_move rfl) ?_
      refine dr_sk ?_
      refine dr_sk ?_
      refine dr_sk ?_
      refine dr_sk ?_
      refine dr_sk ?_
      refine dr_sk ?_
      refine dr_sk ?_
      refine dr_sk ?_
      refine dr_sk ?_
      refine dr_sk ?_
      refine dr_sk ?_
      refine dr_l (x_pick_f rfl rfl rfl) ?_
      refine dr_nil0 ?_
      refine aw_kp [0, 1, 2, 7, 8, 17, 18, 19, 20, 21, 22, 23, 24, 25, 26, 27, 28, 29, 30, 31, 32] ?_
      refine aw_false rfl ?_
      refine aw_exit ?_
      show AW _ _ _ _ _ _ _
      refine aw_seq ?_
      refine aw_seq_region ?_
      refine sr_mv ?_
      refine sr_mv ?_
      refine sr_c (x_eq rfl rfl) (fun h9 => ?_) (fun h9 => absurd (by first | omega | decide) h9)
      refine sr_nil ?_
      refine aw_kp [0, 1, 2, 7, 8, 17, 18, 19, 20, 21, 22, 23, 24, 25, 26, 27, 28, 29, 30, 31, 32, 35, 36, 37] ?_
      refine aw_true rfl ?_
      refine aw_seq_region ?_
      refine sr_as ?_
      refine sr_nil ?_
      refine aw_kp [0, 1, 2, 6, 7, 8, 17, 18, 19, 20, 21, 22, 23, 24, 25, 26, 27, 28, 29, 30, 31, 32, 35, 36, 37] ?_
      refine aw_ret ?_
      show ∃ v H2, ResV _ _ _ _ _ _ v ∧ Sub H2 _ ∧ _
      first | exact ⟨_, _, resV rfl (.cons rfl .nil), Sub.refl _, cur, true, hpq, (fun _ => by (obtain rfl : i2 = e := (by omega)); exact SrI.of hsr2), rfl, rfl⟩ | exact ⟨_, _, resV rfl (.cons rfl .nil), Sub.refl _, cur, false, hpq, (fun q => by cases q), rfl, rfl⟩
  · refine sr_nil ?_
    refine aw_kp [0, 1, 2, 7, 8, 13, 14] ?_
    refine aw_false rfl ?_
    refine aw_exit ?_
    show AW _ _ _ _ _ _ _
    refine aw_seq_region ?_
    refine sr_as ?_
    refine sr_nil ?_
    refine aw_kp [6] ?_
    refine aw_ret ?_
    show ∃ v H2, ResV _ _ _ _ _ _ v ∧ Sub H2 _ ∧ _
    first | exact ⟨_, _, resV rfl (.cons rfl .nil), Sub.refl _, cur, true, hpq, (fun _ => by (obtain rfl : i2 = e := (by omega)); exact SrI.of hsr2), rfl, rfl⟩ | exact ⟨_, _, resV rfl (.cons rfl .nil), Sub.refl _, cur, false, hpq, (fun q => by cases q), rfl, rfl⟩
end
end Go.Proofs.Yteilocpjikmmdaa
