/- The rows of any chart, and how many nodes are had at each column; no condition. -/
import Derived.Test.YtbcajgkaepihfaaGra
import Derived.Test.YtbcajgkaepihfaaRows
import Derived.Test.YtbcajgkaepihfaaCut
namespace Go.Proofs.Ytbcajgkaepihfaa
open Go.Proofs.Ytbcajgkaepihfaa.Sym
open Go.RowKit (Below)
set_option linter.unusedVariables false
set_option linter.unusedSimpArgs false
theorem cells2 : Try.prog.cellsOf 2 = 1 := by kernel_rfl
theorem cells23 : Try.prog.cellsOf 23 = 3 := by kernel_rfl
theorem cells3 : Try.prog.cellsOf 3 = 1 := by kernel_rfl
theorem cells35 : Try.prog.cellsOf 35 = 1 := by kernel_rfl
theorem cells37 : Try.prog.cellsOf 37 = 10 := by kernel_rfl
theorem cl10 : Callable Try.prog 10 := ⟨Try.f10, Try.func10, by kernel_rfl, by kernel_rfl⟩
theorem cl11 : Callable Try.prog 11 := ⟨Try.f11, Try.func11, by kernel_rfl, by kernel_rfl⟩
theorem cl4 : Callable Try.prog 4 := ⟨Try.f4, Try.func4, by kernel_rfl, by kernel_rfl⟩
theorem cl8 : Callable Try.prog 8 := ⟨Try.f8, Try.func8, by kernel_rfl, by kernel_rfl⟩
theorem cl9 : Callable Try.prog 9 := ⟨Try.f9, Try.func9, by kernel_rfl, by kernel_rfl⟩
section
variable {W0 : World}
set_option maxRecDepth 100000 in
theorem read_Job {H : Type} {enc : TypeId × Value → H} {w : World} {base : Nat} {spare : Nat → Bool} {held : Bool} {fuel : Nat} {cs : List Value} {x : DataW H × List MemPlace} (h : DataW.trod enc Try.prog w base spare held fuel 37 cs = some x) : ∃ j : Job, cs = j.cells ∧ j.Wf := by
  obtain ⟨hlen, n, hf⟩ := read_struct Try.underlying37 h
  rw [cells37] at hlen
  obtain ⟨a0, e0, l0, u0⟩ := read_int Try.underlying3 cells3 (hf 0 _ rfl)
  obtain ⟨a1, e1, l1, u1⟩ := read_int Try.underlying3 cells3 (hf 1 _ rfl)
  obtain ⟨a2, e2, l2, u2⟩ := read_int Try.underlying3 cells3 (hf 2 _ rfl)
  obtain ⟨a3, e3, l3, u3⟩ := read_int Try.underlying2 cells2 (hf 3 _ rfl)
  obtain ⟨a4, e4, l4, u4⟩ := read_int Try.underlying3 cells3 (hf 4 _ rfl)
  obtain ⟨a5, e5, l5, u5⟩ := read_int Try.underlying3 cells3 (hf 5 _ rfl)
  obtain ⟨a6, e6, l6, u6⟩ := read_int Try.underlying2 cells2 (hf 6 _ rfl)
  obtain ⟨a7, e7, l7, u7⟩ := read_int Try.underlying2 cells2 (hf 7 _ rfl)
  obtain ⟨a8, e8, l8, u8⟩ := read_int Try.underlying2 cells2 (hf 8 _ rfl)
  obtain ⟨a9, e9, l9, u9⟩ := read_int Try.underlying35 cells35 (hf 9 _ rfl)
  refine ⟨⟨a0, a1, a2, a3, a4, a5, a6, a7, a8, a9⟩, ?_, ⟨l0, u0, l1, u1, l2, u2, l3, u3, l4, u4, l5, u5, l6, u6, l7, u7, l8, u8, l9, u9⟩⟩
  apply List.ext_getElem?
  intro i
  match i with
  | 0 => exact e0
  | 1 => exact e1
  | 2 => exact e2
  | 3 => exact e3
  | 4 => exact e4
  | 5 => exact e5
  | 6 => exact e6
  | 7 => exact e7
  | 8 => exact e8
  | 9 => exact e9
  | i + 10 => rw [List.getElem?_eq_none (by omega), List.getElem?_eq_none (by simp)]
set_option maxRecDepth 100000 in
theorem open_Job {H : Type} {enc : TypeId × Value → H} {w : World} {base b0 : Nat} {spare : Nat → Bool} {held : Bool} {v : Value} {d : DataW H} {p : List MemPlace} {r : Reach} (hv : Value.okWide Try.prog w r b0 37 v) (h : DataW.Trod enc Try.prog w base spare held 37 v d p) : ∃ j : Job, v = j.v ∧ j.Wf := by
  obtain ⟨cs, rfl, _⟩ := Go.WideShapes.okWide_struct Try.underlying37 hv
  obtain ⟨fuel, hf⟩ := h
  obtain ⟨j, h1, h2⟩ := read_Job hf
  refine ⟨j, ?_, h2⟩
  have : cs = j.cells.toArray := by apply Array.toList_inj.1; exact h1
  rw [this]
set_option maxRecDepth 100000 in
theorem read_Chart {H : Type} {enc : TypeId × Value → H} {w : World} {base : Nat} {spare : Nat → Bool} {held : Bool} {fuel : Nat} {cs : List Value} {x : DataW H × List MemPlace} (h : DataW.trod enc Try.prog w base spare held fuel 23 cs = some x) : ∃ j : Chart, cs = j.cells ∧ j.Wf := by
  obtain ⟨hlen, n, hf⟩ := read_struct Try.underlying23 h
  rw [cells23] at hlen
  obtain ⟨a0, e0, l0, u0⟩ := read_int Try.underlying2 cells2 (hf 0 _ rfl)
  obtain ⟨a1, e1, l1, u1⟩ := read_int Try.underlying2 cells2 (hf 1 _ rfl)
  obtain ⟨a2, e2, l2, u2⟩ := read_int Try.underlying3 cells3 (hf 2 _ rfl)
  refine ⟨⟨a0, a1, a2⟩, ?_, ⟨l0, u0, l1, u1, l2, u2⟩⟩
  apply List.ext_getElem?
  intro i
  match i with
  | 0 => exact e0
  | 1 => exact e1
  | 2 => exact e2
  | i + 3 => rw [List.getElem?_eq_none (by omega), List.getElem?_eq_none (by simp)]
set_option maxRecDepth 100000 in
theorem open_Chart {H : Type} {enc : TypeId × Value → H} {w : World} {base b0 : Nat} {spare : Nat → Bool} {held : Bool} {v : Value} {d : DataW H} {p : List MemPlace} {r : Reach} (hv : Value.okWide Try.prog w r b0 23 v) (h : DataW.Trod enc Try.prog w base spare held 23 v d p) : ∃ j : Chart, v = j.v ∧ j.Wf := by
  obtain ⟨cs, rfl, _⟩ := Go.WideShapes.okWide_struct Try.underlying23 hv
  obtain ⟨fuel, hf⟩ := h
  obtain ⟨j, h1, h2⟩ := read_Chart hf
  refine ⟨j, ?_, h2⟩
  have : cs = j.cells.toArray := by apply Array.toList_inj.1; exact h1
  rw [this]
end
section
variable {W0 : World}
set_option maxRecDepth 100000 in
set_option maxHeartbeats 4000000 in
theorem ganttRows_s (c : Chart) (hwc : c.Wf) (n nd0 : Int) (sa : Option Addr) (scap : Nat) (l : List Job) (hs0 : ∀ G, SlV W0 G 10 Job.cells sa scap l) (hwf0 : ∀ j ∈ l, j.Wf) : AC Try.prog W0 3 [c.v, .int .i64 n, .int .i64 nd0, .slice sa l.length scap] [] (fun v _ => v = .bool true) := by
  have hle0 := (hs0 []).le
  have hcb0 := (hs0 []).capb
  refine ac_of Try.func3 rfl rfl rfl ?_
  refine aw_seq_region ?_
  refine sr_new rfl (wtd_none rfl) rfl (x_box rfl rfl) ?_
  intro r0_0 hr0_0 gr0_0
  refine sr_as ?_
  refine sr_nil ?_
  refine aw_kp [1, 2, 3, 4, 8] ?_
  refine aw_seq_region ?_
  refine sr_mv ?_
  refine sr_d rfl (wtd_none rfl) rfl (opS_call rfl rfl rfl rfl cl4 (few_s sa scap l _ (by omega) (by omega))) ?_
  rintro _ _ ⟨rfl, rfl⟩
  obtain ⟨xs, hxs⟩ : ∃ xs, xs = l.take 20 := ⟨_, rfl⟩
  have hs : ∀ G, SlV W0 G 10 Job.cells sa scap xs := fun G => hxs ▸ (hs0 G).take 20
  have hwf : ∀ j ∈ xs, j.Wf := fun j hj => hwf0 j (List.mem_of_mem_take (hxs ▸ hj))
  rw [← hxs]
  have hle := (hs []).le
  have hcb := (hs []).capb
  refine sr_as ?_
  refine sr_nil ?_
  refine aw_kp [1, 2, 3, 4, 8] ?_
  refine aw_join (ι := Unit) (fun _ => True) (fun _ => [(1, .int .i64 n), (2, .int .i64 (min nd0 10)), (3, .slice sa xs.length scap), (4, .pointer (some ⟨r0_0, 0, none⟩)), (8, .bool false)]) (fun _ => [(r0_0, .cells c.cells.toArray 23 (0, 0))]) ?_ ?_
  · refine aw_seq_region ?_
    refine sr_mv ?_
    refine sr_c (x_gt rfl rfl) (fun h1 => ?_) (fun h1 => ?_)
    · refine sr_nil ?_
      refine aw_kp [1, 2, 3, 4, 8, 18] ?_
      refine aw_true rfl ?_
      refine aw_region ?_
      refine sr_as ?_
      refine sr_nil ?_
      show ∃ s', _ ∧ _ ∧ _
      exact ⟨(), trivial, (by first | (rw [Int.min_eq_left (show nd0 ≤ 10 by omega)]; exact KeepF.auto) | (rw [Int.min_eq_right (show 10 ≤ nd0 by omega)]; exact KeepF.auto)), Sub.autoP⟩
    · refine sr_nil ?_
      refine aw_kp [1, 2, 3, 4, 8, 18] ?_
      refine aw_false rfl ?_
      refine aw_skip ?_
      show ∃ s', _ ∧ _ ∧ _
      exact ⟨(), trivial, (by first | (rw [Int.min_eq_left (show nd0 ≤ 10 by omega)]; exact KeepF.auto) | (rw [Int.min_eq_right (show 10 ≤ nd0 by omega)]; exact KeepF.auto)), Sub.autoP⟩
  · intro _ _
    obtain ⟨nd, hnd⟩ : ∃ nd, nd = min nd0 10 := ⟨_, rfl⟩
    rw [← hnd]
    obtain ⟨M, hM⟩ : ∃ M : Nat, M = nd.toNat := ⟨_, rfl⟩
    have hMe : (min (max nd 0) 64).toNat = M := by omega
    refine aw_seq ?_
    refine aw_seq_dr ⟨_, 16, 111, [[], [0], [], [0, 1, 2], [0, 1, 2, 3], [0, 1, 2, 3, 4], [0, 1, 2, 3, 4, 5], [0, 1, 2, 3, 4, 5], [0, 1, 2, 3, 4, 5], [0, 1, 2, 3, 4, 5, 6, 7, 8], [0, 1, 2, 3, 4, 5], [0, 1, 2, 3, 4, 5], [0, 1, 2, 3, 4, 5], [0, 1, 2, 3, 4, 5, 6, 7, 8, 9, 10, 11, 12], [0, 1, 2, 3, 4, 5, 6, 7, 8, 9, 10, 11, 12, 13], [0, 1, 2, 3, 4, 5, 6, 7, 8, 9, 10, 11, 12, 13, 14]], [.mem, .call, .mem, .call, .light, .light, .mem, .light, .light, .call, .mem, .light, .light, .call, .light, .light]⟩ (by kernel_rfl) rfl rfl mix ?_
    refine dr_mem0 rfl rfl (wtd_none rfl) (x_loadN ag23 sz23 rfl (cells_ext mauto Ext.auto) rfl) ?_
    refine dr_callq0 rfl rfl (wtd_none rfl) (opS_F rfl rfl rfl rfl cl5 ((right_s c _))) (⟨_, rfl⟩) ?_
    rintro _ rfl
    refine dr_mem0 rfl rfl (wtd_none rfl) (x_loadN ag23 sz23 rfl (cells_ext mauto Ext.auto) rfl) ?_
    refine dr_callq0 rfl rfl (wtd_none rfl) (opS_F rfl rfl rfl rfl cl6 ((lright_s c _))) (⟨_, rfl⟩) ?_
    rintro _ rfl
    refine dr_l (x_cast (u := .bool false) (x_neb Try.underlying4 rfl rfl) (by simp)) ?_
    refine dr_l (x_move rfl) ?_
    refine dr_mem0 rfl rfl (wtd_yes rfl rfl rfl) (x_loadN ag23 sz23 rfl (cells_ext mauto Ext.auto) rfl) ?_
    refine dr_y (x_move rfl) ?_
    refine dr_y (x_move rfl) ?_
    refine dr_callq0 rfl rfl (wtd_yes rfl rfl rfl) (opS_F rfl rfl rfl rfl cl7 ((row_s c n sa scap xs _ (hs _) hwf))) (⟨_, rfl⟩) ?_
    rintro _ rfl
    refine dr_mem0 rfl rfl (wtd_yes rfl rfl rfl) (x_loadN ag23 sz23 rfl (cells_ext mauto Ext.auto) rfl) ?_
    refine dr_y (x_move rfl) ?_
    refine dr_y (x_move rfl) ?_
    refine dr_callq0 rfl rfl (wtd_yes rfl rfl rfl) (opS_F rfl rfl rfl rfl cl8 ((lrow_s c n sa scap xs _ (hs _) hwf))) (⟨_, rfl⟩) ?_
    rintro _ rfl
    refine dr_cmp rfl rfl (wtd_yes rfl rfl rfl) (x_neB rfl rfl) (fun h2 => absurd h2 (by exact fun h => h rfl)) (fun h2 => ?_)
    refine dr_l (x_pick_f rfl rfl rfl) ?_
    refine dr_nil0 ?_
    refine aw_kp [2, 3, 4, 8, 34] ?_
    refine aw_false rfl ?_
    refine aw_skip ?_
    show AW _ _ _ _ _ _ _
    refine aw_seq_region ?_
    refine sr_as ?_
    refine sr_nil ?_
    refine aw_kp [2, 3, 4, 8, 9] ?_
    refine aw_seq ?_
    refine aw_seq_region ?_
    refine sr_as ?_
    refine sr_nil ?_
    refine aw_kp [2, 3, 4, 8, 9, 10] ?_
    refine aw_block ?_
    refine aw_loop (ι := Nat) (fun k => k ≤ M) (fun k => [(2, .int .i64 nd), (3, .slice sa xs.length scap), (4, .pointer (some ⟨r0_0, 0, none⟩)), (8, .bool false), (9, .string (bs (rowsB c xs k))), (10, .int .i64 k)]) (fun _ => [(r0_0, .cells c.cells.toArray 23 (0, 0))]) (fun k => M - k) 0 (Nat.zero_le _) KeepF.auto Sub.autoP ?_
    intro k hk
    refine aw_seq ?_
    refine aw_seq_region ?_
    refine sr_mv ?_
    refine sr_mv ?_
    refine sr_c (x_lt rfl rfl) (fun h3 => ?_) (fun h3 => ?_)
    · refine sr_nil ?_
      refine aw_kp [2, 3, 4, 8, 9, 10, 35, 36, 37] ?_
      refine aw_true rfl ?_
      refine aw_skip ?_
      show AW _ _ _ _ _ _ _
      refine aw_seq ?_
      refine aw_block ?_
      refine aw_region ?_
      refine sr_mv ?_
      refine sr_rd (x_loadN ag23 sz23 rfl (cells_ext mauto Ext.auto) rfl) ?_
      refine sr_mv ?_
      refine sr_mv ?_
      refine sr_d rfl (wtd_none rfl) rfl (opS_call rfl rfl rfl rfl cl8 (lrow_s c (k) sa scap xs _ (hs _) hwf)) ?_
      rintro _ H9 ⟨rfl, rfl⟩
      have hrl := rowS_len (c := c) (n := k) (xs := xs)
      have hll := rowsB_len (c := c) (xs := xs) k
      refine sr_rd (x_catB rfl rfl (by omega)) ?_
      refine sr_rd (x_catB rfl rfl (by simp only [List.length_append, List.length_cons, List.length_nil]; omega)) ?_
      refine sr_as ?_
      refine sr_nil ?_
      show AW _ _ _ _ _ _ _
      refine aw_region ?_
      refine sr_mv ?_
      refine sr_rd (x_add' rfl rfl (i64w (by omega) (by omega))) ?_
      refine sr_as ?_
      refine sr_nil ?_
      show ∃ s', _ ∧ _ ∧ _ ∧ _
      exact ⟨k + 1, by omega, by omega, (by rw [rowsB_snoc]; exact KeepF.auto), Sub.autoP⟩
    · refine sr_nil ?_
      refine aw_kp [2, 3, 4, 8, 9, 10, 35, 36, 37] ?_
      refine aw_false rfl ?_
      refine aw_exit ?_
      show AW _ _ _ _ _ _ _
      refine aw_seq_region ?_
      have ek : k = M := by omega
      refine sr_rd (x_loadN ag23 sz23 rfl (cells_ext mauto Ext.auto) rfl) ?_
      refine sr_mv ?_
      refine sr_mv ?_
      refine sr_d rfl (wtd_none rfl) rfl (opS_call rfl rfl rfl rfl cl9 (load_s c nd sa scap xs _ (hs _) hwf)) ?_
      rintro _ _ ⟨a2, c2, E2, rfl, V, rfl⟩
      rw [hMe] at V ⊢
      refine sr_as ?_
      refine sr_nil ?_
      refine aw_kp [2, 3, 4, 8, 9, 11] ?_
      refine aw_seq ?_
      refine aw_seq_region ?_
      refine sr_rd (x_loadN ag23 sz23 rfl (cells_ext mauto Ext.auto) rfl) ?_
      refine sr_mv ?_
      refine sr_mv ?_
      refine sr_d rfl (wtd_none rfl) rfl (opS_call rfl rfl rfl rfl cl10 (rows_s c nd sa scap xs _ hs hwf)) ?_
      rintro _ H9 ⟨rfl, rfl⟩
      rw [hMe]
      refine sr_mv ?_
      refine sr_c (x_neB rfl rfl) (fun h4 => absurd h4 (by rw [show k = M by omega]; exact fun h => h rfl)) (fun h4 => ?_)
      refine sr_nil ?_
      refine aw_kp [2, 3, 4, 8, 11, 56] ?_
      refine aw_false rfl ?_
      refine aw_skip ?_
      show AW _ _ _ _ _ _ _
      refine aw_seq ?_
      refine aw_seq_region ?_
      refine sr_rd (x_loadN ag23 sz23 rfl (cells_ext mauto Ext.auto) rfl) ?_
      refine sr_d rfl (wtd_none rfl) rfl (opS_call rfl rfl rfl rfl cl6 (lright_s c _)) ?_
      rintro _ H9 ⟨rfl, rfl⟩
      by_cases hR : c.Right
      · rw [decide_eq_true hR]
        have hR2 := hR
        obtain ⟨q1, q2, q3, q4, q5, q6⟩ := hR2
        have hlen : (loadL c M xs).length = c.cols.toNat := by rw [loadL_y hR, loadB_len]
        have hsV := V.slv' (W0 := W0) (xs := (loadL c M xs)) (fun _ => rfl) rfl (Sub.refl _)
        have hleV := hsV.le
        have hcbV := hsV.capb
        refine sr_rd (x_not rfl) ?_
        refine sr_nil ?_
        refine aw_kp [2, 3, 4, 8, 11, 59] ?_
        refine aw_false rfl ?_
        refine aw_skip ?_
        show AW _ _ _ _ _ _ _
        refine aw_seq ?_
        refine aw_seq_region ?_
        refine sr_mv ?_
        refine sr_rd (x_lenSlice Try.underlying29 rfl) ?_
        refine sr_rd (x_fieldAddr fd23_2 rfl) ?_
        refine sr_rd (x_load ag3 rfl (cells_ext mauto Ext.auto)) ?_
        refine sr_c (x_ne rfl rfl) (fun h5 => absurd h5 (by rw [hlen]; omega)) (fun h5 => ?_)
        refine sr_nil ?_
        refine aw_kp [2, 3, 4, 8, 11, 70] ?_
        refine aw_false rfl ?_
        refine aw_skip ?_
        show AW _ _ _ _ _ _ _
        refine aw_seq ?_
        refine aw_seq_region ?_
        refine sr_as ?_
        refine sr_nil ?_
        refine aw_kp [2, 3, 4, 8, 11, 12] ?_
        refine aw_block ?_
        refine aw_loop (ι := Nat) (fun k => k ≤ c.cols.toNat) (fun k => [(2, .int .i64 nd), (3, .slice sa xs.length scap), (4, .pointer (some ⟨r0_0, 0, none⟩)), (8, .bool false), (11, .slice a2 (loadL c M xs).length c2), (12, .int .i64 k)]) (fun _ => E2 ++ [(r0_0, .cells c.cells.toArray 23 (0, 0))]) (fun k => c.cols.toNat - k) 0 (Nat.zero_le _) KeepF.auto Sub.autoP ?_
        intro k hk
        refine aw_seq ?_
        refine aw_seq_region ?_
        refine sr_mv ?_
        refine sr_rd (x_fieldAddr fd23_2 rfl) ?_
        refine sr_rd (x_load ag3 rfl (cells_ext mauto Ext.auto)) ?_
        refine sr_c (x_lt rfl rfl) (fun h6 => ?_) (fun h6 => ?_)
        · refine sr_nil ?_
          refine aw_kp [2, 3, 4, 8, 11, 12, 71, 72, 73, 74] ?_
          refine aw_true rfl ?_
          refine aw_skip ?_
          show AW _ _ _ _ _ _ _
          refine aw_seq ?_
          refine aw_block ?_
          refine aw_seq_region ?_
          refine sr_as ?_
          refine sr_nil ?_
          refine aw_kp [2, 3, 4, 8, 11, 12, 13, 71, 72, 73, 74] ?_
          refine aw_seq ?_
          refine aw_seq_region ?_
          refine sr_as ?_
          refine sr_nil ?_
          refine aw_kp [2, 3, 4, 8, 11, 12, 13, 14, 71, 72, 73, 74] ?_
          refine aw_block ?_
          refine aw_loop (ι := Nat) (fun i => i ≤ M) (fun i => [(2, .int .i64 nd), (3, .slice sa xs.length scap), (4, .pointer (some ⟨r0_0, 0, none⟩)), (8, .bool false), (11, .slice a2 (loadL c M xs).length c2), (12, .int .i64 k), (13, .int .i64 (cntN (c.from_ + (k : Int) * c.column) xs i : Nat)), (14, .int .i64 i)]) (fun _ => E2 ++ [(r0_0, .cells c.cells.toArray 23 (0, 0))]) (fun i => M - i) 0 (Nat.zero_le _) KeepF.auto Sub.autoP ?_
          intro i hi
          have hcn := cntN_le (t := c.from_ + (k : Int) * c.column) (xs := xs) i
          refine aw_seq ?_
          refine aw_seq_region ?_
          refine sr_mv ?_
          refine sr_mv ?_
          refine sr_c (x_lt rfl rfl) (fun h7 => ?_) (fun h7 => ?_)
          · refine sr_nil ?_
            refine aw_kp [2, 3, 4, 8, 11, 12, 13, 14, 77, 78, 79] ?_
            refine aw_true rfl ?_
            refine aw_skip ?_
            show AW _ _ _ _ _ _ _
            refine aw_seq ?_
            refine aw_block ?_
            refine aw_seq_region ?_
            have hrow := rowS_get (xs := xs) (n := (i : Int)) hR (show k < c.cols.toNat by omega)
            refine sr_rd (x_loadN ag23 sz23 rfl (cells_ext mauto Ext.auto) rfl) ?_
            refine sr_mv ?_
            refine sr_mv ?_
            refine sr_d rfl (wtd_none rfl) rfl (opS_call rfl rfl rfl rfl cl8 (lrow_s c (i) sa scap xs _ (hs _) hwf)) ?_
            rintro _ H9 ⟨rfl, rfl⟩
            refine sr_mv ?_
            refine sr_rd (x_indexB k Try.underlying9 rfl rfl (by first | rfl | omega) hrow) ?_
            refine sr_c (x_ne rfl rfl) (fun h8 => ?_) (fun h8 => ?_)
            · refine sr_nil ?_
              refine aw_kp [2, 3, 4, 8, 11, 12, 13, 14, 77, 78, 79, 82, 83, 84, 85, 86, 87, 88] ?_
              refine aw_true rfl ?_
              refine aw_region ?_
              refine sr_mv ?_
              refine sr_rd (x_add' rfl rfl (i64w (by omega) (by omega))) ?_
              refine sr_as ?_
              refine sr_nil ?_
              show AW _ _ _ _ _ _ _
              refine aw_region ?_
              refine sr_mv ?_
              refine sr_rd (x_add' rfl rfl (i64w (by omega) (by omega))) ?_
              refine sr_as ?_
              refine sr_nil ?_
              show ∃ s', _ ∧ _ ∧ _ ∧ _
              first | exact ⟨i + 1, by omega, by omega, (by rw [cntN_y (cell_any.1 (by assumption))]; exact KeepF.auto), Sub.autoD⟩ | exact ⟨i + 1, by omega, by omega, (by rw [cntN_n (fun q => absurd (cell_any.2 q) (by assumption))]; exact KeepF.auto), Sub.autoD⟩
            · refine sr_nil ?_
              refine aw_kp [2, 3, 4, 8, 11, 12, 13, 14, 77, 78, 79, 82, 83, 84, 85, 86, 87, 88] ?_
              refine aw_false rfl ?_
              refine aw_skip ?_
              show AW _ _ _ _ _ _ _
              refine aw_region ?_
              refine sr_mv ?_
              refine sr_rd (x_add' rfl rfl (i64w (by omega) (by omega))) ?_
              refine sr_as ?_
              refine sr_nil ?_
              show ∃ s', _ ∧ _ ∧ _ ∧ _
              first | exact ⟨i + 1, by omega, by omega, (by rw [cntN_y (cell_any.1 (by assumption))]; exact KeepF.auto), Sub.autoD⟩ | exact ⟨i + 1, by omega, by omega, (by rw [cntN_n (fun q => absurd (cell_any.2 q) (by assumption))]; exact KeepF.auto), Sub.autoD⟩
          · refine sr_nil ?_
            refine aw_kp [2, 3, 4, 8, 11, 12, 13, 14, 77, 78, 79] ?_
            refine aw_false rfl ?_
            refine aw_exit ?_
            show AW _ _ _ _ _ _ _
            refine aw_seq_dr ⟨_, 19, 111, [[], [], [0, 1], [0, 1, 2], [], [0, 1, 2, 3, 4], [0, 1, 2, 3, 4, 5], [0, 1, 2, 3, 4, 5, 6], [0, 1, 2, 3, 4, 5, 6], [0, 1, 2, 3, 4, 5, 6, 7, 8], [0, 1, 2, 3, 4, 5, 6], [0, 1, 2, 3, 4, 5, 6, 10], [0, 1, 2, 3, 4, 5, 6], [0, 1, 2, 3, 4, 5, 6], [0, 1, 2, 3, 4, 5, 6, 13], [0, 1, 2, 3, 4, 5, 6, 12, 13, 14], [0, 1, 2, 3, 4, 5, 6, 10, 11, 12, 13, 14, 15], [0, 1, 2, 3, 4, 5, 6, 7, 8, 9, 10, 11, 12, 13, 14, 15, 16], [0, 1, 2, 3, 4, 5, 6, 7, 8, 9, 10, 11, 12, 13, 14, 15, 16, 17]], [.light, .light, .light, .mem, .light, .light, .light, .mem, .light, .call, .light, .mem, .light, .light, .mem, .light, .light, .light, .light]⟩ (by kernel_rfl) rfl rfl mix ?_
            obtain ⟨x, hx⟩ := get_ex (show k < (loadL c M xs).length by omega)
            obtain ⟨bx, ox, hax, hcx⟩ := hsV.at_ k _ (loadL_get (N := M) (xs := xs) hR (show k < c.cols.toNat by omega))
            have htb := time_bd hR (k := k) (by omega) (by omega)
            refine dr_l (x_move rfl) ?_
            refine dr_l (x_move rfl) ?_
            refine dr_l (x_indexAddrN k Try.underlying29 sz3 rfl hax rfl (by omega) (by omega)) ?_
            refine dr_mem0 rfl rfl (wtd_none rfl) (x_load ag3 rfl (Cells.mono hcx Sub.autoE)) ?_
            refine dr_l (x_move rfl) ?_
            refine dr_cmp rfl rfl (wtd_none rfl) (x_ne rfl rfl) (fun h9 => absurd h9 (by rw [show i = M by omega]; exact fun h => h rfl)) (fun h9 => ?_)
            refine dr_l (x_move rfl) ?_
            refine dr_mem0 rfl rfl (wtd_yes rfl rfl rfl) (x_loadN ag23 sz23 rfl (cells_ext mauto Ext.auto) rfl) ?_
            refine dr_y (x_move rfl) ?_
            refine dr_callq0 rfl rfl (wtd_yes rfl rfl rfl) (opS_F rfl rfl rfl rfl cl12 ((at_s c k _ hR (by omega)))) (⟨_, rfl⟩) ?_
            rintro _ rfl
            refine dr_y (x_fieldAddr fd23_0 rfl) ?_
            refine dr_mem0 rfl rfl (wtd_yes rfl rfl rfl) (x_load ag2 rfl (cells_ext mauto Ext.auto)) ?_
            refine dr_y (x_move rfl) ?_
            refine dr_y (x_fieldAddr fd23_1 rfl) ?_
            refine dr_mem0 rfl rfl (wtd_yes rfl rfl rfl) (x_load ag2 rfl (cells_ext mauto Ext.auto)) ?_
            refine dr_y (x_mul' rfl rfl (i64w (by omega) (by omega))) ?_
            refine dr_y (x_add' rfl rfl (i64w (by omega) (by omega))) ?_
            refine dr_cmp rfl rfl (wtd_yes rfl rfl rfl) (x_ne rfl rfl) (fun h10 => absurd h10 (by exact fun h => h rfl)) (fun h10 => ?_)
            refine dr_l (x_pick_f rfl rfl rfl) ?_
            refine dr_nil0 ?_
            refine aw_kp [2, 3, 4, 8, 11, 12, 13, 14, 77, 78, 79, 91, 92, 93, 94, 95, 96, 97, 98, 99, 100, 101, 102, 103, 104, 105, 106, 107, 108, 109] ?_
            refine aw_false rfl ?_
            refine aw_skip ?_
            show AW _ _ _ _ _ _ _
            refine aw_region ?_
            refine sr_mv ?_
            refine sr_rd (x_add' rfl rfl (i64w (by omega) (by omega))) ?_
            refine sr_as ?_
            refine sr_nil ?_
            show ∃ s', _ ∧ _ ∧ _ ∧ _
            exact ⟨k + 1, by omega, by omega, KeepF.auto, Sub.autoP⟩
        · refine sr_nil ?_
          refine aw_kp [2, 3, 4, 8, 11, 12, 71, 72, 73, 74] ?_
          refine aw_false rfl ?_
          refine aw_exit ?_
          show AW _ _ _ _ _ _ _
          refine aw_seq_region ?_
          refine sr_d rfl (wtd_none rfl) rfl (opS_call rfl rfl rfl rfl cl11 (awake30_s _)) ?_
          rintro _ H9 ⟨rfl, rfl⟩
          refine sr_as ?_
          refine sr_nil ?_
          refine aw_kp [8] ?_
          refine aw_ret ?_
          show ∃ v H2, ResV _ _ _ _ _ _ v ∧ Sub H2 _ ∧ _
          exact ⟨_, [], resV rfl (.cons rfl .nil), (Sub.nil _), rfl⟩
      · rw [decide_eq_false hR]
        have hlen : (loadL c M xs).length = 0 := by rw [loadL_n hR]; rfl
        refine sr_rd (x_not rfl) ?_
        refine sr_nil ?_
        refine aw_kp [2, 3, 4, 8, 11, 59] ?_
        refine aw_true rfl ?_
        refine aw_seq_region ?_
        refine sr_mv ?_
        refine sr_rd (x_lenSlice Try.underlying29 rfl) ?_
        refine sr_c (x_eq rfl rfl) (fun h11 => ?_) (fun h11 => absurd (by rw [hlen]; rfl) h11)
        refine sr_mv ?_
        refine sr_d rfl (wtd_yes rfl rfl rfl) rfl (opS_call rfl rfl rfl rfl cl11 (awake30_s _)) ?_
        rintro _ H9 ⟨rfl, rfl⟩
        refine sr_rd (x_pick_t rfl rfl rfl) ?_
        refine sr_as ?_
        refine sr_nil ?_
        refine aw_kp [2, 3, 4, 8, 11] ?_
        refine aw_ret ?_
        show ∃ v H2, ResV _ _ _ _ _ _ v ∧ Sub H2 _ ∧ _
        exact ⟨_, [], resV rfl (.cons rfl .nil), (Sub.nil _), rfl⟩
end
namespace GanttRowsRow
open Go.ChangeShapes Go.WideShapes Go.ChangeAt Go.RowKit
theorem own : ownKnob Try.prog.godebug = none := by kernel_rfl
theorem laid : laidOutB Try.prog = true := by kernel_rfl
set_option maxRecDepth 100000 in
theorem lifted (os : Os) (started : os.Started) (H : Type) (enc : TypeId × Value → H) :
    ReturnsInHanded {} Try.checked os 3 .any (Rows.ganttRowsSpec.pre6 enc Try.prog Try.f3 Rows.ganttRowsRow.domain false) (Rows.ganttRowsSpec.post enc Try.prog Try.f3 false true false false) := by
  refine law_lifted (C := Try.checked) (tb := 4) own started (by kernel_rfl) Try.func3 (ChangeSpec.witness6 (enc := enc) (C := Try.checked) false ⟨#[], #[.agg #[.int .i64 0, .int .i64 0, .int .i64 0], .int .i64 0, .int .i64 0, .slice none 0 0], []⟩ 8 (by kernel_rfl) (by kernel_rfl) (by kernel_rfl) (by kernel_rfl)) rfl Try.underlying4 rfl laid (by kernel_rfl) ?_ ?_
  · intro ds h
    match ds, h with
    | [a0, a1, a2, a3], _ => rfl
  · intro W base args ds ps hval hA hlt hsz
    have hA' : DataW.TrodAll enc Try.prog W 0 (fun _ => true) true [23, 3, 3, 24] args ds ps := hA
    clear hA
    obtain ⟨v0, vs0, d0, ds0, p0, q0, rfl, rfl, rfl, h0, r0⟩ := trodAll_cons hA'
    obtain ⟨v1, vs1, d1, ds1, p1, q1, rfl, rfl, rfl, h1, r1⟩ := trodAll_cons r0
    obtain ⟨v2, vs2, d2, ds2, p2, q2, rfl, rfl, rfl, h2, r2⟩ := trodAll_cons r1
    obtain ⟨v3, vs3, d3, ds3, p3, q3, rfl, rfl, rfl, h3, r3⟩ := trodAll_cons r2
    obtain ⟨rfl, rfl, rfl⟩ := trodAll_nil r3
    obtain ⟨c, rfl, hc⟩ := open_Chart (hval 0 23 v0 rfl rfl) h0
    obtain ⟨n, rfl, _⟩ := opn_int Try.underlying3 (hval 1 3 v1 rfl rfl) h1
    obtain ⟨nd, rfl, _⟩ := opn_int Try.underlying3 (hval 2 3 v2 rfl rfl) h2
    obtain ⟨a, cap, xs, rfl, hs, hw⟩ := opn_slice Try.underlying24 cells37 (by decide) (fun fuel cs x h => read_Job h) (hval 3 24 v3 rfl rfl) h3
    exact ganttRows_s c hc n nd a cap xs hs hw
theorem joined : joinedFacts Try.prog 3 Try.f3 Rows.ganttRowsSpec Rows.ganttRowsRow = true := by
  unfold joinedFacts
  rw [cutMay, cutLif, cutMk]
  kernel_rfl
theorem over : Rows.ganttRowsRow.holds Try.pinned (OpenSpec.ofChange Rows.ganttRowsSpec) :=
  OpenClaim.holds_of_wide 3 Try.f3 rfl rfl rfl rfl rfl rfl rfl ⟨rfl, rfl, rfl, rfl, rfl⟩ rfl rfl rfl rfl rfl (by kernel_rfl) Try.func3 joined
    (of_decide_eq_true (by kernel_rfl)) (by unfold Func.isWrapper; first | (rw [if_pos (by decide +kernel)]; kernel_rfl) | (rw [if_neg (by decide +kernel)]; exact ⟨rfl, rfl⟩))
    (fun os started H enc _ => lifted os started H enc)
theorem proved : Rows.GanttRowsSaid := over
#print axioms proved
end GanttRowsRow
end Go.Proofs.Ytbcajgkaepihfaa
