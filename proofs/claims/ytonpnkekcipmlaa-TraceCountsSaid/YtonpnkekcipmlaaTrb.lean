/- Traces: Swaps, Lines, the example. -/
import Derived.Test.YtonpnkekcipmlaaTra
namespace Go.Proofs.Ytonpnkekcipmlaa
open Go.Proofs.Ytonpnkekcipmlaa.Sym
open Go.RowKit (Below)
set_option linter.unusedVariables false
set_option linter.unusedSimpArgs false
theorem mset_len {k : IntKind} {a : Int} {v : Value} {clk : Nat} : ∀ {es : List MapEntry}, (mset k a v clk es).length ≤ es.length + 1
  | [] => by simp [mset]
  | e :: es => by
    have := mset_len (k := k) (a := a) (v := v) (clk := clk) (es := es)
    unfold mset
    split
    · simp
    · simp; exact this
theorem ag79 : aggOf Try.prog 79 = some true := by kernel_rfl
theorem by3 : bytesOf Try.prog 3 = some 8 := by kernel_rfl
theorem by79 : bytesOf Try.prog 79 = some 48 := by kernel_rfl
theorem cl27 : Callable Try.prog 27 := ⟨Try.f27, Try.func27, by kernel_rfl, by kernel_rfl⟩
theorem cl28 : Callable Try.prog 28 := ⟨Try.f28, Try.func28, by kernel_rfl, by kernel_rfl⟩
theorem cl42 : Callable Try.prog 42 := ⟨Try.f42, Try.func42, by kernel_rfl, by kernel_rfl⟩
theorem cl43 : Callable Try.prog 43 := ⟨Try.f43, Try.func43, by kernel_rfl, by kernel_rfl⟩
theorem cl44 : Callable Try.prog 44 := ⟨Try.f44, Try.func44, by kernel_rfl, by kernel_rfl⟩
theorem cl45 : Callable Try.prog 45 := ⟨Try.f45, Try.func45, by kernel_rfl, by kernel_rfl⟩
theorem cl51 : Callable Try.prog 51 := ⟨Try.f51, Try.func51, by kernel_rfl, by kernel_rfl⟩
theorem cl63 : Callable Try.prog 63 := ⟨Try.f63, Try.func63, by kernel_rfl, by kernel_rfl⟩
theorem cl64 : Callable Try.prog 64 := ⟨Try.f64, Try.func64, by kernel_rfl, by kernel_rfl⟩
theorem cl71 : Callable Try.prog 71 := ⟨Try.f71, Try.func71, by kernel_rfl, by kernel_rfl⟩
theorem cl73 : Callable Try.prog 73 := ⟨Try.f73, Try.func73, by kernel_rfl, by kernel_rfl⟩
theorem cl9 : Callable Try.prog 9 := ⟨Try.f9, Try.func9, by kernel_rfl, by kernel_rfl⟩
theorem fd27_0 : fldOf Try.prog 27 0 = some (0, 3, 1) := by kernel_rfl
theorem fd34_3 : fldOf Try.prog 34 3 = some (3, 27, 9) := by kernel_rfl
theorem fd79_0 : fldOf Try.prog 79 0 = some (0, 3, 1) := by kernel_rfl
theorem fd79_3 : fldOf Try.prog 79 3 = some (3, 3, 1) := by kernel_rfl
theorem fl34 : flds Try.prog 34 = some [(0, 1), (1, 1), (2, 1), (3, 9), (12, 9), (21, 2), (23, 1)] := by kernel_rfl
theorem fl79 : flds Try.prog 79 = some [(0, 1), (1, 1), (2, 1), (3, 1), (4, 1), (5, 1)] := by kernel_rfl
theorem sz79 : szOf Try.prog 79 = some 6 := by kernel_rfl
theorem zr79 : zeroOf Try.prog 79 = some (.agg #[.int .i64 0, .int .i64 0, .int .i64 0, .int .i64 0, .int .i64 0, .int .i64 0]) := by kernel_rfl
section
variable {W0 : World}
set_option maxRecDepth 100000 in
set_option maxHeartbeats 2000000 in
theorem tswaps_s (a : Option Addr) (cap : Nat) (L : List Ev) (H : SHeap) (hs : SlV W0 H 24 Ev.cells a cap L) (hl : L.length ≤ 50) (hH : SwH L) : AC Try.prog W0 27 [.slice a L.length cap] H (fun v H' => v = .int .i64 (swL L).n ∧ H' = H) := by
  have hle := hs.le
  have hcb := hs.capb
  refine ac_of Try.func27 rfl rfl rfl ?_
  refine aw_seq_region ?_
  refine sr_as ?_
  refine sr_nil ?_
  refine aw_kp [0, 2] ?_
  refine aw_seq_region ?_
  refine sr_as ?_
  refine sr_nil ?_
  refine aw_kp [0, 2, 3] ?_
  refine aw_seq_region ?_
  refine sr_new rfl (wtd_none rfl) rfl (x_makeMap) ?_
  intro r2_0 hr2_0 gr2_0
  refine sr_as ?_
  refine sr_nil ?_
  refine aw_kp [0, 2, 3, 4] ?_
  refine aw_seq_region ?_
  refine sr_as ?_
  refine sr_nil ?_
  refine aw_kp [0, 2, 3, 4, 5] ?_
  refine aw_seq ?_
  refine aw_seq_region ?_
  refine sr_mv ?_
  refine sr_rd (x_lenSlice Try.underlying22 rfl) ?_
  refine sr_mv ?_
  refine sr_nil ?_
  refine aw_kp [2, 3, 4, 5, 13, 14, 15] ?_
  refine aw_block ?_
  refine aw_loop (ι := SwG) (fun s => s.k ≤ L.length ∧ (⟨s.T, s.es, s.clk, s.n⟩ : SwS) = swL (L.take s.k) ∧ IntKeys .i64 s.es ∧ s.es.length ≤ s.k ∧ s.T.length ≤ s.k ∧ (0 ≤ s.n ∧ s.n ≤ 50 * s.k) ∧ OwnVec 1 3 (.slice s.a s.T.length s.c) s.T.length (s.T.flatMap intC) s.E) (fun s => [(3, .slice s.a s.T.length s.c), (4, .map (some r2_0)), (5, .int .i64 s.n), (13, .slice a L.length cap), (14, .int .i64 L.length), (15, .int .i64 s.k)]) (fun s => (r2_0, .map (s.es).toArray (s.clk)) :: (s.E ++ H)) (fun s => L.length - s.k) ⟨0, [], none, 0, [], [], 0, 0⟩ (⟨Nat.zero_le _, rfl, .nil, Nat.le_refl _, Nat.le_refl _, ⟨by decide, by decide⟩, .nil⟩) KeepF.auto Sub.autoP ?_
  intro s hs9
  obtain ⟨k, T, a1, c1, E1, es, clk, n⟩ := s
  dsimp only at hs9 ⊢
  obtain ⟨hk, hw, hik, hel, hTl, hn, V1⟩ := hs9
  refine aw_seq_region ?_
  refine sr_c (x_lt rfl rfl) (fun h1 => ?_) (fun h1 => ?_)
  · refine sr_nil ?_
    refine aw_kp [3, 4, 5, 13, 14, 15, 16] ?_
    refine aw_seq ?_
    refine aw_true rfl ?_
    refine aw_skip ?_
    show AW _ _ _ _ _ _ _
    refine aw_seq ?_
    refine aw_block ?_
    refine aw_seq_region ?_
    obtain ⟨e, he⟩ := get_ex (show k < L.length by omega)
    obtain ⟨be, oe, hae, hce⟩ := hs.at_ _ _ he
    have hHk := hH k e he
    rw [← hw] at hHk
    dsimp only at hHk
    refine sr_rd (x_indexAddrN (k) Try.underlying22 sz34 rfl hae rfl (by omega) (by omega)) ?_
    refine sr_rd (x_loadN ag34 sz34 rfl (Cells.mono hce Sub.autoR) rfl) ?_
    refine sr_new rfl (wtd_none rfl) rfl (x_alloc zr34 rfl) ?_
    intro r6_2 hr6_2 gr6_2
    refine sr_x0 rfl (wtd_none rfl) (x_store sz34 rfl rfl rfl rfl rfl Repl.auto Spl.auto) ?_
    refine sr_nil ?_
    refine aw_kp [3, 4, 5, 7, 13, 14, 15, 16, 17, 18] ?_
    refine aw_seq ?_
    refine aw_seq_region ?_
    refine sr_rd (x_fieldAddr fd34_1 rfl) ?_
    refine sr_rd (x_load ag3 rfl (cells_ext mauto Ext.auto)) ?_
    refine sr_c (x_eq rfl rfl) (fun h2 => ?_) (fun h2 => ?_)
    · refine sr_nil ?_
      refine aw_kp [3, 4, 5, 7, 13, 14, 15, 16, 17, 18, 19, 20, 21] ?_
      refine aw_true rfl ?_
      refine aw_region ?_
      refine sr_mv ?_
      refine sr_rd (x_fieldAddr fd34_2 rfl) ?_
      refine sr_rd (x_load ag3 rfl (cells_ext mauto Ext.auto)) ?_
      refine sr_mv ?_
      refine sr_rd (x_lenMap Try.underlying76 rfl (map_at mauto)) ?_
      refine sr_x0 rfl (wtd_none rfl) (x_mapUpdate Try.underlying76 Try.underlying3 rfl rfl rfl hik Repl.auto) ?_
      refine sr_nil ?_
      show AW _ _ _ _ _ _ _
      refine aw_seq ?_
      refine aw_seq_region ?_
      refine sr_rd (x_fieldAddr fd34_1 rfl) ?_
      refine sr_rd (x_load ag3 rfl (cells_ext mauto Ext.auto)) ?_
      refine sr_c (x_ne rfl rfl) (fun h3 => ?_) (fun h3 => absurd (by first | omega | decide) h3)
      refine sr_nil ?_
      refine aw_kp [3, 4, 5, 7, 13, 14, 15, 16, 17, 18, 19, 20, 21, 22, 23, 24, 25, 26, 27, 28, 29] ?_
      refine aw_true rfl ?_
      refine aw_exit ?_
      show AW _ _ _ _ _ _ _
      refine aw_region ?_
      refine sr_rd (x_add' rfl rfl (i64w (by omega) (by omega))) ?_
      refine sr_mv ?_
      refine sr_nil ?_
      show ∃ s', _ ∧ _ ∧ _ ∧ _
      first | exact ⟨⟨k + 1, T, a1, c1, E1, mset .i64 e.task (.int .i64 es.length) clk es, mclk e.task es clk, n⟩, ⟨by dsimp only; omega, (by dsimp only; rw [swL_take he, ← hw]; unfold spF; rw [if_pos (by omega)]), hik.set, (by dsimp only; have := mset_len (k := .i64) (a := e.task) (v := .int .i64 es.length) (clk := clk) (es := es); omega), by dsimp only; omega, (by dsimp only; omega), V1⟩, by dsimp only; omega, KeepF.auto, Sub.autoD⟩ | exact ⟨⟨k + 1, T ++ [p], a54, cap54, E54, es, clk, n2⟩, ⟨by dsimp only; omega, (by dsimp only; rw [swL_take he, ← hw]; unfold spF; rw [if_neg (by omega)]; dsimp only; rw [hp0]; dsimp only; rw [hn2]), hik, by dsimp only; omega, (by dsimp only; rw [List.length_append]; dsimp only [List.length_cons, List.length_nil]; omega), (by dsimp only; omega), OwnVec.snocS hV54⟩, by dsimp only; omega, (by rw [List.length_append]; exact KeepF.auto), Sub.autoD⟩
    · refine sr_nil ?_
      refine aw_kp [3, 4, 5, 7, 13, 14, 15, 16, 17, 18, 19, 20, 21] ?_
      refine aw_false rfl ?_
      refine aw_skip ?_
      show AW _ _ _ _ _ _ _
      refine aw_seq ?_
      refine aw_seq_region ?_
      refine sr_rd (x_fieldAddr fd34_1 rfl) ?_
      refine sr_rd (x_load ag3 rfl (cells_ext mauto Ext.auto)) ?_
      refine sr_c (x_ne rfl rfl) (fun h4 => absurd h4 (by first | omega | decide)) (fun h4 => ?_)
      refine sr_nil ?_
      refine aw_kp [3, 4, 5, 7, 13, 14, 15, 16, 17, 18, 19, 20, 21, 27, 28, 29] ?_
      refine aw_false rfl ?_
      refine aw_skip ?_
      show AW _ _ _ _ _ _ _
      refine aw_seq_region ?_
      obtain ⟨p, hp0, hp1, hp2⟩ : ∃ p : Int, mget e.task es = some (.int .i64 p) ∧ 0 ≤ p ∧ p ≤ 1000 := by rcases hHk with q | q; (exfalso; omega); (exact q.2)
      have hs1 := V1.slv' (W0 := W0) (fun _ => rfl) rfl (Sub.refl _)
      have hle1 := hs1.le
      have hcb1 := hs1.capb
      refine sr_mv ?_
      refine sr_rd (x_fieldAddr fd34_2 rfl) ?_
      refine sr_rd (x_load ag3 rfl (cells_ext mauto Ext.auto)) ?_
      refine sr_rd (x_cast (u := .tuple #[.int .i64 p, .bool true]) (x_lookup Try.underlying76 Try.underlying3 zr3 rfl rfl (map_at mauto) hik) (by unfold lkV; rw [hp0]; rfl)) ?_
      refine sr_mv ?_
      refine sr_rd (x_extract rfl rfl) ?_
      refine sr_rd (x_extract rfl rfl) ?_
      refine sr_as ?_
      refine sr_as ?_
      refine sr_nil ?_
      refine aw_kp [3, 4, 5, 7, 8, 9, 13, 14, 15, 16, 17, 18, 19, 20, 21, 27, 28, 29, 30, 31, 32, 33, 34, 35, 36] ?_
      refine aw_seq ?_
      refine aw_seq_region ?_
      refine sr_mv ?_
      refine sr_rd (x_not rfl) ?_
      refine sr_nil ?_
      refine aw_kp [3, 4, 5, 7, 8, 9, 13, 14, 15, 16, 17, 18, 19, 20, 21, 27, 28, 29, 30, 31, 32, 33, 34, 35, 36, 37, 38] ?_
      refine aw_false rfl ?_
      refine aw_skip ?_
      show AW _ _ _ _ _ _ _
      refine aw_seq ?_
      refine aw_seq_region ?_
      refine sr_mv ?_
      refine sr_rd (x_lenSlice Try.underlying50 rfl) ?_
      refine sr_mv ?_
      refine sr_nil ?_
      refine aw_kp [3, 4, 5, 7, 8, 9, 13, 14, 15, 16, 17, 18, 19, 20, 21, 27, 28, 29, 30, 31, 32, 33, 34, 35, 36, 37, 38, 39, 40, 41] ?_
      refine aw_block ?_
      refine aw_loop (ι := BzG) (fun s => s.k ≤ T.length ∧ s.n = n + cntGt (T.take s.k) p) (fun s => [(3, .slice a1 T.length c1), (4, .map (some r2_0)), (5, .int .i64 s.n), (8, .int .i64 p), (13, .slice a L.length cap), (14, .int .i64 L.length), (15, .int .i64 k), (39, .slice a1 T.length c1), (40, .int .i64 T.length), (41, .int .i64 s.k)]) (fun s => (r2_0, .map (es).toArray (clk)) :: (E1 ++ H)) (fun s => T.length - s.k) ⟨0, n, 0⟩ (⟨Nat.zero_le _, (by show n = n + 0; omega)⟩) KeepF.auto Sub.autoP ?_
      intro s hs9
      obtain ⟨j, n2, z9⟩ := s
      dsimp only at hs9 ⊢
      obtain ⟨hj, hn2⟩ := hs9
      have hcb2 := cntGt_bd (T.take j) p
      rw [List.length_take] at hcb2
      refine aw_seq_region ?_
      refine sr_c (x_lt rfl rfl) (fun h5 => ?_) (fun h5 => ?_)
      · refine sr_nil ?_
        refine aw_kp [3, 4, 5, 8, 13, 14, 15, 39, 40, 41, 42] ?_
        refine aw_seq ?_
        refine aw_true rfl ?_
        refine aw_skip ?_
        show AW _ _ _ _ _ _ _
        refine aw_seq ?_
        refine aw_block ?_
        refine aw_seq_region ?_
        obtain ⟨x, hx⟩ := get_ex (show j < T.length by omega)
        obtain ⟨bi, oi, hai, hci⟩ := hs1.at_ _ _ hx
        refine sr_rd (x_indexAddrN (j) Try.underlying50 sz3 rfl hai rfl (by omega) (by omega)) ?_
        refine sr_rd (x_load ag3 rfl (cells_get (Cells.mono hci Sub.autoE) 0 rfl)) ?_
        refine sr_as ?_
        refine sr_nil ?_
        refine aw_kp [3, 4, 5, 8, 11, 13, 14, 15, 39, 40, 41, 42, 43, 44] ?_
        refine aw_seq_region ?_
        refine sr_mv ?_
        refine sr_mv ?_
        refine sr_c (x_gt rfl rfl) (fun h6 => ?_) (fun h6 => ?_)
        · refine sr_nil ?_
          refine aw_kp [3, 4, 5, 8, 11, 13, 14, 15, 39, 40, 41, 42, 43, 44, 45, 46, 47] ?_
          refine aw_true rfl ?_
          refine aw_region ?_
          refine sr_mv ?_
          refine sr_rd (x_add' rfl rfl (i64w (by omega) (by omega))) ?_
          refine sr_as ?_
          refine sr_nil ?_
          show AW _ _ _ _ _ _ _
          refine aw_region ?_
          refine sr_rd (x_add' rfl rfl (i64w (by omega) (by omega))) ?_
          refine sr_mv ?_
          refine sr_nil ?_
          show ∃ s', _ ∧ _ ∧ _ ∧ _
          first | exact ⟨⟨j + 1, n2 + 1, 0⟩, ⟨by dsimp only; omega, (by dsimp only; rw [cntGt_take hx, if_pos (by omega)]; omega)⟩, by dsimp only; omega, KeepF.auto, Sub.autoD⟩ | exact ⟨⟨j + 1, n2, 0⟩, ⟨by dsimp only; omega, (by dsimp only; rw [cntGt_take hx, if_neg (by omega)]; omega)⟩, by dsimp only; omega, KeepF.auto, Sub.autoD⟩
        · refine sr_nil ?_
          refine aw_kp [3, 4, 5, 8, 11, 13, 14, 15, 39, 40, 41, 42, 43, 44, 45, 46, 47] ?_
          refine aw_false rfl ?_
          refine aw_skip ?_
          show AW _ _ _ _ _ _ _
          refine aw_region ?_
          refine sr_rd (x_add' rfl rfl (i64w (by omega) (by omega))) ?_
          refine sr_mv ?_
          refine sr_nil ?_
          show ∃ s', _ ∧ _ ∧ _ ∧ _
          first | exact ⟨⟨j + 1, n2 + 1, 0⟩, ⟨by dsimp only; omega, (by dsimp only; rw [cntGt_take hx, if_pos (by omega)]; omega)⟩, by dsimp only; omega, KeepF.auto, Sub.autoD⟩ | exact ⟨⟨j + 1, n2, 0⟩, ⟨by dsimp only; omega, (by dsimp only; rw [cntGt_take hx, if_neg (by omega)]; omega)⟩, by dsimp only; omega, KeepF.auto, Sub.autoD⟩
      · refine sr_nil ?_
        refine aw_kp [3, 4, 5, 8, 13, 14, 15, 39, 40, 41, 42] ?_
        refine aw_seq ?_
        refine aw_false rfl ?_
        refine aw_exit ?_
        show AW _ _ _ _ _ _ _
        refine aw_region ?_
        rw [List.take_of_length_le (by omega)] at hn2 hcb2
        refine sr_mv ?_
        refine sr_mv ?_
        refine sr_new rfl (wtd_none rfl) rfl (x_buildSlice Try.underlying50 sz3 zr3 rfl rfl rfl rfl Parts.auto Fill.auto) ?_
        intro r18_2 hr18_2 gr18_2
        refine sr_d rfl (wtd_none rfl) rfl (opS_append (G := (r18_2, .cells [.int .i64 p].toArray 3 (0, 0)) :: (r2_0, .map (es).toArray (clk)) :: H) (N := (intC p)) (m := 1) Try.underlying50 sz3 zr3 rfl by3 rfl rfl V1 Sub.autoP (.inr ⟨_, _, rfl, (cells_ext mauto Ext.auto)⟩) (rfl) rfl (by omega) (by omega)) ?_
        rintro v54 _ ⟨E54, hV54, rfl⟩
        obtain ⟨a54, cap54, rfl⟩ := hV54.isSl
        refine sr_as ?_
        refine sr_nil ?_
        show AW _ _ _ _ _ _ _
        refine aw_region ?_
        refine sr_rd (x_add' rfl rfl (i64w (by omega) (by omega))) ?_
        refine sr_mv ?_
        refine sr_nil ?_
        show ∃ s', _ ∧ _ ∧ _ ∧ _
        first | exact ⟨⟨k + 1, T, a1, c1, E1, mset .i64 e.task (.int .i64 es.length) clk es, mclk e.task es clk, n⟩, ⟨by dsimp only; omega, (by dsimp only; rw [swL_take he, ← hw]; unfold spF; rw [if_pos (by omega)]), hik.set, (by dsimp only; have := mset_len (k := .i64) (a := e.task) (v := .int .i64 es.length) (clk := clk) (es := es); omega), by dsimp only; omega, (by dsimp only; omega), V1⟩, by dsimp only; omega, KeepF.auto, Sub.autoD⟩ | exact ⟨⟨k + 1, T ++ [p], a54, cap54, E54, es, clk, n2⟩, ⟨by dsimp only; omega, (by dsimp only; rw [swL_take he, ← hw]; unfold spF; rw [if_neg (by omega)]; dsimp only; rw [hp0]; dsimp only; rw [hn2]), hik, by dsimp only; omega, (by dsimp only; rw [List.length_append]; dsimp only [List.length_cons, List.length_nil]; omega), (by dsimp only; omega), OwnVec.snocS hV54⟩, by dsimp only; omega, (by rw [List.length_append]; exact KeepF.auto), Sub.autoD⟩
  · refine sr_nil ?_
    refine aw_kp [3, 4, 5, 13, 14, 15, 16] ?_
    refine aw_seq ?_
    refine aw_false rfl ?_
    refine aw_exit ?_
    show AW _ _ _ _ _ _ _
    refine aw_seq_region ?_
    rw [List.take_of_length_le (by omega)] at hw
    refine sr_mv ?_
    refine sr_as ?_
    refine sr_nil ?_
    refine aw_kp [2] ?_
    refine aw_ret ?_
    show ∃ v H2, ResV _ _ _ _ _ _ v ∧ Sub H2 _ ∧ _
    exact ⟨_, H, resV rfl (.cons rfl .nil), Sub.autoP, ⟨by rw [← hw]; rfl, rfl⟩⟩
set_option maxRecDepth 100000 in
set_option maxHeartbeats 400000 in
theorem tlam_s (x : Ln) (e : Ev) (qn : Nat) (H : SHeap) (hq : Cells W0 H qn 0 (Ev.cells e)) : AC Try.prog W0 43 [Ln.v x, .pointer (some ⟨qn, 0, none⟩)] H (fun v H' => (∃ b : Bool, v = .bool b) ∧ H' = H) := by
  refine ac_of Try.func43 rfl rfl rfl ?_
  refine aw_seq_region ?_
  refine sr_new rfl (wtd_none rfl) rfl (x_box rfl rfl) ?_
  intro r0_0 hr0_0 gr0_0
  refine sr_as ?_
  refine sr_nil ?_
  refine aw_kp [1, 2, 3] ?_
  refine aw_seq_region ?_
  refine sr_rd (x_fieldAddr fd79_0 rfl) ?_
  refine sr_rd (x_load ag3 rfl (cells_ext mauto Ext.auto)) ?_
  refine sr_rd (x_fieldAddr fd34_2 rfl) ?_
  refine sr_rd (x_load ag3 rfl (cells_get (Cells.mono hq Sub.autoR) 2 rfl)) ?_
  refine sr_c (x_eq rfl rfl) (fun h1 => ?_) (fun h1 => ?_)
  · refine sr_as ?_
    refine sr_nil ?_
    refine aw_kp [3] ?_
    refine aw_ret ?_
    show ∃ v H2, ResV _ _ _ _ _ _ v ∧ Sub H2 _ ∧ _
    exact ⟨_, H, resV rfl (.cons rfl .nil), Sub.autoR, ⟨⟨_, rfl⟩, rfl⟩⟩
  · refine sr_as ?_
    refine sr_nil ?_
    refine aw_kp [3] ?_
    refine aw_ret ?_
    show ∃ v H2, ResV _ _ _ _ _ _ v ∧ Sub H2 _ ∧ _
    exact ⟨_, H, resV rfl (.cons rfl .nil), Sub.autoR, ⟨⟨_, rfl⟩, rfl⟩⟩
set_option maxRecDepth 100000 in
set_option maxHeartbeats 400000 in
theorem tidx_s (a : Option Addr) (cap : Nat) (D : List Ln) (H : SHeap) (hs : SlV W0 H 6 Ln.cells a cap D) (e : Ev) (qn : Nat) (hq : Cells W0 H qn 0 (Ev.cells e)) : AC Try.prog W0 42 [.slice a D.length cap, .func (.func 43) #[] #[.pointer (some ⟨qn, 0, none⟩)]] H (fun v H' => (∃ i : Int, v = .int .i64 i ∧ (i = -1 ∨ ∃ k : Nat, i = k ∧ k < D.length)) ∧ H' = H) := by
  have hle := hs.le
  have hcb := hs.capb
  refine ac_of Try.func42 rfl rfl rfl ?_
  refine aw_seq_region ?_
  refine sr_as ?_
  refine sr_nil ?_
  refine aw_kp [0, 1, 4] ?_
  refine aw_seq ?_
  refine aw_seq_region ?_
  refine sr_mv ?_
  refine sr_rd (x_lenSlice Try.underlying66 rfl) ?_
  refine sr_mv ?_
  refine sr_nil ?_
  refine aw_kp [0, 1, 4, 7, 8] ?_
  refine aw_block ?_
  refine aw_loop (ι := Nat) (fun k => k ≤ D.length) (fun k => [(0, .slice a D.length cap), (1, .func (.func 43) #[] #[.pointer (some ⟨qn, 0, none⟩)]), (7, .int .i64 D.length), (8, .int .i64 k)]) (fun _ => H) (fun k => D.length - k) 0 (Nat.zero_le _) KeepF.auto Sub.autoP ?_
  intro k hk
  refine aw_seq_region ?_
  refine sr_c (x_lt rfl rfl) (fun h1 => ?_) (fun h1 => ?_)
  · refine sr_nil ?_
    refine aw_kp [0, 1, 7, 8, 9] ?_
    refine aw_seq ?_
    refine aw_true rfl ?_
    refine aw_skip ?_
    show AW _ _ _ _ _ _ _
    refine aw_seq ?_
    refine aw_block ?_
    refine aw_seq_region ?_
    refine sr_mv ?_
    refine sr_as ?_
    refine sr_nil ?_
    refine aw_kp [0, 1, 5, 7, 8, 9, 10] ?_
    refine aw_seq_region ?_
    obtain ⟨x, hx⟩ := get_ex (show k < D.length by omega)
    obtain ⟨bl, ol, hal, hcl⟩ := hs.at_ _ _ hx
    refine sr_mv ?_
    refine sr_mv ?_
    refine sr_mv ?_
    refine sr_rd (x_indexAddrN (k) Try.underlying66 sz79 rfl hal rfl (by omega) (by omega)) ?_
    refine sr_rd (x_loadN ag79 sz79 rfl (Cells.mono hcl Sub.autoR) rfl) ?_
    refine sr_d rfl (wtd_none rfl) rfl (opS_call rfl rfl rfl rfl cl43 (tlam_s x e qn _ hq)) ?_
    rintro _ H ⟨⟨b, rfl⟩, rfl⟩
    cases b
    · refine sr_nil ?_
      refine aw_kp [0, 1, 5, 7, 8, 9, 10, 11, 12, 13, 14, 15, 16] ?_
      refine aw_false rfl ?_
      refine aw_skip ?_
      show AW _ _ _ _ _ _ _
      refine aw_region ?_
      refine sr_rd (x_add' rfl rfl (i64w (by omega) (by omega))) ?_
      refine sr_mv ?_
      refine sr_nil ?_
      show ∃ s', _ ∧ _ ∧ _ ∧ _
      exact ⟨k + 1, by omega, by omega, KeepF.auto, Sub.autoR⟩
    · refine sr_nil ?_
      refine aw_kp [0, 1, 5, 7, 8, 9, 10, 11, 12, 13, 14, 15, 16] ?_
      refine aw_true rfl ?_
      refine aw_seq_region ?_
      refine sr_mv ?_
      refine sr_as ?_
      refine sr_nil ?_
      refine aw_kp [0, 1, 4, 5, 7, 8, 9, 10, 11, 12, 13, 14, 15, 16, 17] ?_
      refine aw_ret ?_
      show ∃ v H2, ResV _ _ _ _ _ _ v ∧ Sub H2 _ ∧ _
      first | exact ⟨_, H, resV rfl (.cons rfl .nil), Sub.refl _, ⟨_, rfl, .inr ⟨k, rfl, by omega⟩⟩, rfl⟩ | exact ⟨_, H, resV rfl (.cons rfl .nil), Sub.refl _, ⟨_, rfl, .inl rfl⟩, rfl⟩
  · refine sr_nil ?_
    refine aw_kp [0, 1, 7, 8, 9] ?_
    refine aw_seq ?_
    refine aw_false rfl ?_
    refine aw_exit ?_
    show AW _ _ _ _ _ _ _
    refine aw_seq_region ?_
    refine sr_as ?_
    refine sr_nil ?_
    refine aw_kp [4] ?_
    refine aw_ret ?_
    show ∃ v H2, ResV _ _ _ _ _ _ v ∧ Sub H2 _ ∧ _
    first | exact ⟨_, H, resV rfl (.cons rfl .nil), Sub.refl _, ⟨_, rfl, .inr ⟨k, rfl, by omega⟩⟩, rfl⟩ | exact ⟨_, H, resV rfl (.cons rfl .nil), Sub.refl _, ⟨_, rfl, .inl rfl⟩, rfl⟩
set_option maxRecDepth 100000 in
set_option maxHeartbeats 400000 in
theorem tcmp_s (x y : Ln) (H : SHeap) : AC Try.prog W0 45 [Ln.v x, Ln.v y] H (fun v H' => v = .int .i64 (lnC x y) ∧ H' = H) := by
  refine ac_of Try.func45 rfl rfl rfl ?_
  refine aw_seq_region ?_
  refine sr_new rfl (wtd_none rfl) rfl (x_box rfl rfl) ?_
  intro r0_0 hr0_0 gr0_0
  refine sr_new rfl (wtd_none rfl) rfl (x_box rfl rfl) ?_
  intro r0_1 hr0_1 gr0_1
  refine sr_as ?_
  refine sr_nil ?_
  refine aw_kp [2, 3, 4] ?_
  refine aw_seq_region ?_
  refine sr_rd (x_fieldAddr fd79_0 rfl) ?_
  refine sr_rd (x_load ag3 rfl (cells_ext mauto Ext.auto)) ?_
  refine sr_rd (x_fieldAddr fd79_0 rfl) ?_
  refine sr_rd (x_load ag3 rfl (cells_ext mauto Ext.auto)) ?_
  refine sr_rd (x_sub' rfl rfl (i64w (by omega) (by omega))) ?_
  refine sr_as ?_
  refine sr_nil ?_
  refine aw_kp [4] ?_
  refine aw_ret ?_
  show ∃ v H2, ResV _ _ _ _ _ _ v ∧ Sub H2 _ ∧ _
  exact ⟨_, H, resV rfl (.cons rfl .nil), Sub.autoR, ⟨rfl, rfl⟩⟩
set_option maxRecDepth 100000 in
set_option maxHeartbeats 400000 in
theorem tlSwr_s (b cap n : Nat) (W : List Ln) (post : List Value) (G : SHeap) (hl : W.length = n) (hn : n ≤ 100000) (hcap : n ≤ cap) (hcb : cap ≤ 9223372036854775807) (a k2 n2 : Nat) (h1 : a + n2 ≤ k2) (h2 : k2 + n2 ≤ n) : AC Try.prog W0 73 [.slice (some ⟨b, 0, none⟩) n cap, .int .i64 a, .int .i64 k2, .int .i64 n2, .func (.func 45) #[] #[]] ((b, .cells ((W).flatMap Ln.cells ++ post).toArray 79 (0, 0)) :: G) (fun v H' => ∃ W', Mv W (swF a k2 n2) W' ∧ v = .tuple #[] ∧ H' = (b, .cells ((W').flatMap Ln.cells ++ post).toArray 79 (0, 0)) :: G) := by
  refine ac_of Try.func73 rfl rfl rfl ?_
  refine aw_seq_region ?_
  refine sr_as ?_
  refine sr_nil ?_
  refine aw_kp [0, 1, 2, 3, 10] ?_
  refine aw_block ?_
  refine aw_loop (ι := SortG Ln) (fun s => s.k ≤ n2 ∧ s.W.length = n ∧ Mv W (swF a k2 s.k) s.W) (fun s => [(0, .slice (some ⟨b, 0, none⟩) n cap), (1, .int .i64 a), (2, .int .i64 k2), (3, .int .i64 n2), (10, .int .i64 s.k)]) (fun s => (b, .cells ((s.W).flatMap Ln.cells ++ post).toArray 79 (0, 0)) :: G) (fun s => n2 - s.k) ⟨0, W⟩ (⟨Nat.zero_le _, hl, Mv.refl W (swF_zero a k2)⟩) KeepF.auto Sub.autoP ?_
  intro s hs9
  obtain ⟨k, cur⟩ := s
  dsimp only at hs9 ⊢
  obtain ⟨hk, hcl, hmv⟩ := hs9
  refine aw_seq ?_
  refine aw_seq_region ?_
  refine sr_mv ?_
  refine sr_mv ?_
  refine sr_c (x_lt rfl rfl) (fun h1 => ?_) (fun h1 => ?_)
  · refine sr_nil ?_
    refine aw_kp [0, 1, 2, 3, 10, 11, 12, 13] ?_
    refine aw_true rfl ?_
    refine aw_skip ?_
    show AW _ _ _ _ _ _ _
    refine aw_seq ?_
    refine aw_block ?_
    refine aw_dr ⟨_, 24, 38, [[], [], [], [1, 2], [], [], [], [5, 6], [], [], [], [9, 10], [8, 9, 10, 11], [8, 9, 10, 11, 12], [], [], [], [15, 16], [14, 15, 16, 17], [14, 15, 16, 17, 18], [0, 1, 2, 3, 8, 9, 10, 11, 12, 13, 14, 15, 16, 17, 18, 19], [0, 1, 2, 3, 8, 9, 10, 11, 12, 13, 14, 15, 16, 17, 18, 19, 20], [0, 1, 2, 3, 4, 5, 6, 7, 8, 9, 10, 11, 12, 13, 14, 15, 16, 17, 18, 19, 20, 21], [0, 1, 2, 3, 4, 5, 6, 7, 8, 9, 10, 11, 12, 13, 14, 15, 16, 17, 18, 19, 20, 21, 22]], [.light, .light, .light, .light, .light, .light, .light, .light, .light, .light, .light, .light, .light, .mem, .light, .light, .light, .light, .light, .mem, .light, .eff, .light, .eff]⟩ (by kernel_rfl) rfl rfl mix ?_
    refine dr_l (x_move rfl) ?_
    refine dr_l (x_move rfl) ?_
    refine dr_l (x_move rfl) ?_
    refine dr_l (x_add' rfl rfl (i64w (by omega) (by omega))) ?_
    refine dr_l (x_move rfl) ?_
    refine dr_l (x_move rfl) ?_
    refine dr_l (x_move rfl) ?_
    refine dr_l (x_add' rfl rfl (i64w (by omega) (by omega))) ?_
    refine dr_l (x_move rfl) ?_
    refine dr_l (x_move rfl) ?_
    refine dr_l (x_move rfl) ?_
    refine dr_l (x_add' rfl rfl (i64w (by omega) (by omega))) ?_
    refine dr_l (x_indexAddrN (k2 + k) Try.underlying66 sz79 rfl rfl rfl (by omega) (by omega)) ?_
    refine dr_mem0 rfl rfl (wtd_none rfl) (x_loadN ag79 sz79 rfl ((cells_flat0 (n := 6) (enc := Ln.cells) (fun _ => rfl) (xs := cur) (post := post) (show (b, Obj.cells ((cur).flatMap Ln.cells ++ post).toArray 79 (0, 0)) ∈ _ from mauto) (gd_some (by omega)))) rfl) ?_
    refine dr_l (x_move rfl) ?_
    refine dr_l (x_move rfl) ?_
    refine dr_l (x_move rfl) ?_
    refine dr_l (x_add' rfl rfl (i64w (by omega) (by omega))) ?_
    refine dr_l (x_indexAddrN (a + k) Try.underlying66 sz79 rfl rfl rfl (by omega) (by omega)) ?_
    refine dr_mem0 rfl rfl (wtd_none rfl) (x_loadN ag79 sz79 rfl ((cells_flat0 (n := 6) (enc := Ln.cells) (fun _ => rfl) (xs := cur) (post := post) (show (b, Obj.cells ((cur).flatMap Ln.cells ++ post).toArray 79 (0, 0)) ∈ _ from mauto) (gd_some (by omega)))) rfl) ?_
    refine dr_l (x_indexAddrN (a + k) Try.underlying66 sz79 rfl rfl rfl (by omega) (by omega)) ?_
    refine dr_store0 rfl rfl (wtd_none rfl) (x_store sz79 rfl rfl rfl rfl rfl Repl.auto (spl_flat0 (n := 6) (enc := Ln.cells) (fun _ => rfl) (xs := cur) (post := post) (i := (a + k)) (x' := gd cur (k2 + k)) (by first | omega | (rw [List.length_set]; omega)))) (by first | rfl | simp [keys_append, keys_cons]) ?_
    refine dr_l (x_indexAddrN (k2 + k) Try.underlying66 sz79 rfl rfl rfl (by omega) (by omega)) ?_
    refine dr_store0 rfl rfl (wtd_none rfl) (x_store sz79 rfl rfl rfl rfl rfl Repl.auto (spl_flat0 (n := 6) (enc := Ln.cells) (fun _ => rfl) (xs := ((cur).set (a + k) (gd cur (k2 + k)))) (post := post) (i := (k2 + k)) (x' := gd cur (a + k)) (by first | omega | (rw [List.length_set]; omega)))) (by first | rfl | simp [keys_append, keys_cons]) ?_
    refine dr_nil0 ?_
    show AW _ _ _ _ _ _ _
    refine aw_region ?_
    refine sr_mv ?_
    refine sr_rd (x_add' rfl rfl (i64w (by omega) (by omega))) ?_
    refine sr_as ?_
    refine sr_nil ?_
    show ∃ s', _ ∧ _ ∧ _ ∧ _
    exact ⟨⟨k + 1, sw cur (a + k) (k2 + k)⟩, ⟨by dsimp only; omega, sw_len.trans hcl, hmv.sw (by omega) (by omega) (swF_step (by omega))⟩, by dsimp only; omega, KeepF.auto, Sub.autoP⟩
  · refine sr_nil ?_
    refine aw_kp [0, 1, 2, 3, 10, 11, 12, 13] ?_
    refine aw_false rfl ?_
    refine aw_exit ?_
    show ∃ v H2, ResV _ _ _ _ _ _ v ∧ Sub H2 _ ∧ _
    (obtain rfl : k = n2 := (by omega)); exact ⟨_, _, resV rfl .nil, Sub.refl _, cur, hmv, rfl, rfl⟩
set_option maxRecDepth 100000 in
set_option maxHeartbeats 1000000 in
theorem tlRot_s (b cap n : Nat) (W : List Ln) (post : List Value) (G : SHeap) (hl : W.length = n) (hn : n ≤ 100000) (hcap : n ≤ cap) (hcb : cap ≤ 9223372036854775807) (s m e : Nat) (h1 : s < m) (h2 : m < e) (h3 : e ≤ n) : AC Try.prog W0 71 [.slice (some ⟨b, 0, none⟩) n cap, .int .i64 s, .int .i64 m, .int .i64 e, .func (.func 45) #[] #[]] ((b, .cells ((W).flatMap Ln.cells ++ post).toArray 79 (0, 0)) :: G) (fun v H' => ∃ W', Mv W (rotF s m e) W' ∧ v = .tuple #[] ∧ H' = (b, .cells ((W').flatMap Ln.cells ++ post).toArray 79 (0, 0)) :: G) := by
  refine ac_of Try.func71 rfl rfl rfl ?_
  refine aw_seq_region ?_
  refine sr_mv ?_
  refine sr_mv ?_
  refine sr_rd (x_cast (u := .int .i64 ((m - s : Nat) : Int)) (x_sub' rfl rfl (i64w (by omega) (by omega))) (by congr 1; omega)) ?_
  refine sr_as ?_
  refine sr_nil ?_
  refine aw_kp [0, 2, 3, 4, 10] ?_
  refine aw_seq_region ?_
  refine sr_mv ?_
  refine sr_mv ?_
  refine sr_rd (x_cast (u := .int .i64 ((e - m : Nat) : Int)) (x_sub' rfl rfl (i64w (by omega) (by omega))) (by congr 1; omega)) ?_
  refine sr_as ?_
  refine sr_nil ?_
  refine aw_kp [0, 2, 4, 10, 11] ?_
  refine aw_seq ?_
  refine aw_block ?_
  refine aw_loop (ι := RotG Ln) (fun s' => RotI W s m e s'.W s'.i s'.j) (fun s' => [(0, .slice (some ⟨b, 0, none⟩) n cap), (2, .int .i64 m), (4, .func (.func 45) #[] #[]), (10, .int .i64 s'.i), (11, .int .i64 s'.j)]) (fun s' => (b, .cells ((s'.W).flatMap Ln.cells ++ post).toArray 79 (0, 0)) :: G) (fun s' => s'.i + s'.j) ⟨m - s, e - m, W⟩ (RotI.start h1 h2) KeepF.auto Sub.autoP ?_
  intro s' hs9
  obtain ⟨i, j, cur⟩ := s'
  dsimp only at hs9 ⊢
  have hri := hs9
  obtain ⟨hcl, ⟨hb1, hb2, hb3, hb4⟩, -⟩ := hs9
  refine aw_seq ?_
  refine aw_seq_region ?_
  refine sr_mv ?_
  refine sr_mv ?_
  refine sr_c (x_ne rfl rfl) (fun h1 => ?_) (fun h1 => ?_)
  · refine sr_nil ?_
    refine aw_kp [0, 2, 4, 10, 11, 18, 19, 20] ?_
    refine aw_true rfl ?_
    refine aw_skip ?_
    show AW _ _ _ _ _ _ _
    refine aw_block ?_
    refine aw_seq_region ?_
    refine sr_mv ?_
    refine sr_mv ?_
    refine sr_c (x_gt rfl rfl) (fun h2 => ?_) (fun h2 => ?_)
    · refine sr_nil ?_
      refine aw_kp [0, 2, 4, 10, 11, 18, 19, 20, 21, 22, 23] ?_
      refine aw_true rfl ?_
      refine aw_seq_region ?_
      refine sr_mv ?_
      refine sr_mv ?_
      refine sr_mv ?_
      refine sr_rd (x_cast (u := .int .i64 ((m - i : Nat) : Int)) (x_sub' rfl rfl (i64w (by omega) (by omega))) (by congr 1; omega)) ?_
      refine sr_mv ?_
      refine sr_mv ?_
      refine sr_mv ?_
      refine sr_d rfl (wtd_none rfl) rfl (opS_call rfl rfl rfl rfl cl73 (AC.sub Sub.autoP (tlSwr_s b cap n cur post G (by omega) hn hcap hcb (m - i) m j (by omega) (by omega)))) ?_
      rintro _ _ ⟨W9, hm9, rfl, rfl⟩
      refine sr_nil ?_
      refine aw_kp [0, 2, 4, 10, 11, 18, 19, 20, 21, 22, 23, 24, 25, 26, 27, 28, 29, 30] ?_
      refine aw_region ?_
      refine sr_mv ?_
      refine sr_mv ?_
      refine sr_rd (x_cast (u := .int .i64 ((i - j : Nat) : Int)) (x_sub' rfl rfl (i64w (by omega) (by omega))) (by congr 1; omega)) ?_
      refine sr_as ?_
      refine sr_nil ?_
      show ∃ s', _ ∧ _ ∧ _ ∧ _
      first | exact ⟨⟨i - j, j, W9⟩, hri.gt (by omega) hm9, by dsimp only; omega, KeepF.auto, Sub.autoP⟩ | exact ⟨⟨i, j - i, W9⟩, hri.lt (by omega) hm9, by dsimp only; omega, KeepF.auto, Sub.autoP⟩
    · refine sr_nil ?_
      refine aw_kp [0, 2, 4, 10, 11, 18, 19, 20, 21, 22, 23] ?_
      refine aw_false rfl ?_
      refine aw_seq_region ?_
      refine sr_mv ?_
      refine sr_mv ?_
      refine sr_mv ?_
      refine sr_rd (x_cast (u := .int .i64 ((m - i : Nat) : Int)) (x_sub' rfl rfl (i64w (by omega) (by omega))) (by congr 1; omega)) ?_
      refine sr_mv ?_
      refine sr_mv ?_
      refine sr_rd (x_cast (u := .int .i64 ((m + j : Nat) : Int)) (x_add' rfl rfl (i64w (by omega) (by omega))) (by congr 1)) ?_
      refine sr_mv ?_
      refine sr_rd (x_cast (u := .int .i64 ((m + j - i : Nat) : Int)) (x_sub' rfl rfl (i64w (by omega) (by omega))) (by congr 1; omega)) ?_
      refine sr_mv ?_
      refine sr_mv ?_
      refine sr_d rfl (wtd_none rfl) rfl (opS_call rfl rfl rfl rfl cl73 (AC.sub Sub.autoP (tlSwr_s b cap n cur post G (by omega) hn hcap hcb (m - i) (m + j - i) i (by omega) (by omega)))) ?_
      rintro _ _ ⟨W9, hm9, rfl, rfl⟩
      refine sr_nil ?_
      refine aw_kp [0, 2, 4, 10, 11, 18, 19, 20, 21, 22, 23, 35, 36, 37, 38, 39, 40, 41, 42, 43, 44, 45] ?_
      refine aw_region ?_
      refine sr_mv ?_
      refine sr_mv ?_
      refine sr_rd (x_cast (u := .int .i64 ((j - i : Nat) : Int)) (x_sub' rfl rfl (i64w (by omega) (by omega))) (by congr 1; omega)) ?_
      refine sr_as ?_
      refine sr_nil ?_
      show ∃ s', _ ∧ _ ∧ _ ∧ _
      first | exact ⟨⟨i - j, j, W9⟩, hri.gt (by omega) hm9, by dsimp only; omega, KeepF.auto, Sub.autoP⟩ | exact ⟨⟨i, j - i, W9⟩, hri.lt (by omega) hm9, by dsimp only; omega, KeepF.auto, Sub.autoP⟩
  · refine sr_nil ?_
    refine aw_kp [0, 2, 4, 10, 11, 18, 19, 20] ?_
    refine aw_false rfl ?_
    refine aw_exit ?_
    show AW _ _ _ _ _ _ _
    refine aw_region ?_
    obtain rfl : i = j := by omega
    refine sr_mv ?_
    refine sr_mv ?_
    refine sr_mv ?_
    refine sr_rd (x_cast (u := .int .i64 ((m - i : Nat) : Int)) (x_sub' rfl rfl (i64w (by omega) (by omega))) (by congr 1; omega)) ?_
    refine sr_mv ?_
    refine sr_mv ?_
    refine sr_mv ?_
    refine sr_d rfl (wtd_none rfl) rfl (opS_call rfl rfl rfl rfl cl73 (AC.sub Sub.autoP (tlSwr_s b cap n cur post G (by omega) hn hcap hcb (m - i) m i (by omega) (by omega)))) ?_
    rintro _ _ ⟨W9, hm9, rfl, rfl⟩
    refine sr_nil ?_
    show ∃ v H2, ResV _ _ _ _ _ _ v ∧ Sub H2 _ ∧ _
    exact ⟨_, _, resV rfl .nil, Sub.refl _, W9, hri.eq hm9, rfl, rfl⟩
set_option maxRecDepth 100000 in
set_option maxHeartbeats 2000000 in
theorem tlIns_s (b cap n : Nat) (W : List Ln) (post : List Value) (G : SHeap) (hl : W.length = n) (hn : n ≤ 100000) (hcap : n ≤ cap) (hcb : cap ≤ 9223372036854775807) (a e : Nat) (h1 : a ≤ e) (h2 : e ≤ n) (c : Ln → Ln → Int) (hcmp : ∀ x y V, Sub G V → AC Try.prog W0 45 [Ln.v x, Ln.v y] V (fun v H' => v = .int .i64 (c x y) ∧ H' = V)) (hsw : Swo c) : AC Try.prog W0 63 [.slice (some ⟨b, 0, none⟩) n cap, .int .i64 a, .int .i64 e, .func (.func 45) #[] #[]] ((b, .cells ((W).flatMap Ln.cells ++ post).toArray 79 (0, 0)) :: G) (fun v H' => ∃ W', Mg c W a e W' ∧ v = .tuple #[] ∧ H' = (b, .cells ((W').flatMap Ln.cells ++ post).toArray 79 (0, 0)) :: G) := by
  refine ac_of Try.func63 rfl rfl rfl ?_
  refine aw_seq_region ?_
  refine sr_mv ?_
  refine sr_rd (x_add' rfl rfl (i64w (by omega) (by omega))) ?_
  refine sr_as ?_
  refine sr_nil ?_
  refine aw_kp [0, 1, 2, 3, 8] ?_
  refine aw_block ?_
  refine aw_loop (ι := SortG Ln) (fun s => a + 1 ≤ s.k ∧ (s.k ≤ e ∨ s.k = a + 1) ∧ s.W.length = n ∧ St c W s.W ∧ InR W a e s.W ∧ SrtI c s.W a s.k) (fun s => [(0, .slice (some ⟨b, 0, none⟩) n cap), (1, .int .i64 a), (2, .int .i64 e), (3, .func (.func 45) #[] #[]), (8, .int .i64 s.k)]) (fun s => (b, .cells ((s.W).flatMap Ln.cells ++ post).toArray 79 (0, 0)) :: G) (fun s => e - s.k) ⟨a + 1, W⟩ (⟨Nat.le_refl _, .inr rfl, hl, St.refl _, InR.refl _ _ _, SrtI.one (Nat.le_refl _)⟩) KeepF.auto Sub.autoP ?_
  intro s hs9
  obtain ⟨i, cur⟩ := s
  dsimp only at hs9 ⊢
  obtain ⟨hi1, hi2, hcl, hst, hin, hsr⟩ := hs9
  refine aw_seq ?_
  refine aw_seq_region ?_
  refine sr_mv ?_
  refine sr_mv ?_
  refine sr_c (x_lt rfl rfl) (fun h1 => ?_) (fun h1 => ?_)
  · refine sr_nil ?_
    refine aw_kp [0, 1, 2, 3, 8, 12, 13, 14] ?_
    refine aw_true rfl ?_
    refine aw_skip ?_
    show AW _ _ _ _ _ _ _
    refine aw_seq ?_
    refine aw_block ?_
    refine aw_seq_region ?_
    refine sr_mv ?_
    refine sr_as ?_
    refine sr_nil ?_
    refine aw_kp [0, 1, 2, 3, 8, 9, 12, 13, 14, 17] ?_
    refine aw_block ?_
    refine aw_loop (ι := SortG Ln) (fun s => a ≤ s.k ∧ s.k ≤ i ∧ s.W.length = n ∧ Mv cur (rotF s.k i (i + 1)) s.W ∧ ∀ h, s.k ≤ h → h < i → c (gd cur i) (gd cur h) < 0) (fun s => [(0, .slice (some ⟨b, 0, none⟩) n cap), (1, .int .i64 a), (2, .int .i64 e), (3, .func (.func 45) #[] #[]), (8, .int .i64 i), (9, .int .i64 s.k)]) (fun s => (b, .cells ((s.W).flatMap Ln.cells ++ post).toArray 79 (0, 0)) :: G) (fun s => s.k) ⟨i, cur⟩ (⟨by dsimp only; omega, Nat.le_refl _, hcl, Mv.refl _ (rotF_self i), fun h q1 q2 => by dsimp only at q1; omega⟩) KeepF.auto Sub.autoP ?_
    intro s hs8
    obtain ⟨j, cur2⟩ := s
    dsimp only at hs8 ⊢
    obtain ⟨hj1, hj2, hcl2, hmv2, hlt2⟩ := hs8
    refine aw_seq ?_
    refine aw_seq_dr ⟨_, 17, 53, [[], [], [0, 1], [0, 1, 2], [0, 1, 2, 3], [0, 1, 2, 3], [0, 1, 2, 3], [0, 1, 2, 3, 5, 6], [0, 1, 2, 3, 5, 6, 7], [0, 1, 2, 3], [0, 1, 2, 3], [0, 1, 2, 3, 10], [0, 1, 2, 3, 9, 10, 11], [0, 1, 2, 3, 9, 10, 11, 12], [0, 1, 2, 3, 4, 5, 6, 7, 8, 9, 10, 11, 12, 13], [0, 1, 2, 3, 4, 5, 6, 7, 8, 9, 10, 11, 12, 13, 14], [0, 1, 2, 3, 4, 5, 6, 7, 8, 9, 10, 11, 12, 13, 14, 15]], [.light, .light, .light, .light, .light, .light, .light, .light, .mem, .light, .light, .light, .light, .mem, .call, .light, .light]⟩ (by kernel_rfl) rfl rfl mix ?_
    refine dr_l (x_move rfl) ?_
    refine dr_l (x_move rfl) ?_
    refine dr_cmp rfl rfl (wtd_none rfl) (x_gt rfl rfl) (fun h2 => ?_) (fun h2 => ?_)
    · refine dr_l (x_move rfl) ?_
      refine dr_y (x_move rfl) ?_
      refine dr_y (x_move rfl) ?_
      refine dr_y (x_move rfl) ?_
      refine dr_y (x_indexAddrN (j) Try.underlying66 sz79 rfl rfl rfl (by omega) (by omega)) ?_
      refine dr_mem0 rfl rfl (wtd_yes rfl rfl rfl) (x_loadN ag79 sz79 rfl ((cells_flat0 (n := 6) (enc := Ln.cells) (fun _ => rfl) (xs := cur2) (post := post) (show (b, Obj.cells ((cur2).flatMap Ln.cells ++ post).toArray 79 (0, 0)) ∈ _ from mauto) (gd_some (by omega)))) rfl) ?_
      refine dr_y (x_move rfl) ?_
      refine dr_y (x_move rfl) ?_
      refine dr_y (x_cast (u := .int .i64 ((j - 1 : Nat) : Int)) (x_sub' rfl rfl (i64w (by omega) (by omega))) (by congr 1; omega)) ?_
      refine dr_y (x_indexAddrN (j - 1) Try.underlying66 sz79 rfl rfl rfl (by omega) (by omega)) ?_
      refine dr_mem0 rfl rfl (wtd_yes rfl rfl rfl) (x_loadN ag79 sz79 rfl ((cells_flat0 (n := 6) (enc := Ln.cells) (fun _ => rfl) (xs := cur2) (post := post) (show (b, Obj.cells ((cur2).flatMap Ln.cells ++ post).toArray 79 (0, 0)) ∈ _ from mauto) (gd_some (by omega)))) rfl) ?_
      refine dr_callq0 rfl rfl (wtd_yes rfl rfl rfl) (opS_F rfl rfl rfl rfl cl45 ((hcmp (gd cur2 j) (gd cur2 (j - 1)) _ Sub.autoR))) (⟨_, rfl⟩) ?_
      rintro _ rfl
      refine dr_cmp rfl rfl (wtd_yes rfl rfl rfl) (x_lt rfl rfl) (fun h3 => ?_) (fun h3 => ?_)
      · refine dr_l (x_pick_t rfl rfl rfl) ?_
        refine dr_nil0 ?_
        refine aw_kp [0, 1, 2, 3, 8, 9, 18, 19, 20, 21, 22, 23, 24, 25, 26, 27, 28, 29, 30, 31, 32, 33, 34] ?_
        refine aw_true rfl ?_
        refine aw_skip ?_
        show AW _ _ _ _ _ _ _
        refine aw_seq ?_
        refine aw_block ?_
        refine aw_dr ⟨_, 18, 53, [[], [], [], [], [3], [], [], [6], [5, 6, 7], [5, 6, 7, 8], [], [], [10, 11], [10, 11, 12], [0, 1, 5, 6, 7, 8, 9, 10, 11, 12, 13], [0, 1, 5, 6, 7, 8, 9, 10, 11, 12, 13, 14], [0, 1, 2, 3, 4, 5, 6, 7, 8, 9, 10, 11, 12, 13, 14, 15], [0, 1, 2, 3, 4, 5, 6, 7, 8, 9, 10, 11, 12, 13, 14, 15, 16]], [.light, .light, .light, .light, .light, .light, .light, .light, .light, .mem, .light, .light, .light, .mem, .light, .eff, .light, .eff]⟩ (by kernel_rfl) rfl rfl mix ?_
        refine dr_l (x_move rfl) ?_
        refine dr_l (x_move rfl) ?_
        refine dr_l (x_move rfl) ?_
        refine dr_l (x_move rfl) ?_
        refine dr_l (x_cast (u := .int .i64 ((j - 1 : Nat) : Int)) (x_sub' rfl rfl (i64w (by omega) (by omega))) (by congr 1; omega)) ?_
        refine dr_l (x_move rfl) ?_
        refine dr_l (x_move rfl) ?_
        refine dr_l (x_cast (u := .int .i64 ((j - 1 : Nat) : Int)) (x_sub' rfl rfl (i64w (by omega) (by omega))) (by congr 1; omega)) ?_
        refine dr_l (x_indexAddrN (j - 1) Try.underlying66 sz79 rfl rfl rfl (by omega) (by omega)) ?_
        refine dr_mem0 rfl rfl (wtd_none rfl) (x_loadN ag79 sz79 rfl ((cells_flat0 (n := 6) (enc := Ln.cells) (fun _ => rfl) (xs := cur2) (post := post) (show (b, Obj.cells ((cur2).flatMap Ln.cells ++ post).toArray 79 (0, 0)) ∈ _ from mauto) (gd_some (by omega)))) rfl) ?_
        refine dr_l (x_move rfl) ?_
        refine dr_l (x_move rfl) ?_
        refine dr_l (x_indexAddrN (j) Try.underlying66 sz79 rfl rfl rfl (by omega) (by omega)) ?_
        refine dr_mem0 rfl rfl (wtd_none rfl) (x_loadN ag79 sz79 rfl ((cells_flat0 (n := 6) (enc := Ln.cells) (fun _ => rfl) (xs := cur2) (post := post) (show (b, Obj.cells ((cur2).flatMap Ln.cells ++ post).toArray 79 (0, 0)) ∈ _ from mauto) (gd_some (by omega)))) rfl) ?_
        refine dr_l (x_indexAddrN (j) Try.underlying66 sz79 rfl rfl rfl (by omega) (by omega)) ?_
        refine dr_store0 rfl rfl (wtd_none rfl) (x_store sz79 rfl rfl rfl rfl rfl Repl.auto (spl_flat0 (n := 6) (enc := Ln.cells) (fun _ => rfl) (xs := cur2) (post := post) (i := (j)) (x' := gd cur2 (j - 1)) (by first | omega | (rw [List.length_set]; omega)))) (by first | rfl | simp [keys_append, keys_cons]) ?_
        refine dr_l (x_indexAddrN (j - 1) Try.underlying66 sz79 rfl rfl rfl (by omega) (by omega)) ?_
        refine dr_store0 rfl rfl (wtd_none rfl) (x_store sz79 rfl rfl rfl rfl rfl Repl.auto (spl_flat0 (n := 6) (enc := Ln.cells) (fun _ => rfl) (xs := ((cur2).set (j) (gd cur2 (j - 1)))) (post := post) (i := (j - 1)) (x' := gd cur2 (j)) (by first | omega | (rw [List.length_set]; omega)))) (by first | rfl | simp [keys_append, keys_cons]) ?_
        refine dr_nil0 ?_
        show AW _ _ _ _ _ _ _
        refine aw_region ?_
        refine sr_mv ?_
        refine sr_rd (x_cast (u := .int .i64 ((j - 1 : Nat) : Int)) (x_sub' rfl rfl (i64w (by omega) (by omega))) (by congr 1; omega)) ?_
        refine sr_as ?_
        refine sr_nil ?_
        show ∃ s', _ ∧ _ ∧ _ ∧ _
        exact ⟨⟨j - 1, sw cur2 j (j - 1)⟩, ⟨by dsimp only; omega, by dsimp only; omega, sw_len.trans hcl2, insr_step (by omega) hj2 (by omega) hlt2 hmv2 (by assumption)⟩, by dsimp only; omega, KeepF.auto, Sub.autoP⟩
      · refine dr_l (x_pick_t rfl rfl rfl) ?_
        refine dr_nil0 ?_
        refine aw_kp [0, 1, 2, 3, 8, 9, 18, 19, 20, 21, 22, 23, 24, 25, 26, 27, 28, 29, 30, 31, 32, 33, 34] ?_
        refine aw_false rfl ?_
        refine aw_exit ?_
        show AW _ _ _ _ _ _ _
        refine aw_region ?_
        refine sr_mv ?_
        refine sr_rd (x_add' rfl rfl (i64w (by omega) (by omega))) ?_
        refine sr_as ?_
        refine sr_nil ?_
        show ∃ s', _ ∧ _ ∧ _ ∧ _
        first | exact ⟨⟨i + 1, cur2⟩, ⟨by dsimp only; omega, .inl (by dsimp only; omega), hcl2, hst.trans (insr_end hsw hj1 hj2 (by omega) hsr hlt2 hmv2 (fun _ => by assumption)).1, hin.trans ((insr_end hsw hj1 hj2 (by omega) hsr hlt2 hmv2 (fun _ => by assumption)).2.1.wide (Nat.le_refl _) (by omega)), (insr_end hsw hj1 hj2 (by omega) hsr hlt2 hmv2 (fun _ => by assumption)).2.2⟩, by dsimp only; omega, KeepF.auto, Sub.autoP⟩ | exact ⟨⟨i + 1, cur2⟩, ⟨by dsimp only; omega, .inl (by dsimp only; omega), hcl2, hst.trans (insr_end hsw hj1 hj2 (by omega) hsr hlt2 hmv2 (fun h => by omega)).1, hin.trans ((insr_end hsw hj1 hj2 (by omega) hsr hlt2 hmv2 (fun h => by omega)).2.1.wide (Nat.le_refl _) (by omega)), (insr_end hsw hj1 hj2 (by omega) hsr hlt2 hmv2 (fun h => by omega)).2.2⟩, by dsimp only; omega, KeepF.auto, Sub.autoP⟩
    · refine dr_l (x_move rfl) ?_
      refine dr_sk ?_
      refine dr_sk ?_
      refine dr_sk ?_
      refine dr_sk ?_
      refine dr_sk ?_
      refine dr_sk ?_
      refine dr_sk ?_
      refine dr_sk ?_
      refine dr_sk ?_
      refine dr_sk ?_
      refine dr_sk ?_
      refine dr_sk ?_
      refine dr_l (x_pick_f rfl rfl rfl) ?_
      refine dr_nil0 ?_
      refine aw_kp [0, 1, 2, 3, 8, 9, 18, 19, 20, 21, 22, 23, 24, 25, 26, 27, 28, 29, 30, 31, 32, 33, 34] ?_
      refine aw_false rfl ?_
      refine aw_exit ?_
      show AW _ _ _ _ _ _ _
      refine aw_region ?_
      refine sr_mv ?_
      refine sr_rd (x_add' rfl rfl (i64w (by omega) (by omega))) ?_
      refine sr_as ?_
      refine sr_nil ?_
      show ∃ s', _ ∧ _ ∧ _ ∧ _
      first | exact ⟨⟨i + 1, cur2⟩, ⟨by dsimp only; omega, .inl (by dsimp only; omega), hcl2, hst.trans (insr_end hsw hj1 hj2 (by omega) hsr hlt2 hmv2 (fun _ => by assumption)).1, hin.trans ((insr_end hsw hj1 hj2 (by omega) hsr hlt2 hmv2 (fun _ => by assumption)).2.1.wide (Nat.le_refl _) (by omega)), (insr_end hsw hj1 hj2 (by omega) hsr hlt2 hmv2 (fun _ => by assumption)).2.2⟩, by dsimp only; omega, KeepF.auto, Sub.autoP⟩ | exact ⟨⟨i + 1, cur2⟩, ⟨by dsimp only; omega, .inl (by dsimp only; omega), hcl2, hst.trans (insr_end hsw hj1 hj2 (by omega) hsr hlt2 hmv2 (fun h => by omega)).1, hin.trans ((insr_end hsw hj1 hj2 (by omega) hsr hlt2 hmv2 (fun h => by omega)).2.1.wide (Nat.le_refl _) (by omega)), (insr_end hsw hj1 hj2 (by omega) hsr hlt2 hmv2 (fun h => by omega)).2.2⟩, by dsimp only; omega, KeepF.auto, Sub.autoP⟩
  · refine sr_nil ?_
    refine aw_kp [0, 1, 2, 3, 8, 12, 13, 14] ?_
    refine aw_false rfl ?_
    refine aw_exit ?_
    show ∃ v H2, ResV _ _ _ _ _ _ v ∧ Sub H2 _ ∧ _
    exact ⟨_, _, resV rfl .nil, Sub.refl _, cur, ⟨hst, hin, hsr.up (by omega)⟩, rfl, rfl⟩
set_option maxRecDepth 100000 in
set_option maxHeartbeats 8000000 in
theorem tlSmW_s (b cap n : Nat) (W : List Ln) (post : List Value) (G : SHeap) (hl : W.length = n) (hn : n ≤ 100000) (hcap : n ≤ cap) (hcb : cap ≤ 9223372036854775807) (a m e : Nat) (h1 : a < m) (h2 : m < e) (h3 : e ≤ n) (c : Ln → Ln → Int) (hcmp : ∀ x y V, Sub G V → AC Try.prog W0 45 [Ln.v x, Ln.v y] V (fun v H' => v = .int .i64 (c x y) ∧ H' = V)) (hsw : Swo c) (hA : SrtI c W a m) (hB : SrtI c W m e) (ih : ∀ (W1 : List Ln) (a1 m1 e1 : Nat), W1.length = n → e1 - a1 < e - a → a1 < m1 → m1 < e1 → e1 ≤ n → SrtI c W1 a1 m1 → SrtI c W1 m1 e1 → AC Try.prog W0 64 [.slice (some ⟨b, 0, none⟩) n cap, .int .i64 (a1 : Nat), .int .i64 (m1 : Nat), .int .i64 (e1 : Nat), .func (.func 45) #[] #[]] ((b, .cells ((W1).flatMap Ln.cells ++ post).toArray 79 (0, 0)) :: G) (fun v H' => ∃ W', Mg c W1 a1 e1 W' ∧ v = .tuple #[] ∧ H' = (b, .cells ((W').flatMap Ln.cells ++ post).toArray 79 (0, 0)) :: G)) : AC Try.prog W0 64 [.slice (some ⟨b, 0, none⟩) n cap, .int .i64 a, .int .i64 m, .int .i64 e, .func (.func 45) #[] #[]] ((b, .cells ((W).flatMap Ln.cells ++ post).toArray 79 (0, 0)) :: G) (fun v H' => ∃ W', Mg c W a e W' ∧ v = .tuple #[] ∧ H' = (b, .cells ((W').flatMap Ln.cells ++ post).toArray 79 (0, 0)) :: G) := by
  refine ac_of Try.func64 rfl rfl rfl ?_
  refine aw_seq ?_
  refine aw_seq_region ?_
  refine sr_mv ?_
  refine sr_mv ?_
  refine sr_rd (x_sub' rfl rfl (i64w (by omega) (by omega))) ?_
  refine sr_c (x_eq rfl rfl) (fun h1 => ?_) (fun h1 => ?_)
  · refine sr_nil ?_
    refine aw_kp [0, 1, 2, 3, 4, 28] ?_
    refine aw_true rfl ?_
    refine aw_seq_region ?_
    refine sr_mv ?_
    refine sr_as ?_
    refine sr_nil ?_
    refine aw_kp [0, 1, 2, 3, 4, 10] ?_
    refine aw_seq_region ?_
    refine sr_mv ?_
    refine sr_as ?_
    refine sr_nil ?_
    refine aw_kp [0, 1, 2, 3, 4, 10, 11] ?_
    refine aw_seq ?_
    refine aw_block ?_
    refine aw_loop (ι := SeaG) (fun s => Sea (fun h => ¬ c (gd W h) (gd W a) < 0) m e s.i s.j) (fun s => [(0, .slice (some ⟨b, 0, none⟩) n cap), (1, .int .i64 a), (4, .func (.func 45) #[] #[]), (10, .int .i64 s.i), (11, .int .i64 s.j)]) (fun _ => (b, .cells ((W).flatMap Ln.cells ++ post).toArray 79 (0, 0)) :: G) (fun s => s.j - s.i) ⟨m, e⟩ (Sea.start (by omega)) KeepF.auto Sub.autoP ?_
    intro s hs9
    obtain ⟨i, j⟩ := s
    dsimp only at hs9 ⊢
    have hse := hs9
    obtain ⟨hb1, hb2, hb3, hb4, hb5⟩ := hs9
    refine aw_seq ?_
    refine aw_seq_region ?_
    refine sr_mv ?_
    refine sr_mv ?_
    refine sr_c (x_lt rfl rfl) (fun h2 => ?_) (fun h2 => ?_)
    · refine sr_nil ?_
      refine aw_kp [0, 1, 4, 10, 11, 31, 32, 33] ?_
      refine aw_true rfl ?_
      refine aw_skip ?_
      show AW _ _ _ _ _ _ _
      refine aw_block ?_
      refine aw_seq_region ?_
      refine sr_mv ?_
      refine sr_mv ?_
      refine sr_rd (x_add' rfl rfl (i64w (by omega) (by omega))) ?_
      refine sr_rd (x_conv' Try.underlying3 Try.underlying88 rfl (u64w (by omega) (by omega))) ?_
      refine sr_rd (x_cast (x_shr rfl rfl (by omega)) (shrH (i) (j))) ?_
      refine sr_rd (x_conv' Try.underlying88 Try.underlying3 rfl (i64w (by omega) (by omega))) ?_
      refine sr_as ?_
      refine sr_nil ?_
      refine aw_kp [0, 1, 4, 10, 11, 12, 31, 32, 33, 34, 35, 36, 37, 38, 39] ?_
      refine aw_seq_dr ⟨_, 11, 220, [[], [], [], [1, 2], [1, 2, 3], [], [], [5, 6], [5, 6, 7], [0, 1, 2, 3, 4, 5, 6, 7, 8], [0, 1, 2, 3, 4, 5, 6, 7, 8, 9]], [.light, .light, .light, .light, .mem, .light, .light, .light, .mem, .call, .light]⟩ (by kernel_rfl) rfl rfl mix ?_
      refine dr_l (x_move rfl) ?_
      refine dr_l (x_move rfl) ?_
      refine dr_l (x_move rfl) ?_
      refine dr_l (x_indexAddrN ((i + j) / 2) Try.underlying66 sz79 rfl rfl rfl (by omega) (by omega)) ?_
      refine dr_mem0 rfl rfl (wtd_none rfl) (x_loadN ag79 sz79 rfl ((cells_flat0 (n := 6) (enc := Ln.cells) (fun _ => rfl) (xs := W) (post := post) (show (b, Obj.cells ((W).flatMap Ln.cells ++ post).toArray 79 (0, 0)) ∈ _ from mauto) (gd_some (by omega)))) rfl) ?_
      refine dr_l (x_move rfl) ?_
      refine dr_l (x_move rfl) ?_
      refine dr_l (x_indexAddrN (a) Try.underlying66 sz79 rfl rfl rfl (by omega) (by omega)) ?_
      refine dr_mem0 rfl rfl (wtd_none rfl) (x_loadN ag79 sz79 rfl ((cells_flat0 (n := 6) (enc := Ln.cells) (fun _ => rfl) (xs := W) (post := post) (show (b, Obj.cells ((W).flatMap Ln.cells ++ post).toArray 79 (0, 0)) ∈ _ from mauto) (gd_some (by omega)))) rfl) ?_
      refine dr_callq0 rfl rfl (wtd_none rfl) (opS_F rfl rfl rfl rfl cl45 ((hcmp (gd W ((i + j) / 2)) (gd W a) _ Sub.autoR))) (⟨_, rfl⟩) ?_
      rintro _ rfl
      refine dr_cmp rfl rfl (wtd_none rfl) (x_lt rfl rfl) (fun h3 => ?_) (fun h3 => ?_)
      · refine dr_nil0 ?_
        refine aw_kp [0, 1, 4, 10, 11, 12, 31, 32, 33, 34, 35, 36, 37, 38, 39, 40, 41, 42, 43, 44, 45, 46, 47, 48, 49, 50] ?_
        refine aw_true rfl ?_
        refine aw_region ?_
        refine sr_mv ?_
        refine sr_rd (x_add' rfl rfl (i64w (by omega) (by omega))) ?_
        refine sr_as ?_
        refine sr_nil ?_
        show ∃ s', _ ∧ _ ∧ _ ∧ _
        first | exact ⟨⟨(i + j) / 2 + 1, j⟩, hse.right (mono_up hsw hB) (by omega) (fun h => h (by assumption)), by dsimp only; omega, KeepF.auto, Sub.autoP⟩ | exact ⟨⟨i, (i + j) / 2⟩, hse.left (mono_up hsw hB) (by omega) (by assumption), by dsimp only; omega, KeepF.auto, Sub.autoP⟩
      · refine dr_nil0 ?_
        refine aw_kp [0, 1, 4, 10, 11, 12, 31, 32, 33, 34, 35, 36, 37, 38, 39, 40, 41, 42, 43, 44, 45, 46, 47, 48, 49, 50] ?_
        refine aw_false rfl ?_
        refine aw_region ?_
        refine sr_mv ?_
        refine sr_as ?_
        refine sr_nil ?_
        show ∃ s', _ ∧ _ ∧ _ ∧ _
        first | exact ⟨⟨(i + j) / 2 + 1, j⟩, hse.right (mono_up hsw hB) (by omega) (fun h => h (by assumption)), by dsimp only; omega, KeepF.auto, Sub.autoP⟩ | exact ⟨⟨i, (i + j) / 2⟩, hse.left (mono_up hsw hB) (by omega) (by assumption), by dsimp only; omega, KeepF.auto, Sub.autoP⟩
    · refine sr_nil ?_
      refine aw_kp [0, 1, 4, 10, 11, 31, 32, 33] ?_
      refine aw_false rfl ?_
      refine aw_exit ?_
      show AW _ _ _ _ _ _ _
      refine aw_seq ?_
      refine aw_seq_region ?_
      refine sr_mv ?_
      refine sr_as ?_
      refine sr_nil ?_
      refine aw_kp [0, 1, 4, 10, 13] ?_
      refine aw_block ?_
      refine aw_loop (ι := SortG Ln) (fun s => a ≤ s.k ∧ s.k + 1 ≤ i ∧ s.W.length = n ∧ Mv W (rotF a (a + 1) (s.k + 1)) s.W) (fun s => [(0, .slice (some ⟨b, 0, none⟩) n cap), (10, .int .i64 i), (13, .int .i64 s.k)]) (fun s => (b, .cells ((s.W).flatMap Ln.cells ++ post).toArray 79 (0, 0)) :: G) (fun s => i - s.k) ⟨a, W⟩ (⟨Nat.le_refl _, by dsimp only; omega, hl, Mv.refl _ (rotF_one a)⟩) KeepF.auto Sub.autoP ?_
      intro s hs9
      obtain ⟨k, cur⟩ := s
      dsimp only at hs9 ⊢
      obtain ⟨hk1, hk2, hcl, hmv⟩ := hs9
      refine aw_seq ?_
      refine aw_seq_region ?_
      refine sr_mv ?_
      refine sr_mv ?_
      refine sr_rd (x_sub' rfl rfl (i64w (by omega) (by omega))) ?_
      refine sr_c (x_lt rfl rfl) (fun h4 => ?_) (fun h4 => ?_)
      · refine sr_nil ?_
        refine aw_kp [0, 10, 13, 55, 56, 57, 58] ?_
        refine aw_true rfl ?_
        refine aw_skip ?_
        show AW _ _ _ _ _ _ _
        refine aw_seq ?_
        refine aw_block ?_
        refine aw_dr ⟨_, 18, 220, [[], [], [], [], [3], [], [], [6], [5, 6, 7], [5, 6, 7, 8], [], [], [10, 11], [10, 11, 12], [0, 1, 5, 6, 7, 8, 9, 10, 11, 12, 13], [0, 1, 5, 6, 7, 8, 9, 10, 11, 12, 13, 14], [0, 1, 2, 3, 4, 5, 6, 7, 8, 9, 10, 11, 12, 13, 14, 15], [0, 1, 2, 3, 4, 5, 6, 7, 8, 9, 10, 11, 12, 13, 14, 15, 16]], [.light, .light, .light, .light, .light, .light, .light, .light, .light, .mem, .light, .light, .light, .mem, .light, .eff, .light, .eff]⟩ (by kernel_rfl) rfl rfl mix ?_
        refine dr_l (x_move rfl) ?_
        refine dr_l (x_move rfl) ?_
        refine dr_l (x_move rfl) ?_
        refine dr_l (x_move rfl) ?_
        refine dr_l (x_add' rfl rfl (i64w (by omega) (by omega))) ?_
        refine dr_l (x_move rfl) ?_
        refine dr_l (x_move rfl) ?_
        refine dr_l (x_add' rfl rfl (i64w (by omega) (by omega))) ?_
        refine dr_l (x_indexAddrN (k + 1) Try.underlying66 sz79 rfl rfl rfl (by omega) (by omega)) ?_
        refine dr_mem0 rfl rfl (wtd_none rfl) (x_loadN ag79 sz79 rfl ((cells_flat0 (n := 6) (enc := Ln.cells) (fun _ => rfl) (xs := cur) (post := post) (show (b, Obj.cells ((cur).flatMap Ln.cells ++ post).toArray 79 (0, 0)) ∈ _ from mauto) (gd_some (by omega)))) rfl) ?_
        refine dr_l (x_move rfl) ?_
        refine dr_l (x_move rfl) ?_
        refine dr_l (x_indexAddrN (k) Try.underlying66 sz79 rfl rfl rfl (by omega) (by omega)) ?_
        refine dr_mem0 rfl rfl (wtd_none rfl) (x_loadN ag79 sz79 rfl ((cells_flat0 (n := 6) (enc := Ln.cells) (fun _ => rfl) (xs := cur) (post := post) (show (b, Obj.cells ((cur).flatMap Ln.cells ++ post).toArray 79 (0, 0)) ∈ _ from mauto) (gd_some (by omega)))) rfl) ?_
        refine dr_l (x_indexAddrN (k) Try.underlying66 sz79 rfl rfl rfl (by omega) (by omega)) ?_
        refine dr_store0 rfl rfl (wtd_none rfl) (x_store sz79 rfl rfl rfl rfl rfl Repl.auto (spl_flat0 (n := 6) (enc := Ln.cells) (fun _ => rfl) (xs := cur) (post := post) (i := (k)) (x' := gd cur (k + 1)) (by first | omega | (rw [List.length_set]; omega)))) (by first | rfl | simp [keys_append, keys_cons]) ?_
        refine dr_l (x_indexAddrN (k + 1) Try.underlying66 sz79 rfl rfl rfl (by omega) (by omega)) ?_
        refine dr_store0 rfl rfl (wtd_none rfl) (x_store sz79 rfl rfl rfl rfl rfl Repl.auto (spl_flat0 (n := 6) (enc := Ln.cells) (fun _ => rfl) (xs := ((cur).set (k) (gd cur (k + 1)))) (post := post) (i := (k + 1)) (x' := gd cur (k)) (by first | omega | (rw [List.length_set]; omega)))) (by first | rfl | simp [keys_append, keys_cons]) ?_
        refine dr_nil0 ?_
        show AW _ _ _ _ _ _ _
        refine aw_region ?_
        refine sr_mv ?_
        refine sr_rd (x_add' rfl rfl (i64w (by omega) (by omega))) ?_
        refine sr_as ?_
        refine sr_nil ?_
        show ∃ s', _ ∧ _ ∧ _ ∧ _
        exact ⟨⟨k + 1, sw cur k (k + 1)⟩, ⟨by dsimp only; omega, by dsimp only; omega, sw_len.trans hcl, hmv.sw (by omega) (by omega) (rotF_up hk1)⟩, by dsimp only; omega, KeepF.auto, Sub.autoP⟩
      · refine sr_nil ?_
        refine aw_kp [0, 10, 13, 55, 56, 57, 58] ?_
        refine aw_false rfl ?_
        refine aw_exit ?_
        show AW _ _ _ _ _ _ _
        refine aw_ret ?_
        show ∃ v H2, ResV _ _ _ _ _ _ v ∧ Sub H2 _ ∧ _
        first | (obtain rfl : i = j := (by omega); obtain rfl : m = a + 1 := (by omega); obtain rfl : i = k + 1 := (by omega); exact ⟨_, _, resV rfl .nil, Sub.refl _, cur, Mg.one_up hsw (by omega) (by omega) (by omega) hB (fun h q1 q2 => Classical.not_not.1 (hb4 h q1 q2)) hb5 hmv, rfl, rfl⟩) | (obtain rfl : i = j := (by omega); obtain rfl : e = m + 1 := (by omega); obtain rfl : k = i := (by omega); exact ⟨_, _, resV rfl .nil, Sub.refl _, cur, Mg.one_down hsw (by omega) (by omega) (by omega) hA hb4 hb5 hmv, rfl, rfl⟩) | exact ⟨_, _, resV rfl .nil, Sub.refl _, W3, merge_end (by omega) hst1 hin1 hp4 hmg2 hmg3, rfl, rfl⟩ | exact ⟨_, _, resV rfl .nil, Sub.refl _, W2, merge_end (by omega) hst1 hin1 hp4 hmg2 (Mg.triv (s := d + m - i) (by omega) (hp4.2.2.1.same fun k q1 q2 => hmg2.2.1.2.1 k (by omega)) (hp4.2.2.2.1.same fun k q1 q2 => hmg2.2.1.2.1 k (by omega))), rfl, rfl⟩
  · refine sr_nil ?_
    refine aw_kp [0, 1, 2, 3, 4, 28] ?_
    refine aw_false rfl ?_
    refine aw_skip ?_
    show AW _ _ _ _ _ _ _
    refine aw_seq ?_
    refine aw_seq_region ?_
    refine sr_mv ?_
    refine sr_mv ?_
    refine sr_rd (x_sub' rfl rfl (i64w (by omega) (by omega))) ?_
    refine sr_c (x_eq rfl rfl) (fun h5 => ?_) (fun h5 => ?_)
    · refine sr_nil ?_
      refine aw_kp [0, 1, 2, 3, 4, 80] ?_
      refine aw_true rfl ?_
      refine aw_seq_region ?_
      refine sr_mv ?_
      refine sr_as ?_
      refine sr_nil ?_
      refine aw_kp [0, 1, 2, 3, 4, 14] ?_
      refine aw_seq_region ?_
      refine sr_mv ?_
      refine sr_as ?_
      refine sr_nil ?_
      refine aw_kp [0, 1, 2, 3, 4, 14, 15] ?_
      refine aw_seq ?_
      refine aw_block ?_
      refine aw_loop (ι := SeaG) (fun s => Sea (fun h => c (gd W m) (gd W h) < 0) a m s.i s.j) (fun s => [(0, .slice (some ⟨b, 0, none⟩) n cap), (2, .int .i64 m), (4, .func (.func 45) #[] #[]), (14, .int .i64 s.i), (15, .int .i64 s.j)]) (fun _ => (b, .cells ((W).flatMap Ln.cells ++ post).toArray 79 (0, 0)) :: G) (fun s => s.j - s.i) ⟨a, m⟩ (Sea.start (by omega)) KeepF.auto Sub.autoP ?_
      intro s hs9
      obtain ⟨i, j⟩ := s
      dsimp only at hs9 ⊢
      have hse := hs9
      obtain ⟨hb1, hb2, hb3, hb4, hb5⟩ := hs9
      refine aw_seq ?_
      refine aw_seq_region ?_
      refine sr_mv ?_
      refine sr_mv ?_
      refine sr_c (x_lt rfl rfl) (fun h6 => ?_) (fun h6 => ?_)
      · refine sr_nil ?_
        refine aw_kp [0, 2, 4, 14, 15, 83, 84, 85] ?_
        refine aw_true rfl ?_
        refine aw_skip ?_
        show AW _ _ _ _ _ _ _
        refine aw_block ?_
        refine aw_seq_region ?_
        refine sr_mv ?_
        refine sr_mv ?_
        refine sr_rd (x_add' rfl rfl (i64w (by omega) (by omega))) ?_
        refine sr_rd (x_conv' Try.underlying3 Try.underlying88 rfl (u64w (by omega) (by omega))) ?_
        refine sr_rd (x_cast (x_shr rfl rfl (by omega)) (shrH (i) (j))) ?_
        refine sr_rd (x_conv' Try.underlying88 Try.underlying3 rfl (i64w (by omega) (by omega))) ?_
        refine sr_as ?_
        refine sr_nil ?_
        refine aw_kp [0, 2, 4, 14, 15, 16, 83, 84, 85, 86, 87, 88, 89, 90, 91] ?_
        refine aw_seq_dr ⟨_, 12, 220, [[], [], [], [1, 2], [1, 2, 3], [], [], [5, 6], [5, 6, 7], [0, 1, 2, 3, 4, 5, 6, 7, 8], [0, 1, 2, 3, 4, 5, 6, 7, 8, 9], [0, 1, 2, 3, 4, 5, 6, 7, 8, 9, 10]], [.light, .light, .light, .light, .mem, .light, .light, .light, .mem, .call, .light, .light]⟩ (by kernel_rfl) rfl rfl mix ?_
        refine dr_l (x_move rfl) ?_
        refine dr_l (x_move rfl) ?_
        refine dr_l (x_move rfl) ?_
        refine dr_l (x_indexAddrN (m) Try.underlying66 sz79 rfl rfl rfl (by omega) (by omega)) ?_
        refine dr_mem0 rfl rfl (wtd_none rfl) (x_loadN ag79 sz79 rfl ((cells_flat0 (n := 6) (enc := Ln.cells) (fun _ => rfl) (xs := W) (post := post) (show (b, Obj.cells ((W).flatMap Ln.cells ++ post).toArray 79 (0, 0)) ∈ _ from mauto) (gd_some (by omega)))) rfl) ?_
        refine dr_l (x_move rfl) ?_
        refine dr_l (x_move rfl) ?_
        refine dr_l (x_indexAddrN ((i + j) / 2) Try.underlying66 sz79 rfl rfl rfl (by omega) (by omega)) ?_
        refine dr_mem0 rfl rfl (wtd_none rfl) (x_loadN ag79 sz79 rfl ((cells_flat0 (n := 6) (enc := Ln.cells) (fun _ => rfl) (xs := W) (post := post) (show (b, Obj.cells ((W).flatMap Ln.cells ++ post).toArray 79 (0, 0)) ∈ _ from mauto) (gd_some (by omega)))) rfl) ?_
        refine dr_callq0 rfl rfl (wtd_none rfl) (opS_F rfl rfl rfl rfl cl45 ((hcmp (gd W m) (gd W ((i + j) / 2)) _ Sub.autoR))) (⟨_, rfl⟩) ?_
        rintro _ rfl
        refine dr_cmp rfl rfl (wtd_none rfl) (x_lt rfl rfl) (fun h7 => ?_) (fun h7 => ?_)
        · refine dr_l (x_not rfl) ?_
          refine dr_nil0 ?_
          refine aw_kp [0, 2, 4, 14, 15, 16, 83, 84, 85, 86, 87, 88, 89, 90, 91, 92, 93, 94, 95, 96, 97, 98, 99, 100, 101, 102, 103] ?_
          refine aw_false rfl ?_
          refine aw_region ?_
          refine sr_mv ?_
          refine sr_as ?_
          refine sr_nil ?_
          show ∃ s', _ ∧ _ ∧ _ ∧ _
          first | exact ⟨⟨(i + j) / 2 + 1, j⟩, hse.right (mono_dn hsw hA) (by omega) (by assumption), by dsimp only; omega, KeepF.auto, Sub.autoP⟩ | exact ⟨⟨i, (i + j) / 2⟩, hse.left (mono_dn hsw hA) (by omega) (by assumption), by dsimp only; omega, KeepF.auto, Sub.autoP⟩
        · refine dr_l (x_not rfl) ?_
          refine dr_nil0 ?_
          refine aw_kp [0, 2, 4, 14, 15, 16, 83, 84, 85, 86, 87, 88, 89, 90, 91, 92, 93, 94, 95, 96, 97, 98, 99, 100, 101, 102, 103] ?_
          refine aw_true rfl ?_
          refine aw_region ?_
          refine sr_mv ?_
          refine sr_rd (x_add' rfl rfl (i64w (by omega) (by omega))) ?_
          refine sr_as ?_
          refine sr_nil ?_
          show ∃ s', _ ∧ _ ∧ _ ∧ _
          first | exact ⟨⟨(i + j) / 2 + 1, j⟩, hse.right (mono_dn hsw hA) (by omega) (by assumption), by dsimp only; omega, KeepF.auto, Sub.autoP⟩ | exact ⟨⟨i, (i + j) / 2⟩, hse.left (mono_dn hsw hA) (by omega) (by assumption), by dsimp only; omega, KeepF.auto, Sub.autoP⟩
      · refine sr_nil ?_
        refine aw_kp [0, 2, 4, 14, 15, 83, 84, 85] ?_
        refine aw_false rfl ?_
        refine aw_exit ?_
        show AW _ _ _ _ _ _ _
        refine aw_seq ?_
        refine aw_seq_region ?_
        refine sr_mv ?_
        refine sr_as ?_
        refine sr_nil ?_
        refine aw_kp [0, 2, 4, 14, 17] ?_
        refine aw_block ?_
        refine aw_loop (ι := SortG Ln) (fun s => i ≤ s.k ∧ s.k ≤ m ∧ s.W.length = n ∧ Mv W (rotF s.k m (m + 1)) s.W) (fun s => [(0, .slice (some ⟨b, 0, none⟩) n cap), (14, .int .i64 i), (17, .int .i64 s.k)]) (fun s => (b, .cells ((s.W).flatMap Ln.cells ++ post).toArray 79 (0, 0)) :: G) (fun s => s.k) ⟨m, W⟩ (⟨by dsimp only; omega, Nat.le_refl _, hl, Mv.refl _ (rotF_self m)⟩) KeepF.auto Sub.autoP ?_
        intro s hs9
        obtain ⟨k, cur⟩ := s
        dsimp only at hs9 ⊢
        obtain ⟨hk1, hk2, hcl, hmv⟩ := hs9
        refine aw_seq ?_
        refine aw_seq_region ?_
        refine sr_mv ?_
        refine sr_mv ?_
        refine sr_c (x_gt rfl rfl) (fun h8 => ?_) (fun h8 => ?_)
        · refine sr_nil ?_
          refine aw_kp [0, 14, 17, 108, 109, 110] ?_
          refine aw_true rfl ?_
          refine aw_skip ?_
          show AW _ _ _ _ _ _ _
          refine aw_seq ?_
          refine aw_block ?_
          refine aw_dr ⟨_, 18, 220, [[], [], [], [], [3], [], [], [6], [5, 6, 7], [5, 6, 7, 8], [], [], [10, 11], [10, 11, 12], [0, 1, 5, 6, 7, 8, 9, 10, 11, 12, 13], [0, 1, 5, 6, 7, 8, 9, 10, 11, 12, 13, 14], [0, 1, 2, 3, 4, 5, 6, 7, 8, 9, 10, 11, 12, 13, 14, 15], [0, 1, 2, 3, 4, 5, 6, 7, 8, 9, 10, 11, 12, 13, 14, 15, 16]], [.light, .light, .light, .light, .light, .light, .light, .light, .light, .mem, .light, .light, .light, .mem, .light, .eff, .light, .eff]⟩ (by kernel_rfl) rfl rfl mix ?_
          refine dr_l (x_move rfl) ?_
          refine dr_l (x_move rfl) ?_
          refine dr_l (x_move rfl) ?_
          refine dr_l (x_move rfl) ?_
          refine dr_l (x_cast (u := .int .i64 ((k - 1 : Nat) : Int)) (x_sub' rfl rfl (i64w (by omega) (by omega))) (by congr 1; omega)) ?_
          refine dr_l (x_move rfl) ?_
          refine dr_l (x_move rfl) ?_
          refine dr_l (x_cast (u := .int .i64 ((k - 1 : Nat) : Int)) (x_sub' rfl rfl (i64w (by omega) (by omega))) (by congr 1; omega)) ?_
          refine dr_l (x_indexAddrN (k - 1) Try.underlying66 sz79 rfl rfl rfl (by omega) (by omega)) ?_
          refine dr_mem0 rfl rfl (wtd_none rfl) (x_loadN ag79 sz79 rfl ((cells_flat0 (n := 6) (enc := Ln.cells) (fun _ => rfl) (xs := cur) (post := post) (show (b, Obj.cells ((cur).flatMap Ln.cells ++ post).toArray 79 (0, 0)) ∈ _ from mauto) (gd_some (by omega)))) rfl) ?_
          refine dr_l (x_move rfl) ?_
          refine dr_l (x_move rfl) ?_
          refine dr_l (x_indexAddrN (k) Try.underlying66 sz79 rfl rfl rfl (by omega) (by omega)) ?_
          refine dr_mem0 rfl rfl (wtd_none rfl) (x_loadN ag79 sz79 rfl ((cells_flat0 (n := 6) (enc := Ln.cells) (fun _ => rfl) (xs := cur) (post := post) (show (b, Obj.cells ((cur).flatMap Ln.cells ++ post).toArray 79 (0, 0)) ∈ _ from mauto) (gd_some (by omega)))) rfl) ?_
          refine dr_l (x_indexAddrN (k) Try.underlying66 sz79 rfl rfl rfl (by omega) (by omega)) ?_
          refine dr_store0 rfl rfl (wtd_none rfl) (x_store sz79 rfl rfl rfl rfl rfl Repl.auto (spl_flat0 (n := 6) (enc := Ln.cells) (fun _ => rfl) (xs := cur) (post := post) (i := (k)) (x' := gd cur (k - 1)) (by first | omega | (rw [List.length_set]; omega)))) (by first | rfl | simp [keys_append, keys_cons]) ?_
          refine dr_l (x_indexAddrN (k - 1) Try.underlying66 sz79 rfl rfl rfl (by omega) (by omega)) ?_
          refine dr_store0 rfl rfl (wtd_none rfl) (x_store sz79 rfl rfl rfl rfl rfl Repl.auto (spl_flat0 (n := 6) (enc := Ln.cells) (fun _ => rfl) (xs := ((cur).set (k) (gd cur (k - 1)))) (post := post) (i := (k - 1)) (x' := gd cur (k)) (by first | omega | (rw [List.length_set]; omega)))) (by first | rfl | simp [keys_append, keys_cons]) ?_
          refine dr_nil0 ?_
          show AW _ _ _ _ _ _ _
          refine aw_region ?_
          refine sr_mv ?_
          refine sr_rd (x_cast (u := .int .i64 ((k - 1 : Nat) : Int)) (x_sub' rfl rfl (i64w (by omega) (by omega))) (by congr 1; omega)) ?_
          refine sr_as ?_
          refine sr_nil ?_
          show ∃ s', _ ∧ _ ∧ _ ∧ _
          exact ⟨⟨k - 1, sw cur k (k - 1)⟩, ⟨by dsimp only; omega, by dsimp only; omega, sw_len.trans hcl, hmv.sw (by omega) (by omega) (rotF_down (by omega) hk2)⟩, by dsimp only; omega, KeepF.auto, Sub.autoP⟩
        · refine sr_nil ?_
          refine aw_kp [0, 14, 17, 108, 109, 110] ?_
          refine aw_false rfl ?_
          refine aw_exit ?_
          show AW _ _ _ _ _ _ _
          refine aw_ret ?_
          show ∃ v H2, ResV _ _ _ _ _ _ v ∧ Sub H2 _ ∧ _
          first | (obtain rfl : i = j := (by omega); obtain rfl : m = a + 1 := (by omega); obtain rfl : i = k + 1 := (by omega); exact ⟨_, _, resV rfl .nil, Sub.refl _, cur, Mg.one_up hsw (by omega) (by omega) (by omega) hB (fun h q1 q2 => Classical.not_not.1 (hb4 h q1 q2)) hb5 hmv, rfl, rfl⟩) | (obtain rfl : i = j := (by omega); obtain rfl : e = m + 1 := (by omega); obtain rfl : k = i := (by omega); exact ⟨_, _, resV rfl .nil, Sub.refl _, cur, Mg.one_down hsw (by omega) (by omega) (by omega) hA hb4 hb5 hmv, rfl, rfl⟩) | exact ⟨_, _, resV rfl .nil, Sub.refl _, W3, merge_end (by omega) hst1 hin1 hp4 hmg2 hmg3, rfl, rfl⟩ | exact ⟨_, _, resV rfl .nil, Sub.refl _, W2, merge_end (by omega) hst1 hin1 hp4 hmg2 (Mg.triv (s := d + m - i) (by omega) (hp4.2.2.1.same fun k q1 q2 => hmg2.2.1.2.1 k (by omega)) (hp4.2.2.2.1.same fun k q1 q2 => hmg2.2.1.2.1 k (by omega))), rfl, rfl⟩
    · refine sr_nil ?_
      refine aw_kp [0, 1, 2, 3, 4, 80] ?_
      refine aw_false rfl ?_
      refine aw_skip ?_
      show AW _ _ _ _ _ _ _
      refine aw_seq_region ?_
      refine sr_mv ?_
      refine sr_mv ?_
      refine sr_rd (x_add' rfl rfl (i64w (by omega) (by omega))) ?_
      refine sr_rd (x_conv' Try.underlying3 Try.underlying88 rfl (u64w (by omega) (by omega))) ?_
      refine sr_rd (x_cast (x_shr rfl rfl (by omega)) (shrH (a) (e))) ?_
      refine sr_rd (x_conv' Try.underlying88 Try.underlying3 rfl (i64w (by omega) (by omega))) ?_
      refine sr_as ?_
      refine sr_nil ?_
      refine aw_kp [0, 1, 2, 3, 4, 18] ?_
      refine aw_seq_region ?_
      obtain ⟨d, hd⟩ : ∃ d, d = (a + e) / 2 := ⟨_, rfl⟩
      rw [← hd]
      refine sr_mv ?_
      refine sr_mv ?_
      refine sr_rd (x_cast (u := .int .i64 ((d + m : Nat) : Int)) (x_add' rfl rfl (i64w (by omega) (by omega))) (by congr 1)) ?_
      refine sr_as ?_
      refine sr_nil ?_
      refine aw_kp [0, 1, 2, 3, 4, 18, 19] ?_
      refine aw_seq_region ?_
      refine sr_as ?_
      refine sr_as ?_
      refine sr_nil ?_
      refine aw_kp [0, 1, 2, 3, 4, 18, 19, 20, 21] ?_
      refine aw_seq ?_
      refine aw_seq_region ?_
      refine sr_mv ?_
      refine sr_mv ?_
      refine sr_c (x_gt rfl rfl) (fun h9 => ?_) (fun h9 => ?_)
      · refine sr_nil ?_
        refine aw_kp [0, 1, 2, 3, 4, 18, 19, 20, 21, 140] ?_
        refine aw_true rfl ?_
        refine aw_seq_region ?_
        refine sr_mv ?_
        refine sr_mv ?_
        refine sr_rd (x_cast (u := .int .i64 ((d + m - e : Nat) : Int)) (x_sub' rfl rfl (i64w (by omega) (by omega))) (by congr 1; omega)) ?_
        refine sr_as ?_
        refine sr_nil ?_
        refine aw_kp [0, 1, 2, 3, 4, 18, 19, 20, 21] ?_
        refine aw_region ?_
        refine sr_mv ?_
        refine sr_as ?_
        refine sr_nil ?_
        show AW _ _ _ _ _ _ _
        refine aw_seq_region ?_
        refine sr_mv ?_
        refine sr_rd (x_cast (u := .int .i64 ((d + m - 1 : Nat) : Int)) (x_sub' rfl rfl (i64w (by omega) (by omega))) (by congr 1; omega)) ?_
        refine sr_as ?_
        refine sr_nil ?_
        refine aw_kp [0, 1, 2, 3, 4, 18, 19, 20, 21, 22] ?_
        refine aw_seq ?_
        refine aw_block ?_
        refine aw_loop (ι := SeaG) (fun s => Sea (fun h => c (gd W (d + m - 1 - h)) (gd W h) < 0) (d + m - e) d s.i s.j) (fun s => [(0, .slice (some ⟨b, 0, none⟩) n cap), (1, .int .i64 a), (2, .int .i64 m), (3, .int .i64 e), (4, .func (.func 45) #[] #[]), (18, .int .i64 d), (19, .int .i64 ((d + m : Nat) : Int)), (20, .int .i64 s.i), (21, .int .i64 s.j), (22, .int .i64 ((d + m - 1 : Nat) : Int))]) (fun _ => (b, .cells ((W).flatMap Ln.cells ++ post).toArray 79 (0, 0)) :: G) (fun s => s.j - s.i) ⟨(d + m - e), d⟩ (Sea.start (by omega)) KeepF.auto Sub.autoP ?_
        intro s hs9
        obtain ⟨i, j⟩ := s
        dsimp only at hs9 ⊢
        have hse := hs9
        obtain ⟨hb1, hb2, hb3, hb4, hb5⟩ := hs9
        refine aw_seq ?_
        refine aw_seq_region ?_
        refine sr_mv ?_
        refine sr_mv ?_
        refine sr_c (x_lt rfl rfl) (fun h10 => ?_) (fun h10 => ?_)
        · refine sr_nil ?_
          refine aw_kp [0, 1, 2, 3, 4, 18, 19, 20, 21, 22, 149, 150, 151] ?_
          refine aw_true rfl ?_
          refine aw_skip ?_
          show AW _ _ _ _ _ _ _
          refine aw_block ?_
          refine aw_seq_region ?_
          refine sr_mv ?_
          refine sr_mv ?_
          refine sr_rd (x_add' rfl rfl (i64w (by omega) (by omega))) ?_
          refine sr_rd (x_conv' Try.underlying3 Try.underlying88 rfl (u64w (by omega) (by omega))) ?_
          refine sr_rd (x_cast (x_shr rfl rfl (by omega)) (shrH (i) (j))) ?_
          refine sr_rd (x_conv' Try.underlying88 Try.underlying3 rfl (i64w (by omega) (by omega))) ?_
          refine sr_as ?_
          refine sr_nil ?_
          refine aw_kp [0, 1, 2, 3, 4, 18, 19, 20, 21, 22, 23, 149, 150, 151, 152, 153, 154, 155, 156, 157] ?_
          refine aw_seq_dr ⟨_, 14, 220, [[], [], [], [], [2, 3], [1, 2, 3, 4], [1, 2, 3, 4, 5], [], [], [7, 8], [7, 8, 9], [0, 1, 2, 3, 4, 5, 6, 7, 8, 9, 10], [0, 1, 2, 3, 4, 5, 6, 7, 8, 9, 10, 11], [0, 1, 2, 3, 4, 5, 6, 7, 8, 9, 10, 11, 12]], [.light, .light, .light, .light, .light, .light, .mem, .light, .light, .light, .mem, .call, .light, .light]⟩ (by kernel_rfl) rfl rfl mix ?_
          refine dr_l (x_move rfl) ?_
          refine dr_l (x_move rfl) ?_
          refine dr_l (x_move rfl) ?_
          refine dr_l (x_move rfl) ?_
          refine dr_l (x_cast (u := .int .i64 ((d + m - 1 - (i + j) / 2 : Nat) : Int)) (x_sub' rfl rfl (i64w (by omega) (by omega))) (by congr 1; omega)) ?_
          refine dr_l (x_indexAddrN (d + m - 1 - (i + j) / 2) Try.underlying66 sz79 rfl rfl rfl (by omega) (by omega)) ?_
          refine dr_mem0 rfl rfl (wtd_none rfl) (x_loadN ag79 sz79 rfl ((cells_flat0 (n := 6) (enc := Ln.cells) (fun _ => rfl) (xs := W) (post := post) (show (b, Obj.cells ((W).flatMap Ln.cells ++ post).toArray 79 (0, 0)) ∈ _ from mauto) (gd_some (by omega)))) rfl) ?_
          refine dr_l (x_move rfl) ?_
          refine dr_l (x_move rfl) ?_
          refine dr_l (x_indexAddrN ((i + j) / 2) Try.underlying66 sz79 rfl rfl rfl (by omega) (by omega)) ?_
          refine dr_mem0 rfl rfl (wtd_none rfl) (x_loadN ag79 sz79 rfl ((cells_flat0 (n := 6) (enc := Ln.cells) (fun _ => rfl) (xs := W) (post := post) (show (b, Obj.cells ((W).flatMap Ln.cells ++ post).toArray 79 (0, 0)) ∈ _ from mauto) (gd_some (by omega)))) rfl) ?_
          refine dr_callq0 rfl rfl (wtd_none rfl) (opS_F rfl rfl rfl rfl cl45 ((hcmp (gd W (d + m - 1 - (i + j) / 2)) (gd W ((i + j) / 2)) _ Sub.autoR))) (⟨_, rfl⟩) ?_
          rintro _ rfl
          refine dr_cmp rfl rfl (wtd_none rfl) (x_lt rfl rfl) (fun h11 => ?_) (fun h11 => ?_)
          · refine dr_l (x_not rfl) ?_
            refine dr_nil0 ?_
            refine aw_kp [0, 1, 2, 3, 4, 18, 19, 20, 21, 22, 23, 149, 150, 151, 152, 153, 154, 155, 156, 157, 158, 159, 160, 161, 162, 163, 164, 165, 166, 167, 168, 169, 170, 171] ?_
            refine aw_false rfl ?_
            refine aw_region ?_
            refine sr_mv ?_
            refine sr_as ?_
            refine sr_nil ?_
            show ∃ s', _ ∧ _ ∧ _ ∧ _
            first | exact ⟨⟨(i + j) / 2 + 1, j⟩, hse.right (mono_mid hsw hA hB (by omega) (by omega) (fun h q1 q2 => by omega) : ∀ x y, (d + m - e) ≤ x → x ≤ y → y < d → (fun h => c (gd W (d + m - 1 - h)) (gd W h) < 0) x → (fun h => c (gd W (d + m - 1 - h)) (gd W h) < 0) y) (by omega) (by assumption), by dsimp only; omega, KeepF.auto, Sub.autoP⟩ | exact ⟨⟨i, (i + j) / 2⟩, hse.left (mono_mid hsw hA hB (by omega) (by omega) (fun h q1 q2 => by omega) : ∀ x y, (d + m - e) ≤ x → x ≤ y → y < d → (fun h => c (gd W (d + m - 1 - h)) (gd W h) < 0) x → (fun h => c (gd W (d + m - 1 - h)) (gd W h) < 0) y) (by omega) (by assumption), by dsimp only; omega, KeepF.auto, Sub.autoP⟩
          · refine dr_l (x_not rfl) ?_
            refine dr_nil0 ?_
            refine aw_kp [0, 1, 2, 3, 4, 18, 19, 20, 21, 22, 23, 149, 150, 151, 152, 153, 154, 155, 156, 157, 158, 159, 160, 161, 162, 163, 164, 165, 166, 167, 168, 169, 170, 171] ?_
            refine aw_true rfl ?_
            refine aw_region ?_
            refine sr_mv ?_
            refine sr_rd (x_add' rfl rfl (i64w (by omega) (by omega))) ?_
            refine sr_as ?_
            refine sr_nil ?_
            show ∃ s', _ ∧ _ ∧ _ ∧ _
            first | exact ⟨⟨(i + j) / 2 + 1, j⟩, hse.right (mono_mid hsw hA hB (by omega) (by omega) (fun h q1 q2 => by omega) : ∀ x y, (d + m - e) ≤ x → x ≤ y → y < d → (fun h => c (gd W (d + m - 1 - h)) (gd W h) < 0) x → (fun h => c (gd W (d + m - 1 - h)) (gd W h) < 0) y) (by omega) (by assumption), by dsimp only; omega, KeepF.auto, Sub.autoP⟩ | exact ⟨⟨i, (i + j) / 2⟩, hse.left (mono_mid hsw hA hB (by omega) (by omega) (fun h q1 q2 => by omega) : ∀ x y, (d + m - e) ≤ x → x ≤ y → y < d → (fun h => c (gd W (d + m - 1 - h)) (gd W h) < 0) x → (fun h => c (gd W (d + m - 1 - h)) (gd W h) < 0) y) (by omega) (by assumption), by dsimp only; omega, KeepF.auto, Sub.autoP⟩
        · refine sr_nil ?_
          refine aw_kp [0, 1, 2, 3, 4, 18, 19, 20, 21, 22, 149, 150, 151] ?_
          refine aw_false rfl ?_
          refine aw_exit ?_
          show AW _ _ _ _ _ _ _
          refine aw_seq_region ?_
          refine sr_mv ?_
          refine sr_mv ?_
          refine sr_rd (x_cast (u := .int .i64 ((d + m - i : Nat) : Int)) (x_sub' rfl rfl (i64w (by omega) (by omega))) (by congr 1; omega)) ?_
          refine sr_as ?_
          refine sr_nil ?_
          refine aw_kp [0, 1, 2, 3, 4, 18, 20, 24] ?_
          refine aw_join (ι := List Ln) (fun W1 => W1.length = n ∧ Mv W (rotF i m (d + m - i)) W1) (fun W1 => [(0, .slice (some ⟨b, 0, none⟩) n cap), (1, .int .i64 a), (3, .int .i64 e), (4, .func (.func 45) #[] #[]), (18, .int .i64 d), (20, .int .i64 i), (24, .int .i64 ((d + m - i : Nat) : Int))]) (fun W1 => (b, .cells ((W1).flatMap Ln.cells ++ post).toArray 79 (0, 0)) :: G) ?_ ?_
          · refine aw_seq_region ?_
            refine sr_mv ?_
            refine sr_mv ?_
            refine sr_c (x_lt rfl rfl) (fun h12 => ?_) (fun h12 => ?_)
            · refine sr_mv ?_
              refine sr_ry (x_move rfl) ?_
              refine sr_ry (x_move rfl) ?_
              refine sr_cy (x_lt rfl rfl) (fun h13 => ?_) (fun h13 => ?_)
              · refine sr_rd (x_pick_t rfl rfl rfl) ?_
                refine sr_nil ?_
                refine aw_kp [0, 1, 2, 3, 4, 18, 20, 24, 185] ?_
                refine aw_true rfl ?_
                refine aw_region ?_
                refine sr_mv ?_
                refine sr_mv ?_
                refine sr_mv ?_
                refine sr_mv ?_
                refine sr_mv ?_
                refine sr_d rfl (wtd_none rfl) rfl (opS_call rfl rfl rfl rfl cl71 (AC.sub Sub.autoP (tlRot_s b cap n W post G hl hn hcap hcb i m (d + m - i) (by omega) (by omega) (by omega)))) ?_
                rintro _ _ ⟨W9, hm9, rfl, rfl⟩
                refine sr_nil ?_
                show ∃ s', _ ∧ _ ∧ _
                first | exact ⟨W9, ⟨hm9.1.trans hl, hm9⟩, KeepF.auto, Sub.autoP⟩ | exact ⟨W, ⟨hl, Mv.refl W (rotF_triv (by omega) (by omega) (by omega))⟩, KeepF.auto, Sub.autoP⟩
              · refine sr_rd (x_pick_t rfl rfl rfl) ?_
                refine sr_nil ?_
                refine aw_kp [0, 1, 2, 3, 4, 18, 20, 24, 185] ?_
                refine aw_false rfl ?_
                refine aw_skip ?_
                show ∃ s', _ ∧ _ ∧ _
                first | exact ⟨W9, ⟨hm9.1.trans hl, hm9⟩, KeepF.auto, Sub.autoP⟩ | exact ⟨W, ⟨hl, Mv.refl W (rotF_triv (by omega) (by omega) (by omega))⟩, KeepF.auto, Sub.autoP⟩
            · refine sr_mv ?_
              refine sr_sk ?_
              refine sr_sk ?_
              refine sr_sk ?_
              refine sr_rd (x_pick_f rfl rfl rfl) ?_
              refine sr_nil ?_
              refine aw_kp [0, 1, 2, 3, 4, 18, 20, 24, 185] ?_
              refine aw_false rfl ?_
              refine aw_skip ?_
              show ∃ s', _ ∧ _ ∧ _
              first | exact ⟨W9, ⟨hm9.1.trans hl, hm9⟩, KeepF.auto, Sub.autoP⟩ | exact ⟨W, ⟨hl, Mv.refl W (rotF_triv (by omega) (by omega) (by omega))⟩, KeepF.auto, Sub.autoP⟩
          · intro W1 hW1
            obtain ⟨hl1, hm1⟩ := hW1
            obtain ⟨hst1, hin1, hp4⟩ := merge_cut (d := d) (s := i) (e := d + m - i) hsw (by omega) (by omega) (by omega) (by omega) (by omega) (by omega) (by omega) hA hB (fun q1 q2 => by have h7 : c (gd W (d + m - 1 - i)) (gd W i) < 0 := hb5 i (by omega) (by omega); rw [show d + m - i - 1 = d + m - 1 - i by omega]; exact h7) (fun q1 q2 => by have h7 : ¬ c (gd W (d + m - 1 - (i - 1))) (gd W (i - 1)) < 0 := hb4 (i - 1) (by omega) (by omega); rw [show d + m - 1 - (i - 1) = d + m - i by omega] at h7; exact h7) hm1
            refine aw_join (ι := List Ln) (fun W2 => W2.length = n ∧ Mg c W1 a d W2) (fun W2 => [(0, .slice (some ⟨b, 0, none⟩) n cap), (3, .int .i64 e), (4, .func (.func 45) #[] #[]), (18, .int .i64 d), (24, .int .i64 ((d + m - i : Nat) : Int))]) (fun W2 => (b, .cells ((W2).flatMap Ln.cells ++ post).toArray 79 (0, 0)) :: G) ?_ ?_
            · refine aw_seq_region ?_
              refine sr_mv ?_
              refine sr_mv ?_
              refine sr_c (x_lt rfl rfl) (fun h14 => ?_) (fun h14 => ?_)
              · refine sr_mv ?_
                refine sr_ry (x_move rfl) ?_
                refine sr_ry (x_move rfl) ?_
                refine sr_cy (x_lt rfl rfl) (fun h15 => ?_) (fun h15 => ?_)
                · refine sr_rd (x_pick_t rfl rfl rfl) ?_
                  refine sr_nil ?_
                  refine aw_kp [0, 1, 3, 4, 18, 20, 24, 199] ?_
                  refine aw_true rfl ?_
                  refine aw_region ?_
                  refine sr_mv ?_
                  refine sr_mv ?_
                  refine sr_mv ?_
                  refine sr_mv ?_
                  refine sr_mv ?_
                  refine sr_d rfl (wtd_none rfl) rfl (opS_call rfl rfl rfl rfl cl64 (AC.sub Sub.autoP (ih W1 a i d (by omega) (by omega) (by omega) (by omega) (by omega) (hp4.1) (hp4.2.1)))) ?_
                  rintro _ _ ⟨W8, hmg8, rfl, rfl⟩
                  refine sr_nil ?_
                  show ∃ s', _ ∧ _ ∧ _
                  first | exact ⟨W8, ⟨hmg8.2.1.1.trans hl1, hmg8⟩, KeepF.auto, Sub.autoP⟩ | exact ⟨W1, ⟨hl1, Mg.triv (by omega) hp4.1 hp4.2.1⟩, KeepF.auto, Sub.autoP⟩
                · refine sr_rd (x_pick_t rfl rfl rfl) ?_
                  refine sr_nil ?_
                  refine aw_kp [0, 1, 3, 4, 18, 20, 24, 199] ?_
                  refine aw_false rfl ?_
                  refine aw_skip ?_
                  show ∃ s', _ ∧ _ ∧ _
                  first | exact ⟨W8, ⟨hmg8.2.1.1.trans hl1, hmg8⟩, KeepF.auto, Sub.autoP⟩ | exact ⟨W1, ⟨hl1, Mg.triv (by omega) hp4.1 hp4.2.1⟩, KeepF.auto, Sub.autoP⟩
              · refine sr_mv ?_
                refine sr_sk ?_
                refine sr_sk ?_
                refine sr_sk ?_
                refine sr_rd (x_pick_f rfl rfl rfl) ?_
                refine sr_nil ?_
                refine aw_kp [0, 1, 3, 4, 18, 20, 24, 199] ?_
                refine aw_false rfl ?_
                refine aw_skip ?_
                show ∃ s', _ ∧ _ ∧ _
                first | exact ⟨W8, ⟨hmg8.2.1.1.trans hl1, hmg8⟩, KeepF.auto, Sub.autoP⟩ | exact ⟨W1, ⟨hl1, Mg.triv (by omega) hp4.1 hp4.2.1⟩, KeepF.auto, Sub.autoP⟩
            · intro W2 hW2
              obtain ⟨hl2, hmg2⟩ := hW2
              refine aw_seq_region ?_
              refine sr_mv ?_
              refine sr_mv ?_
              refine sr_c (x_lt rfl rfl) (fun h16 => ?_) (fun h16 => ?_)
              · refine sr_mv ?_
                refine sr_ry (x_move rfl) ?_
                refine sr_ry (x_move rfl) ?_
                refine sr_cy (x_lt rfl rfl) (fun h17 => ?_) (fun h17 => ?_)
                · refine sr_rd (x_pick_t rfl rfl rfl) ?_
                  refine sr_nil ?_
                  refine aw_kp [0, 3, 4, 18, 24, 213] ?_
                  refine aw_true rfl ?_
                  refine aw_region ?_
                  refine sr_mv ?_
                  refine sr_mv ?_
                  refine sr_mv ?_
                  refine sr_mv ?_
                  refine sr_mv ?_
                  refine sr_d rfl (wtd_none rfl) rfl (opS_call rfl rfl rfl rfl cl64 (AC.sub Sub.autoP (ih W2 d (d + m - i) e (by omega) (by omega) (by omega) (by omega) (by omega) ((hp4.2.2.1.same fun k q1 q2 => hmg2.2.1.2.1 k (by omega))) ((hp4.2.2.2.1.same fun k q1 q2 => hmg2.2.1.2.1 k (by omega)))))) ?_
                  rintro _ _ ⟨W3, hmg3, rfl, rfl⟩
                  refine sr_nil ?_
                  show ∃ v H2, ResV _ _ _ _ _ _ v ∧ Sub H2 _ ∧ _
                  first | (obtain rfl : i = j := (by omega); obtain rfl : m = a + 1 := (by omega); obtain rfl : i = k + 1 := (by omega); exact ⟨_, _, resV rfl .nil, Sub.refl _, cur, Mg.one_up hsw (by omega) (by omega) (by omega) hB (fun h q1 q2 => Classical.not_not.1 (hb4 h q1 q2)) hb5 hmv, rfl, rfl⟩) | (obtain rfl : i = j := (by omega); obtain rfl : e = m + 1 := (by omega); obtain rfl : k = i := (by omega); exact ⟨_, _, resV rfl .nil, Sub.refl _, cur, Mg.one_down hsw (by omega) (by omega) (by omega) hA hb4 hb5 hmv, rfl, rfl⟩) | exact ⟨_, _, resV rfl .nil, Sub.refl _, W3, merge_end (by omega) hst1 hin1 hp4 hmg2 hmg3, rfl, rfl⟩ | exact ⟨_, _, resV rfl .nil, Sub.refl _, W2, merge_end (by omega) hst1 hin1 hp4 hmg2 (Mg.triv (s := d + m - i) (by omega) (hp4.2.2.1.same fun k q1 q2 => hmg2.2.1.2.1 k (by omega)) (hp4.2.2.2.1.same fun k q1 q2 => hmg2.2.1.2.1 k (by omega))), rfl, rfl⟩
                · refine sr_rd (x_pick_t rfl rfl rfl) ?_
                  refine sr_nil ?_
                  refine aw_kp [0, 3, 4, 18, 24, 213] ?_
                  refine aw_false rfl ?_
                  refine aw_skip ?_
                  show ∃ v H2, ResV _ _ _ _ _ _ v ∧ Sub H2 _ ∧ _
                  first | (obtain rfl : i = j := (by omega); obtain rfl : m = a + 1 := (by omega); obtain rfl : i = k + 1 := (by omega); exact ⟨_, _, resV rfl .nil, Sub.refl _, cur, Mg.one_up hsw (by omega) (by omega) (by omega) hB (fun h q1 q2 => Classical.not_not.1 (hb4 h q1 q2)) hb5 hmv, rfl, rfl⟩) | (obtain rfl : i = j := (by omega); obtain rfl : e = m + 1 := (by omega); obtain rfl : k = i := (by omega); exact ⟨_, _, resV rfl .nil, Sub.refl _, cur, Mg.one_down hsw (by omega) (by omega) (by omega) hA hb4 hb5 hmv, rfl, rfl⟩) | exact ⟨_, _, resV rfl .nil, Sub.refl _, W3, merge_end (by omega) hst1 hin1 hp4 hmg2 hmg3, rfl, rfl⟩ | exact ⟨_, _, resV rfl .nil, Sub.refl _, W2, merge_end (by omega) hst1 hin1 hp4 hmg2 (Mg.triv (s := d + m - i) (by omega) (hp4.2.2.1.same fun k q1 q2 => hmg2.2.1.2.1 k (by omega)) (hp4.2.2.2.1.same fun k q1 q2 => hmg2.2.1.2.1 k (by omega))), rfl, rfl⟩
              · refine sr_mv ?_
                refine sr_sk ?_
                refine sr_sk ?_
                refine sr_sk ?_
                refine sr_rd (x_pick_f rfl rfl rfl) ?_
                refine sr_nil ?_
                refine aw_kp [0, 3, 4, 18, 24, 213] ?_
                refine aw_false rfl ?_
                refine aw_skip ?_
                show ∃ v H2, ResV _ _ _ _ _ _ v ∧ Sub H2 _ ∧ _
                first | (obtain rfl : i = j := (by omega); obtain rfl : m = a + 1 := (by omega); obtain rfl : i = k + 1 := (by omega); exact ⟨_, _, resV rfl .nil, Sub.refl _, cur, Mg.one_up hsw (by omega) (by omega) (by omega) hB (fun h q1 q2 => Classical.not_not.1 (hb4 h q1 q2)) hb5 hmv, rfl, rfl⟩) | (obtain rfl : i = j := (by omega); obtain rfl : e = m + 1 := (by omega); obtain rfl : k = i := (by omega); exact ⟨_, _, resV rfl .nil, Sub.refl _, cur, Mg.one_down hsw (by omega) (by omega) (by omega) hA hb4 hb5 hmv, rfl, rfl⟩) | exact ⟨_, _, resV rfl .nil, Sub.refl _, W3, merge_end (by omega) hst1 hin1 hp4 hmg2 hmg3, rfl, rfl⟩ | exact ⟨_, _, resV rfl .nil, Sub.refl _, W2, merge_end (by omega) hst1 hin1 hp4 hmg2 (Mg.triv (s := d + m - i) (by omega) (hp4.2.2.1.same fun k q1 q2 => hmg2.2.1.2.1 k (by omega)) (hp4.2.2.2.1.same fun k q1 q2 => hmg2.2.1.2.1 k (by omega))), rfl, rfl⟩
      · refine sr_nil ?_
        refine aw_kp [0, 1, 2, 3, 4, 18, 19, 20, 21, 140] ?_
        refine aw_false rfl ?_
        refine aw_seq_region ?_
        refine sr_mv ?_
        refine sr_as ?_
        refine sr_nil ?_
        refine aw_kp [0, 1, 2, 3, 4, 18, 19, 20, 21] ?_
        refine aw_region ?_
        refine sr_mv ?_
        refine sr_as ?_
        refine sr_nil ?_
        show AW _ _ _ _ _ _ _
        refine aw_seq_region ?_
        refine sr_mv ?_
        refine sr_rd (x_cast (u := .int .i64 ((d + m - 1 : Nat) : Int)) (x_sub' rfl rfl (i64w (by omega) (by omega))) (by congr 1; omega)) ?_
        refine sr_as ?_
        refine sr_nil ?_
        refine aw_kp [0, 1, 2, 3, 4, 18, 19, 20, 21, 22] ?_
        refine aw_seq ?_
        refine aw_block ?_
        refine aw_loop (ι := SeaG) (fun s => Sea (fun h => c (gd W (d + m - 1 - h)) (gd W h) < 0) a m s.i s.j) (fun s => [(0, .slice (some ⟨b, 0, none⟩) n cap), (1, .int .i64 a), (2, .int .i64 m), (3, .int .i64 e), (4, .func (.func 45) #[] #[]), (18, .int .i64 d), (19, .int .i64 ((d + m : Nat) : Int)), (20, .int .i64 s.i), (21, .int .i64 s.j), (22, .int .i64 ((d + m - 1 : Nat) : Int))]) (fun _ => (b, .cells ((W).flatMap Ln.cells ++ post).toArray 79 (0, 0)) :: G) (fun s => s.j - s.i) ⟨a, m⟩ (Sea.start (by omega)) KeepF.auto Sub.autoP ?_
        intro s hs9
        obtain ⟨i, j⟩ := s
        dsimp only at hs9 ⊢
        have hse := hs9
        obtain ⟨hb1, hb2, hb3, hb4, hb5⟩ := hs9
        refine aw_seq ?_
        refine aw_seq_region ?_
        refine sr_mv ?_
        refine sr_mv ?_
        refine sr_c (x_lt rfl rfl) (fun h18 => ?_) (fun h18 => ?_)
        · refine sr_nil ?_
          refine aw_kp [0, 1, 2, 3, 4, 18, 19, 20, 21, 22, 149, 150, 151] ?_
          refine aw_true rfl ?_
          refine aw_skip ?_
          show AW _ _ _ _ _ _ _
          refine aw_block ?_
          refine aw_seq_region ?_
          refine sr_mv ?_
          refine sr_mv ?_
          refine sr_rd (x_add' rfl rfl (i64w (by omega) (by omega))) ?_
          refine sr_rd (x_conv' Try.underlying3 Try.underlying88 rfl (u64w (by omega) (by omega))) ?_
          refine sr_rd (x_cast (x_shr rfl rfl (by omega)) (shrH (i) (j))) ?_
          refine sr_rd (x_conv' Try.underlying88 Try.underlying3 rfl (i64w (by omega) (by omega))) ?_
          refine sr_as ?_
          refine sr_nil ?_
          refine aw_kp [0, 1, 2, 3, 4, 18, 19, 20, 21, 22, 23, 149, 150, 151, 152, 153, 154, 155, 156, 157] ?_
          refine aw_seq_dr ⟨_, 14, 220, [[], [], [], [], [2, 3], [1, 2, 3, 4], [1, 2, 3, 4, 5], [], [], [7, 8], [7, 8, 9], [0, 1, 2, 3, 4, 5, 6, 7, 8, 9, 10], [0, 1, 2, 3, 4, 5, 6, 7, 8, 9, 10, 11], [0, 1, 2, 3, 4, 5, 6, 7, 8, 9, 10, 11, 12]], [.light, .light, .light, .light, .light, .light, .mem, .light, .light, .light, .mem, .call, .light, .light]⟩ (by kernel_rfl) rfl rfl mix ?_
          refine dr_l (x_move rfl) ?_
          refine dr_l (x_move rfl) ?_
          refine dr_l (x_move rfl) ?_
          refine dr_l (x_move rfl) ?_
          refine dr_l (x_cast (u := .int .i64 ((d + m - 1 - (i + j) / 2 : Nat) : Int)) (x_sub' rfl rfl (i64w (by omega) (by omega))) (by congr 1; omega)) ?_
          refine dr_l (x_indexAddrN (d + m - 1 - (i + j) / 2) Try.underlying66 sz79 rfl rfl rfl (by omega) (by omega)) ?_
          refine dr_mem0 rfl rfl (wtd_none rfl) (x_loadN ag79 sz79 rfl ((cells_flat0 (n := 6) (enc := Ln.cells) (fun _ => rfl) (xs := W) (post := post) (show (b, Obj.cells ((W).flatMap Ln.cells ++ post).toArray 79 (0, 0)) ∈ _ from mauto) (gd_some (by omega)))) rfl) ?_
          refine dr_l (x_move rfl) ?_
          refine dr_l (x_move rfl) ?_
          refine dr_l (x_indexAddrN ((i + j) / 2) Try.underlying66 sz79 rfl rfl rfl (by omega) (by omega)) ?_
          refine dr_mem0 rfl rfl (wtd_none rfl) (x_loadN ag79 sz79 rfl ((cells_flat0 (n := 6) (enc := Ln.cells) (fun _ => rfl) (xs := W) (post := post) (show (b, Obj.cells ((W).flatMap Ln.cells ++ post).toArray 79 (0, 0)) ∈ _ from mauto) (gd_some (by omega)))) rfl) ?_
          refine dr_callq0 rfl rfl (wtd_none rfl) (opS_F rfl rfl rfl rfl cl45 ((hcmp (gd W (d + m - 1 - (i + j) / 2)) (gd W ((i + j) / 2)) _ Sub.autoR))) (⟨_, rfl⟩) ?_
          rintro _ rfl
          refine dr_cmp rfl rfl (wtd_none rfl) (x_lt rfl rfl) (fun h19 => ?_) (fun h19 => ?_)
          · refine dr_l (x_not rfl) ?_
            refine dr_nil0 ?_
            refine aw_kp [0, 1, 2, 3, 4, 18, 19, 20, 21, 22, 23, 149, 150, 151, 152, 153, 154, 155, 156, 157, 158, 159, 160, 161, 162, 163, 164, 165, 166, 167, 168, 169, 170, 171] ?_
            refine aw_false rfl ?_
            refine aw_region ?_
            refine sr_mv ?_
            refine sr_as ?_
            refine sr_nil ?_
            show ∃ s', _ ∧ _ ∧ _ ∧ _
            first | exact ⟨⟨(i + j) / 2 + 1, j⟩, hse.right (mono_mid hsw hA hB (by omega) (by omega) (fun h q1 q2 => by omega) : ∀ x y, a ≤ x → x ≤ y → y < m → (fun h => c (gd W (d + m - 1 - h)) (gd W h) < 0) x → (fun h => c (gd W (d + m - 1 - h)) (gd W h) < 0) y) (by omega) (by assumption), by dsimp only; omega, KeepF.auto, Sub.autoP⟩ | exact ⟨⟨i, (i + j) / 2⟩, hse.left (mono_mid hsw hA hB (by omega) (by omega) (fun h q1 q2 => by omega) : ∀ x y, a ≤ x → x ≤ y → y < m → (fun h => c (gd W (d + m - 1 - h)) (gd W h) < 0) x → (fun h => c (gd W (d + m - 1 - h)) (gd W h) < 0) y) (by omega) (by assumption), by dsimp only; omega, KeepF.auto, Sub.autoP⟩
          · refine dr_l (x_not rfl) ?_
            refine dr_nil0 ?_
            refine aw_kp [0, 1, 2, 3, 4, 18, 19, 20, 21, 22, 23, 149, 150, 151, 152, 153, 154, 155, 156, 157, 158, 159, 160, 161, 162, 163, 164, 165, 166, 167, 168, 169, 170, 171] ?_
            refine aw_true rfl ?_
            refine aw_region ?_
            refine sr_mv ?_
            refine sr_rd (x_add' rfl rfl (i64w (by omega) (by omega))) ?_
            refine sr_as ?_
            refine sr_nil ?_
            show ∃ s', _ ∧ _ ∧ _ ∧ _
            first | exact ⟨⟨(i + j) / 2 + 1, j⟩, hse.right (mono_mid hsw hA hB (by omega) (by omega) (fun h q1 q2 => by omega) : ∀ x y, a ≤ x → x ≤ y → y < m → (fun h => c (gd W (d + m - 1 - h)) (gd W h) < 0) x → (fun h => c (gd W (d + m - 1 - h)) (gd W h) < 0) y) (by omega) (by assumption), by dsimp only; omega, KeepF.auto, Sub.autoP⟩ | exact ⟨⟨i, (i + j) / 2⟩, hse.left (mono_mid hsw hA hB (by omega) (by omega) (fun h q1 q2 => by omega) : ∀ x y, a ≤ x → x ≤ y → y < m → (fun h => c (gd W (d + m - 1 - h)) (gd W h) < 0) x → (fun h => c (gd W (d + m - 1 - h)) (gd W h) < 0) y) (by omega) (by assumption), by dsimp only; omega, KeepF.auto, Sub.autoP⟩
        · refine sr_nil ?_
          refine aw_kp [0, 1, 2, 3, 4, 18, 19, 20, 21, 22, 149, 150, 151] ?_
          refine aw_false rfl ?_
          refine aw_exit ?_
          show AW _ _ _ _ _ _ _
          refine aw_seq_region ?_
          refine sr_mv ?_
          refine sr_mv ?_
          refine sr_rd (x_cast (u := .int .i64 ((d + m - i : Nat) : Int)) (x_sub' rfl rfl (i64w (by omega) (by omega))) (by congr 1; omega)) ?_
          refine sr_as ?_
          refine sr_nil ?_
          refine aw_kp [0, 1, 2, 3, 4, 18, 20, 24] ?_
          refine aw_join (ι := List Ln) (fun W1 => W1.length = n ∧ Mv W (rotF i m (d + m - i)) W1) (fun W1 => [(0, .slice (some ⟨b, 0, none⟩) n cap), (1, .int .i64 a), (3, .int .i64 e), (4, .func (.func 45) #[] #[]), (18, .int .i64 d), (20, .int .i64 i), (24, .int .i64 ((d + m - i : Nat) : Int))]) (fun W1 => (b, .cells ((W1).flatMap Ln.cells ++ post).toArray 79 (0, 0)) :: G) ?_ ?_
          · refine aw_seq_region ?_
            refine sr_mv ?_
            refine sr_mv ?_
            refine sr_c (x_lt rfl rfl) (fun h20 => ?_) (fun h20 => ?_)
            · refine sr_mv ?_
              refine sr_ry (x_move rfl) ?_
              refine sr_ry (x_move rfl) ?_
              refine sr_cy (x_lt rfl rfl) (fun h21 => ?_) (fun h21 => ?_)
              · refine sr_rd (x_pick_t rfl rfl rfl) ?_
                refine sr_nil ?_
                refine aw_kp [0, 1, 2, 3, 4, 18, 20, 24, 185] ?_
                refine aw_true rfl ?_
                refine aw_region ?_
                refine sr_mv ?_
                refine sr_mv ?_
                refine sr_mv ?_
                refine sr_mv ?_
                refine sr_mv ?_
                refine sr_d rfl (wtd_none rfl) rfl (opS_call rfl rfl rfl rfl cl71 (AC.sub Sub.autoP (tlRot_s b cap n W post G hl hn hcap hcb i m (d + m - i) (by omega) (by omega) (by omega)))) ?_
                rintro _ _ ⟨W9, hm9, rfl, rfl⟩
                refine sr_nil ?_
                show ∃ s', _ ∧ _ ∧ _
                first | exact ⟨W9, ⟨hm9.1.trans hl, hm9⟩, KeepF.auto, Sub.autoP⟩ | exact ⟨W, ⟨hl, Mv.refl W (rotF_triv (by omega) (by omega) (by omega))⟩, KeepF.auto, Sub.autoP⟩
              · refine sr_rd (x_pick_t rfl rfl rfl) ?_
                refine sr_nil ?_
                refine aw_kp [0, 1, 2, 3, 4, 18, 20, 24, 185] ?_
                refine aw_false rfl ?_
                refine aw_skip ?_
                show ∃ s', _ ∧ _ ∧ _
                first | exact ⟨W9, ⟨hm9.1.trans hl, hm9⟩, KeepF.auto, Sub.autoP⟩ | exact ⟨W, ⟨hl, Mv.refl W (rotF_triv (by omega) (by omega) (by omega))⟩, KeepF.auto, Sub.autoP⟩
            · refine sr_mv ?_
              refine sr_sk ?_
              refine sr_sk ?_
              refine sr_sk ?_
              refine sr_rd (x_pick_f rfl rfl rfl) ?_
              refine sr_nil ?_
              refine aw_kp [0, 1, 2, 3, 4, 18, 20, 24, 185] ?_
              refine aw_false rfl ?_
              refine aw_skip ?_
              show ∃ s', _ ∧ _ ∧ _
              first | exact ⟨W9, ⟨hm9.1.trans hl, hm9⟩, KeepF.auto, Sub.autoP⟩ | exact ⟨W, ⟨hl, Mv.refl W (rotF_triv (by omega) (by omega) (by omega))⟩, KeepF.auto, Sub.autoP⟩
          · intro W1 hW1
            obtain ⟨hl1, hm1⟩ := hW1
            obtain ⟨hst1, hin1, hp4⟩ := merge_cut (d := d) (s := i) (e := d + m - i) hsw (by omega) (by omega) (by omega) (by omega) (by omega) (by omega) (by omega) hA hB (fun q1 q2 => by have h7 : c (gd W (d + m - 1 - i)) (gd W i) < 0 := hb5 i (by omega) (by omega); rw [show d + m - i - 1 = d + m - 1 - i by omega]; exact h7) (fun q1 q2 => by have h7 : ¬ c (gd W (d + m - 1 - (i - 1))) (gd W (i - 1)) < 0 := hb4 (i - 1) (by omega) (by omega); rw [show d + m - 1 - (i - 1) = d + m - i by omega] at h7; exact h7) hm1
            refine aw_join (ι := List Ln) (fun W2 => W2.length = n ∧ Mg c W1 a d W2) (fun W2 => [(0, .slice (some ⟨b, 0, none⟩) n cap), (3, .int .i64 e), (4, .func (.func 45) #[] #[]), (18, .int .i64 d), (24, .int .i64 ((d + m - i : Nat) : Int))]) (fun W2 => (b, .cells ((W2).flatMap Ln.cells ++ post).toArray 79 (0, 0)) :: G) ?_ ?_
            · refine aw_seq_region ?_
              refine sr_mv ?_
              refine sr_mv ?_
              refine sr_c (x_lt rfl rfl) (fun h22 => ?_) (fun h22 => ?_)
              · refine sr_mv ?_
                refine sr_ry (x_move rfl) ?_
                refine sr_ry (x_move rfl) ?_
                refine sr_cy (x_lt rfl rfl) (fun h23 => ?_) (fun h23 => ?_)
                · refine sr_rd (x_pick_t rfl rfl rfl) ?_
                  refine sr_nil ?_
                  refine aw_kp [0, 1, 3, 4, 18, 20, 24, 199] ?_
                  refine aw_true rfl ?_
                  refine aw_region ?_
                  refine sr_mv ?_
                  refine sr_mv ?_
                  refine sr_mv ?_
                  refine sr_mv ?_
                  refine sr_mv ?_
                  refine sr_d rfl (wtd_none rfl) rfl (opS_call rfl rfl rfl rfl cl64 (AC.sub Sub.autoP (ih W1 a i d (by omega) (by omega) (by omega) (by omega) (by omega) (hp4.1) (hp4.2.1)))) ?_
                  rintro _ _ ⟨W8, hmg8, rfl, rfl⟩
                  refine sr_nil ?_
                  show ∃ s', _ ∧ _ ∧ _
                  first | exact ⟨W8, ⟨hmg8.2.1.1.trans hl1, hmg8⟩, KeepF.auto, Sub.autoP⟩ | exact ⟨W1, ⟨hl1, Mg.triv (by omega) hp4.1 hp4.2.1⟩, KeepF.auto, Sub.autoP⟩
                · refine sr_rd (x_pick_t rfl rfl rfl) ?_
                  refine sr_nil ?_
                  refine aw_kp [0, 1, 3, 4, 18, 20, 24, 199] ?_
                  refine aw_false rfl ?_
                  refine aw_skip ?_
                  show ∃ s', _ ∧ _ ∧ _
                  first | exact ⟨W8, ⟨hmg8.2.1.1.trans hl1, hmg8⟩, KeepF.auto, Sub.autoP⟩ | exact ⟨W1, ⟨hl1, Mg.triv (by omega) hp4.1 hp4.2.1⟩, KeepF.auto, Sub.autoP⟩
              · refine sr_mv ?_
                refine sr_sk ?_
                refine sr_sk ?_
                refine sr_sk ?_
                refine sr_rd (x_pick_f rfl rfl rfl) ?_
                refine sr_nil ?_
                refine aw_kp [0, 1, 3, 4, 18, 20, 24, 199] ?_
                refine aw_false rfl ?_
                refine aw_skip ?_
                show ∃ s', _ ∧ _ ∧ _
                first | exact ⟨W8, ⟨hmg8.2.1.1.trans hl1, hmg8⟩, KeepF.auto, Sub.autoP⟩ | exact ⟨W1, ⟨hl1, Mg.triv (by omega) hp4.1 hp4.2.1⟩, KeepF.auto, Sub.autoP⟩
            · intro W2 hW2
              obtain ⟨hl2, hmg2⟩ := hW2
              refine aw_seq_region ?_
              refine sr_mv ?_
              refine sr_mv ?_
              refine sr_c (x_lt rfl rfl) (fun h24 => ?_) (fun h24 => ?_)
              · refine sr_mv ?_
                refine sr_ry (x_move rfl) ?_
                refine sr_ry (x_move rfl) ?_
                refine sr_cy (x_lt rfl rfl) (fun h25 => ?_) (fun h25 => ?_)
                · refine sr_rd (x_pick_t rfl rfl rfl) ?_
                  refine sr_nil ?_
                  refine aw_kp [0, 3, 4, 18, 24, 213] ?_
                  refine aw_true rfl ?_
                  refine aw_region ?_
                  refine sr_mv ?_
                  refine sr_mv ?_
                  refine sr_mv ?_
                  refine sr_mv ?_
                  refine sr_mv ?_
                  refine sr_d rfl (wtd_none rfl) rfl (opS_call rfl rfl rfl rfl cl64 (AC.sub Sub.autoP (ih W2 d (d + m - i) e (by omega) (by omega) (by omega) (by omega) (by omega) ((hp4.2.2.1.same fun k q1 q2 => hmg2.2.1.2.1 k (by omega))) ((hp4.2.2.2.1.same fun k q1 q2 => hmg2.2.1.2.1 k (by omega)))))) ?_
                  rintro _ _ ⟨W3, hmg3, rfl, rfl⟩
                  refine sr_nil ?_
                  show ∃ v H2, ResV _ _ _ _ _ _ v ∧ Sub H2 _ ∧ _
                  first | (obtain rfl : i = j := (by omega); obtain rfl : m = a + 1 := (by omega); obtain rfl : i = k + 1 := (by omega); exact ⟨_, _, resV rfl .nil, Sub.refl _, cur, Mg.one_up hsw (by omega) (by omega) (by omega) hB (fun h q1 q2 => Classical.not_not.1 (hb4 h q1 q2)) hb5 hmv, rfl, rfl⟩) | (obtain rfl : i = j := (by omega); obtain rfl : e = m + 1 := (by omega); obtain rfl : k = i := (by omega); exact ⟨_, _, resV rfl .nil, Sub.refl _, cur, Mg.one_down hsw (by omega) (by omega) (by omega) hA hb4 hb5 hmv, rfl, rfl⟩) | exact ⟨_, _, resV rfl .nil, Sub.refl _, W3, merge_end (by omega) hst1 hin1 hp4 hmg2 hmg3, rfl, rfl⟩ | exact ⟨_, _, resV rfl .nil, Sub.refl _, W2, merge_end (by omega) hst1 hin1 hp4 hmg2 (Mg.triv (s := d + m - i) (by omega) (hp4.2.2.1.same fun k q1 q2 => hmg2.2.1.2.1 k (by omega)) (hp4.2.2.2.1.same fun k q1 q2 => hmg2.2.1.2.1 k (by omega))), rfl, rfl⟩
                · refine sr_rd (x_pick_t rfl rfl rfl) ?_
                  refine sr_nil ?_
                  refine aw_kp [0, 3, 4, 18, 24, 213] ?_
                  refine aw_false rfl ?_
                  refine aw_skip ?_
                  show ∃ v H2, ResV _ _ _ _ _ _ v ∧ Sub H2 _ ∧ _
                  first | (obtain rfl : i = j := (by omega); obtain rfl : m = a + 1 := (by omega); obtain rfl : i = k + 1 := (by omega); exact ⟨_, _, resV rfl .nil, Sub.refl _, cur, Mg.one_up hsw (by omega) (by omega) (by omega) hB (fun h q1 q2 => Classical.not_not.1 (hb4 h q1 q2)) hb5 hmv, rfl, rfl⟩) | (obtain rfl : i = j := (by omega); obtain rfl : e = m + 1 := (by omega); obtain rfl : k = i := (by omega); exact ⟨_, _, resV rfl .nil, Sub.refl _, cur, Mg.one_down hsw (by omega) (by omega) (by omega) hA hb4 hb5 hmv, rfl, rfl⟩) | exact ⟨_, _, resV rfl .nil, Sub.refl _, W3, merge_end (by omega) hst1 hin1 hp4 hmg2 hmg3, rfl, rfl⟩ | exact ⟨_, _, resV rfl .nil, Sub.refl _, W2, merge_end (by omega) hst1 hin1 hp4 hmg2 (Mg.triv (s := d + m - i) (by omega) (hp4.2.2.1.same fun k q1 q2 => hmg2.2.1.2.1 k (by omega)) (hp4.2.2.2.1.same fun k q1 q2 => hmg2.2.1.2.1 k (by omega))), rfl, rfl⟩
              · refine sr_mv ?_
                refine sr_sk ?_
                refine sr_sk ?_
                refine sr_sk ?_
                refine sr_rd (x_pick_f rfl rfl rfl) ?_
                refine sr_nil ?_
                refine aw_kp [0, 3, 4, 18, 24, 213] ?_
                refine aw_false rfl ?_
                refine aw_skip ?_
                show ∃ v H2, ResV _ _ _ _ _ _ v ∧ Sub H2 _ ∧ _
                first | (obtain rfl : i = j := (by omega); obtain rfl : m = a + 1 := (by omega); obtain rfl : i = k + 1 := (by omega); exact ⟨_, _, resV rfl .nil, Sub.refl _, cur, Mg.one_up hsw (by omega) (by omega) (by omega) hB (fun h q1 q2 => Classical.not_not.1 (hb4 h q1 q2)) hb5 hmv, rfl, rfl⟩) | (obtain rfl : i = j := (by omega); obtain rfl : e = m + 1 := (by omega); obtain rfl : k = i := (by omega); exact ⟨_, _, resV rfl .nil, Sub.refl _, cur, Mg.one_down hsw (by omega) (by omega) (by omega) hA hb4 hb5 hmv, rfl, rfl⟩) | exact ⟨_, _, resV rfl .nil, Sub.refl _, W3, merge_end (by omega) hst1 hin1 hp4 hmg2 hmg3, rfl, rfl⟩ | exact ⟨_, _, resV rfl .nil, Sub.refl _, W2, merge_end (by omega) hst1 hin1 hp4 hmg2 (Mg.triv (s := d + m - i) (by omega) (hp4.2.2.1.same fun k q1 q2 => hmg2.2.1.2.1 k (by omega)) (hp4.2.2.2.1.same fun k q1 q2 => hmg2.2.1.2.1 k (by omega))), rfl, rfl⟩
theorem tlSm_s (b cap n : Nat) (post : List Value) (G : SHeap) (hn : n ≤ 100000) (hcap : n ≤ cap) (hcb : cap ≤ 9223372036854775807) (c : Ln → Ln → Int) (hcmp : ∀ x y V, Sub G V → AC Try.prog W0 45 [Ln.v x, Ln.v y] V (fun v H' => v = .int .i64 (c x y) ∧ H' = V)) (hsw : Swo c) : ∀ (k : Nat) (W : List Ln) (a m e : Nat), W.length = n → e - a ≤ k → a < m → m < e → e ≤ n → SrtI c W a m → SrtI c W m e → AC Try.prog W0 64 [.slice (some ⟨b, 0, none⟩) n cap, .int .i64 (a : Nat), .int .i64 (m : Nat), .int .i64 (e : Nat), .func (.func 45) #[] #[]] ((b, .cells ((W).flatMap Ln.cells ++ post).toArray 79 (0, 0)) :: G) (fun v H' => ∃ W', Mg c W a e W' ∧ v = .tuple #[] ∧ H' = (b, .cells ((W').flatMap Ln.cells ++ post).toArray 79 (0, 0)) :: G) := by
  intro k
  induction k with
  | zero => intro W a m e hl hk h1 h2; omega
  | succ k ih =>
    intro W a m e hl hk h1 h2 h3 hA hB
    exact tlSmW_s b cap n W post G hl hn hcap hcb a m e h1 h2 h3 c hcmp hsw hA hB fun W1 a1 m1 e1 q1 q2 q3 q4 q5 q6 q7 => ih W1 a1 m1 e1 q1 (by omega) q3 q4 q5 q6 q7
set_option maxRecDepth 100000 in
set_option maxHeartbeats 4000000 in
theorem tlStb_s (b cap n : Nat) (W : List Ln) (post : List Value) (G : SHeap) (hl : W.length = n) (hn : n ≤ 100000) (hcap : n ≤ cap) (hcb : cap ≤ 9223372036854775807) (c : Ln → Ln → Int) (hcmp : ∀ x y V, Sub G V → AC Try.prog W0 45 [Ln.v x, Ln.v y] V (fun v H' => v = .int .i64 (c x y) ∧ H' = V)) (hsw : Swo c) : AC Try.prog W0 51 [.slice (some ⟨b, 0, none⟩) n cap, .int .i64 n, .func (.func 45) #[] #[]] ((b, .cells ((W).flatMap Ln.cells ++ post).toArray 79 (0, 0)) :: G) (fun v H' => ∃ W', (St c W W' ∧ SrtI c W' 0 n) ∧ v = .tuple #[] ∧ H' = (b, .cells ((W').flatMap Ln.cells ++ post).toArray 79 (0, 0)) :: G) := by
  refine ac_of Try.func51 rfl rfl rfl ?_
  refine aw_seq_region ?_
  refine sr_as ?_
  refine sr_nil ?_
  refine aw_kp [0, 1, 2, 6] ?_
  refine aw_seq_region ?_
  refine sr_mv ?_
  refine sr_as ?_
  refine sr_as ?_
  refine sr_nil ?_
  refine aw_kp [0, 1, 2, 6, 7, 8] ?_
  refine aw_seq ?_
  refine aw_block ?_
  refine aw_loop (ι := SortG Ln) (fun s => s.k ≤ n ∧ s.W.length = n ∧ St c W s.W ∧ Dn c s.W 20 s.k) (fun s => [(0, .slice (some ⟨b, 0, none⟩) n cap), (1, .int .i64 n), (2, .func (.func 45) #[] #[]), (6, .int .i64 20), (7, .int .i64 s.k), (8, .int .i64 ((s.k + 20 : Nat) : Int))]) (fun s => (b, .cells ((s.W).flatMap Ln.cells ++ post).toArray 79 (0, 0)) :: G) (fun s => n - s.k) ⟨0, W⟩ (⟨Nat.zero_le _, hl, St.refl _, Dn.zero⟩) KeepF.auto Sub.autoP ?_
  intro s hs9
  obtain ⟨a, cur⟩ := s
  dsimp only at hs9 ⊢
  obtain ⟨ha, hcl, hst, hdn⟩ := hs9
  refine aw_seq ?_
  refine aw_seq_region ?_
  refine sr_mv ?_
  refine sr_mv ?_
  refine sr_c (x_le rfl rfl) (fun h1 => ?_) (fun h1 => ?_)
  · refine sr_nil ?_
    refine aw_kp [0, 1, 2, 6, 7, 8, 11, 12, 13] ?_
    refine aw_true rfl ?_
    refine aw_skip ?_
    show AW _ _ _ _ _ _ _
    refine aw_block ?_
    refine aw_seq_region ?_
    refine sr_mv ?_
    refine sr_mv ?_
    refine sr_mv ?_
    refine sr_mv ?_
    refine sr_d rfl (wtd_none rfl) rfl (opS_call rfl rfl rfl rfl cl63 (AC.sub Sub.autoP (tlIns_s b cap n cur post G (by omega) hn hcap hcb a (a + 20) (by omega) (by omega) c hcmp hsw))) ?_
    rintro _ _ ⟨W9, hm9, rfl, rfl⟩
    refine sr_nil ?_
    refine aw_kp [0, 1, 2, 6, 7, 8, 11, 12, 13, 14, 15, 16, 17] ?_
    refine aw_seq_region ?_
    refine sr_mv ?_
    refine sr_as ?_
    refine sr_nil ?_
    refine aw_kp [0, 1, 2, 6, 7, 8, 11, 12, 13, 14, 15, 16, 17, 19] ?_
    refine aw_region ?_
    refine sr_mv ?_
    refine sr_mv ?_
    refine sr_rd (x_cast (u := .int .i64 ((a + 20 + 20 : Nat) : Int)) (x_add' rfl rfl (i64w (by omega) (by omega))) (by congr 1)) ?_
    refine sr_as ?_
    refine sr_nil ?_
    show ∃ s', _ ∧ _ ∧ _ ∧ _
    exact ⟨⟨a + 20, W9⟩, ⟨by dsimp only; omega, hm9.2.1.1.trans hcl, hst.trans hm9.1, hdn.step hm9.2.1 hm9.2.2⟩, by dsimp only; omega, KeepF.auto, Sub.autoP⟩
  · refine sr_nil ?_
    refine aw_kp [0, 1, 2, 6, 7, 8, 11, 12, 13] ?_
    refine aw_false rfl ?_
    refine aw_exit ?_
    show AW _ _ _ _ _ _ _
    refine aw_seq_region ?_
    refine sr_mv ?_
    refine sr_mv ?_
    refine sr_mv ?_
    refine sr_mv ?_
    refine sr_d rfl (wtd_none rfl) rfl (opS_call rfl rfl rfl rfl cl63 (AC.sub Sub.autoP (tlIns_s b cap n cur post G (by omega) hn hcap hcb a n (by omega) (by omega) c hcmp hsw))) ?_
    rintro _ _ ⟨W9, hm9, rfl, rfl⟩
    refine sr_nil ?_
    refine aw_kp [0, 1, 2, 6, 7, 8] ?_
    refine aw_block ?_
    refine aw_loop (ι := SortG Ln) (fun s => 0 < s.k ∧ s.k ≤ 300000 ∧ s.W.length = n ∧ St c W s.W ∧ Ch c s.W s.k 0 n) (fun s => [(0, .slice (some ⟨b, 0, none⟩) n cap), (1, .int .i64 n), (2, .func (.func 45) #[] #[]), (6, .int .i64 s.k)]) (fun s => (b, .cells ((s.W).flatMap Ln.cells ++ post).toArray 79 (0, 0)) :: G) (fun s => n - s.k) ⟨20, W9⟩ (⟨by dsimp only; omega, by dsimp only; omega, hm9.2.1.1.trans hcl, hst.trans hm9.1, hdn.done hm9.2.1 (by omega) hm9.2.2⟩) KeepF.auto Sub.autoP ?_
    intro s hs8
    obtain ⟨bs, cur1⟩ := s
    dsimp only at hs8 ⊢
    obtain ⟨hbs, hbs2, hcl1, hst1, hch1⟩ := hs8
    refine aw_seq ?_
    refine aw_seq_region ?_
    refine sr_mv ?_
    refine sr_mv ?_
    refine sr_c (x_lt rfl rfl) (fun h2 => ?_) (fun h2 => ?_)
    · refine sr_nil ?_
      refine aw_kp [0, 1, 2, 6, 28, 29, 30] ?_
      refine aw_true rfl ?_
      refine aw_skip ?_
      show AW _ _ _ _ _ _ _
      refine aw_block ?_
      refine aw_seq_region ?_
      refine sr_mv ?_
      refine sr_rd (x_cast (u := .int .i64 ((2 * bs : Nat) : Int)) (x_mul' rfl rfl (i64w (by omega) (by omega))) (by congr 1)) ?_
      refine sr_as ?_
      refine sr_as ?_
      refine sr_nil ?_
      refine aw_kp [0, 1, 2, 6, 7, 8, 28, 29, 30, 31, 32] ?_
      refine aw_seq ?_
      refine aw_block ?_
      refine aw_keep (keep_cons (t := 0) rfl (keep_cons (t := 1) rfl (keep_cons (t := 2) rfl (keep_cons (t := 6) rfl (keep_cons (t := 7) rfl (keep_cons (t := 8) (v := .int .i64 ((0 + 2 * bs : Nat) : Int)) (congrArg (fun x => some (Value.int .i64 x)) (by omega)) keep_nil)))))) ?_
      refine aw_loop (ι := SortG Ln) (fun s => s.k ≤ n ∧ s.W.length = n ∧ St c W s.W ∧ Dn c s.W (2 * bs) s.k ∧ Ch c s.W bs s.k n) (fun s => [(0, .slice (some ⟨b, 0, none⟩) n cap), (1, .int .i64 n), (2, .func (.func 45) #[] #[]), (6, .int .i64 bs), (7, .int .i64 s.k), (8, .int .i64 ((s.k + 2 * bs : Nat) : Int))]) (fun s => (b, .cells ((s.W).flatMap Ln.cells ++ post).toArray 79 (0, 0)) :: G) (fun s => n - s.k) ⟨0, cur1⟩ (⟨Nat.zero_le _, hcl1, hst1, Dn.zero, hch1⟩) KeepF.auto Sub.autoP ?_
      intro s hs7
      obtain ⟨a3, cur3⟩ := s
      dsimp only at hs7 ⊢
      obtain ⟨ha3, hcl3, hst3, hdn3, hch3⟩ := hs7
      refine aw_seq ?_
      refine aw_seq_region ?_
      refine sr_mv ?_
      refine sr_mv ?_
      refine sr_c (x_le rfl rfl) (fun h3 => ?_) (fun h3 => ?_)
      · refine sr_nil ?_
        refine aw_kp [0, 1, 2, 6, 7, 8, 33, 34, 35] ?_
        refine aw_true rfl ?_
        refine aw_skip ?_
        show AW _ _ _ _ _ _ _
        refine aw_block ?_
        refine aw_seq_region ?_
        have htw := hch3.two hbs (by omega)
        refine sr_mv ?_
        refine sr_mv ?_
        refine sr_mv ?_
        refine sr_mv ?_
        refine sr_rd (x_cast (u := .int .i64 ((a3 + bs : Nat) : Int)) (x_add' rfl rfl (i64w (by omega) (by omega))) (by congr 1)) ?_
        refine sr_mv ?_
        refine sr_mv ?_
        refine sr_d rfl (wtd_none rfl) rfl (opS_call rfl rfl rfl rfl cl64 (AC.sub Sub.autoP (tlSm_s b cap n post G hn hcap hcb c hcmp hsw _ cur3 a3 (a3 + bs) (a3 + 2 * bs) (by omega) (Nat.le_refl _) (by omega) (by omega) (by omega) (htw.1) (htw.2.1)))) ?_
        rintro _ _ ⟨W9, hm9, rfl, rfl⟩
        refine sr_nil ?_
        refine aw_kp [0, 1, 2, 6, 7, 8, 33, 34, 35, 36, 37, 38, 39, 40, 41, 42] ?_
        refine aw_seq_region ?_
        refine sr_mv ?_
        refine sr_as ?_
        refine sr_nil ?_
        refine aw_kp [0, 1, 2, 6, 7, 8, 33, 34, 35, 36, 37, 38, 39, 40, 41, 42, 44] ?_
        refine aw_region ?_
        refine sr_mv ?_
        refine sr_mv ?_
        refine sr_rd (x_cast (u := .int .i64 ((2 * bs : Nat) : Int)) (x_mul' rfl rfl (i64w (by omega) (by omega))) (by congr 1)) ?_
        refine sr_rd (x_cast (u := .int .i64 ((a3 + 2 * bs + 2 * bs : Nat) : Int)) (x_add' rfl rfl (i64w (by omega) (by omega))) (by congr 1)) ?_
        refine sr_as ?_
        refine sr_nil ?_
        show ∃ s', _ ∧ _ ∧ _ ∧ _
        exact ⟨⟨a3 + 2 * bs, W9⟩, ⟨by dsimp only; omega, hm9.2.1.1.trans hcl3, hst3.trans hm9.1, hdn3.step hm9.2.1 hm9.2.2, htw.2.2.same fun k q => hm9.2.1.2.1 k (by omega)⟩, by dsimp only; omega, KeepF.auto, Sub.autoP⟩
      · refine sr_nil ?_
        refine aw_kp [0, 1, 2, 6, 7, 8, 33, 34, 35] ?_
        refine aw_false rfl ?_
        refine aw_exit ?_
        show AW _ _ _ _ _ _ _
        refine aw_seq ?_
        refine aw_seq_region ?_
        refine sr_mv ?_
        refine sr_mv ?_
        refine sr_rd (x_cast (u := .int .i64 ((a3 + bs : Nat) : Int)) (x_add' rfl rfl (i64w (by omega) (by omega))) (by congr 1)) ?_
        refine sr_as ?_
        refine sr_nil ?_
        refine aw_kp [0, 1, 2, 6, 7, 8, 9, 33, 34, 35, 49, 50, 51] ?_
        refine aw_seq_region ?_
        refine sr_mv ?_
        refine sr_mv ?_
        refine sr_c (x_lt rfl rfl) (fun h4 => ?_) (fun h4 => ?_)
        · refine sr_nil ?_
          refine aw_kp [0, 1, 2, 6, 7, 8, 9, 33, 34, 35, 49, 50, 51, 52, 53, 54] ?_
          refine aw_true rfl ?_
          refine aw_region ?_
          have hrs := hch3.rest (by omega) (by omega)
          refine sr_mv ?_
          refine sr_mv ?_
          refine sr_mv ?_
          refine sr_mv ?_
          refine sr_mv ?_
          refine sr_d rfl (wtd_none rfl) rfl (opS_call rfl rfl rfl rfl cl64 (AC.sub Sub.autoP (tlSm_s b cap n post G hn hcap hcb c hcmp hsw _ cur3 a3 (a3 + bs) n (by omega) (Nat.le_refl _) (by omega) (by omega) (by omega) (hrs.1) (hrs.2)))) ?_
          rintro _ _ ⟨W9, hm9, rfl, rfl⟩
          refine sr_nil ?_
          show AW _ _ _ _ _ _ _
          refine aw_region ?_
          refine sr_mv ?_
          refine sr_rd (x_cast (u := .int .i64 ((bs * 2 : Nat) : Int)) (x_mul' rfl rfl (i64w (by omega) (by omega))) (by congr 1)) ?_
          refine sr_as ?_
          refine sr_nil ?_
          show ∃ s', _ ∧ _ ∧ _ ∧ _
          first | exact ⟨⟨bs * 2, W9⟩, ⟨by dsimp only; omega, by dsimp only; omega, hm9.2.1.1.trans hcl3, hst3.trans hm9.1, (by dsimp only; rw [Nat.mul_comm]; exact hdn3.done hm9.2.1 (by omega) hm9.2.2)⟩, by dsimp only; omega, KeepF.auto, Sub.autoP⟩ | exact ⟨⟨bs * 2, cur3⟩, ⟨by dsimp only; omega, by dsimp only; omega, hcl3, hst3, (by dsimp only; rw [Nat.mul_comm]; exact hdn3.done (InR.refl _ _ _) (by omega) (hch3.all (by omega)))⟩, by dsimp only; omega, KeepF.auto, Sub.autoP⟩
        · refine sr_nil ?_
          refine aw_kp [0, 1, 2, 6, 7, 8, 9, 33, 34, 35, 49, 50, 51, 52, 53, 54] ?_
          refine aw_false rfl ?_
          refine aw_skip ?_
          show AW _ _ _ _ _ _ _
          refine aw_region ?_
          refine sr_mv ?_
          refine sr_rd (x_cast (u := .int .i64 ((bs * 2 : Nat) : Int)) (x_mul' rfl rfl (i64w (by omega) (by omega))) (by congr 1)) ?_
          refine sr_as ?_
          refine sr_nil ?_
          show ∃ s', _ ∧ _ ∧ _ ∧ _
          first | exact ⟨⟨bs * 2, W9⟩, ⟨by dsimp only; omega, by dsimp only; omega, hm9.2.1.1.trans hcl3, hst3.trans hm9.1, (by dsimp only; rw [Nat.mul_comm]; exact hdn3.done hm9.2.1 (by omega) hm9.2.2)⟩, by dsimp only; omega, KeepF.auto, Sub.autoP⟩ | exact ⟨⟨bs * 2, cur3⟩, ⟨by dsimp only; omega, by dsimp only; omega, hcl3, hst3, (by dsimp only; rw [Nat.mul_comm]; exact hdn3.done (InR.refl _ _ _) (by omega) (hch3.all (by omega)))⟩, by dsimp only; omega, KeepF.auto, Sub.autoP⟩
    · refine sr_nil ?_
      refine aw_kp [0, 1, 2, 6, 28, 29, 30] ?_
      refine aw_false rfl ?_
      refine aw_exit ?_
      show ∃ v H2, ResV _ _ _ _ _ _ v ∧ Sub H2 _ ∧ _
      exact ⟨_, _, resV rfl .nil, Sub.refl _, cur1, ⟨hst1, hch1.all (by omega)⟩, rfl, rfl⟩
set_option maxRecDepth 100000 in
set_option maxHeartbeats 400000 in
theorem tlSrt_s (b cap n : Nat) (W : List Ln) (post : List Value) (G : SHeap) (hl : W.length = n) (hn : n ≤ 100000) (hcap : n ≤ cap) (hcb : cap ≤ 9223372036854775807) (c : Ln → Ln → Int) (hcmp : ∀ x y V, Sub G V → AC Try.prog W0 45 [Ln.v x, Ln.v y] V (fun v H' => v = .int .i64 (c x y) ∧ H' = V)) (hsw : Swo c) : AC Try.prog W0 44 [.slice (some ⟨b, 0, none⟩) n cap, .func (.func 45) #[] #[]] ((b, .cells ((W).flatMap Ln.cells ++ post).toArray 79 (0, 0)) :: G) (fun v H' => ∃ W', (St c W W' ∧ SrtI c W' 0 n) ∧ v = .tuple #[] ∧ H' = (b, .cells ((W').flatMap Ln.cells ++ post).toArray 79 (0, 0)) :: G) := by
  refine ac_of Try.func44 rfl rfl rfl ?_
  refine aw_region ?_
  refine sr_mv ?_
  refine sr_mv ?_
  refine sr_rd (x_lenSlice Try.underlying66 rfl) ?_
  refine sr_mv ?_
  refine sr_d rfl (wtd_none rfl) rfl (opS_call rfl rfl rfl rfl cl51 (AC.sub Sub.autoP (tlStb_s b cap n W post G hl hn hcap hcb c hcmp hsw))) ?_
  rintro _ _ ⟨W9, hm9, rfl, rfl⟩
  refine sr_nil ?_
  show ∃ v H2, ResV _ _ _ _ _ _ v ∧ Sub H2 _ ∧ _
  exact ⟨_, _, resV rfl .nil, Sub.refl _, W9, hm9, rfl, rfl⟩
set_option maxRecDepth 100000 in
set_option maxHeartbeats 400000 in
theorem tlInsN_s (G : SHeap) : AC Try.prog W0 63 [.slice none 0 0, .int .i64 ((0 : Nat) : Int), .int .i64 ((0 : Nat) : Int), .func (.func 45) #[] #[]] G (fun v H' => v = .tuple #[] ∧ H' = G) := by
  refine ac_of Try.func63 rfl rfl rfl ?_
  refine aw_seq_region ?_
  refine sr_mv ?_
  refine sr_rd (x_add' rfl rfl (i64w (by omega) (by omega))) ?_
  refine sr_as ?_
  refine sr_nil ?_
  refine aw_kp [0, 1, 2, 3, 8] ?_
  refine aw_block ?_
  refine aw_loop (ι := Unit) (fun _ => True) (fun _ => [(2, .int .i64 ((0 : Nat) : Int)), (8, .int .i64 1)]) (fun _ => G) (fun _ => 0) () (trivial) KeepF.auto (by repeat (first | exact Sub.refl _ | apply Sub.drop)) ?_
  intro _ _
  refine aw_seq ?_
  refine aw_seq_region ?_
  refine sr_mv ?_
  refine sr_mv ?_
  refine sr_c (x_lt rfl rfl) (fun h1 => absurd h1 (by first | omega | decide)) (fun h1 => ?_)
  refine sr_nil ?_
  refine aw_kp [2, 8, 12, 13, 14] ?_
  refine aw_false rfl ?_
  refine aw_exit ?_
  show ∃ v H2, ResV _ _ _ _ _ _ v ∧ Sub H2 _ ∧ _
  exact ⟨_, G, resV rfl .nil, (by repeat (first | exact Sub.refl _ | apply Sub.drop)), ⟨rfl, rfl⟩⟩
set_option maxRecDepth 100000 in
set_option maxHeartbeats 400000 in
theorem tlStbN_s (G : SHeap) : AC Try.prog W0 51 [.slice none 0 0, .int .i64 ((0 : Nat) : Int), .func (.func 45) #[] #[]] G (fun v H' => v = .tuple #[] ∧ H' = G) := by
  refine ac_of Try.func51 rfl rfl rfl ?_
  refine aw_seq_region ?_
  refine sr_as ?_
  refine sr_nil ?_
  refine aw_kp [0, 1, 2, 6] ?_
  refine aw_seq_region ?_
  refine sr_mv ?_
  refine sr_as ?_
  refine sr_as ?_
  refine sr_nil ?_
  refine aw_kp [0, 1, 2, 6, 7, 8] ?_
  refine aw_seq ?_
  refine aw_block ?_
  refine aw_loop (ι := Unit) (fun _ => True) (fun _ => [(0, .slice none 0 0), (1, .int .i64 ((0 : Nat) : Int)), (2, .func (.func 45) #[] #[]), (6, .int .i64 20), (7, .int .i64 ((0 : Nat) : Int)), (8, .int .i64 20)]) (fun _ => G) (fun _ => 0) () (trivial) KeepF.auto (by repeat (first | exact Sub.refl _ | apply Sub.drop)) ?_
  intro _ _
  refine aw_seq ?_
  refine aw_seq_region ?_
  refine sr_mv ?_
  refine sr_mv ?_
  refine sr_c (x_le rfl rfl) (fun h1 => absurd h1 (by first | omega | decide)) (fun h1 => ?_)
  refine sr_nil ?_
  refine aw_kp [0, 1, 2, 6, 7, 8, 11, 12, 13] ?_
  refine aw_false rfl ?_
  refine aw_exit ?_
  show AW _ _ _ _ _ _ _
  refine aw_seq_region ?_
  refine sr_mv ?_
  refine sr_mv ?_
  refine sr_mv ?_
  refine sr_mv ?_
  refine sr_d rfl (wtd_none rfl) rfl (opS_call rfl rfl rfl rfl cl63 (tlInsN_s _)) ?_
  rintro _ G ⟨rfl, rfl⟩
  refine sr_nil ?_
  refine aw_kp [0, 1, 2, 6, 7, 8] ?_
  refine aw_block ?_
  refine aw_loop (ι := Unit) (fun _ => True) (fun _ => [(1, .int .i64 ((0 : Nat) : Int)), (6, .int .i64 20)]) (fun _ => G) (fun _ => 0) () (trivial) KeepF.auto (by repeat (first | exact Sub.refl _ | apply Sub.drop)) ?_
  intro _ _
  refine aw_seq ?_
  refine aw_seq_region ?_
  refine sr_mv ?_
  refine sr_mv ?_
  refine sr_c (x_lt rfl rfl) (fun h2 => absurd h2 (by first | omega | decide)) (fun h2 => ?_)
  refine sr_nil ?_
  refine aw_kp [1, 6, 28, 29, 30] ?_
  refine aw_false rfl ?_
  refine aw_exit ?_
  show ∃ v H2, ResV _ _ _ _ _ _ v ∧ Sub H2 _ ∧ _
  exact ⟨_, G, resV rfl .nil, (by repeat (first | exact Sub.refl _ | apply Sub.drop)), ⟨rfl, rfl⟩⟩
set_option maxRecDepth 100000 in
set_option maxHeartbeats 400000 in
theorem tlSrtN_s (G : SHeap) : AC Try.prog W0 44 [.slice none 0 0, .func (.func 45) #[] #[]] G (fun v H' => v = .tuple #[] ∧ H' = G) := by
  refine ac_of Try.func44 rfl rfl rfl ?_
  refine aw_region ?_
  refine sr_mv ?_
  refine sr_mv ?_
  refine sr_rd (x_lenSlice Try.underlying66 rfl) ?_
  refine sr_mv ?_
  refine sr_d rfl (wtd_none rfl) rfl (opS_call rfl rfl rfl rfl cl51 (tlStbN_s _)) ?_
  rintro _ G ⟨rfl, rfl⟩
  refine sr_nil ?_
  show ∃ v H2, ResV _ _ _ _ _ _ v ∧ Sub H2 _ ∧ _
  exact ⟨_, G, resV rfl .nil, (by repeat (first | exact Sub.refl _ | apply Sub.drop)), ⟨rfl, rfl⟩⟩
theorem tlV_s (a : Option Addr) (cap n : Nat) (W : List Ln) (E G : SHeap) (V : OwnVec 6 79 (.slice a n cap) n (W.flatMap Ln.cells) E) (hl : W.length = n) (hn : n ≤ 100000) (c : Ln → Ln → Int) (hcmp : ∀ x y V, Sub G V → AC Try.prog W0 45 [Ln.v x, Ln.v y] V (fun v H' => v = .int .i64 (c x y) ∧ H' = V)) (hsw : Swo c) :
    AC Try.prog W0 44 [.slice a n cap, .func (.func 45) #[] #[]] (E ++ G) (fun v H' => ∃ W' E', St c W W' ∧ SrtI c W' 0 n ∧ v = .tuple #[] ∧ OwnVec 6 79 (.slice a n cap) n (W'.flatMap Ln.cells) E' ∧ H' = E' ++ G) := by
  generalize hL : W.flatMap Ln.cells = L at V
  cases V with
  | nil =>
    obtain rfl : W = [] := List.length_eq_zero_iff.1 hl
    exact (tlSrtN_s G).mono fun v H' ⟨h1, h2⟩ => ⟨[], [], St.refl _, fun i j _ _ h => by omega, h1, .nil, h2⟩
  | @mk r n cap L post h1 h2 h3 h4 =>
    subst hL
    exact (tlSrt_s r cap n W post G hl hn h3 h4 c hcmp hsw).mono fun v H' ⟨W', ⟨q1, q2⟩, q3, q4⟩ => ⟨W', _, q1, q2, q3, .mk (by rw [flat_len (n := 6) (enc := Ln.cells) (fun _ => rfl), q1.1.length_eq, hl]) h2 h3 h4, q4⟩
set_option maxRecDepth 100000 in
set_option maxHeartbeats 4000000 in
theorem tlines_s (a : Option Addr) (cap : Nat) (L : List Ev) (H : SHeap) (hs : SlV W0 H 24 Ev.cells a cap L) (hl : L.length ≤ 50) (hr : ∀ e ∈ L, (e.kind = 1 ∨ e.kind = 2) ∧ 0 ≤ e.task ∧ e.task < 1000) : AC Try.prog W0 28 [.slice a L.length cap] H (fun v H' => ∃ (a' : Option Addr) (c' : Nat) (E' : SHeap), v = .slice a' (kn1 L) c' ∧ H' = E' ++ H) := by
  have hle := hs.le
  have hcb := hs.capb
  refine ac_of Try.func28 rfl rfl rfl ?_
  refine aw_seq_region ?_
  refine sr_as ?_
  refine sr_nil ?_
  refine aw_kp [0, 2] ?_
  refine aw_seq_region ?_
  refine sr_as ?_
  refine sr_nil ?_
  refine aw_kp [0, 2, 3] ?_
  refine aw_seq ?_
  refine aw_seq_region ?_
  refine sr_mv ?_
  refine sr_rd (x_lenSlice Try.underlying22 rfl) ?_
  refine sr_mv ?_
  refine sr_nil ?_
  refine aw_kp [2, 3, 7, 8, 9] ?_
  refine aw_block ?_
  refine aw_loop (ι := LnG) (fun s => s.k ≤ L.length ∧ s.D.length = kn1 (L.take s.k) ∧ OwnVec 6 79 (.slice s.a s.D.length s.c) s.D.length (s.D.flatMap Ln.cells) s.E) (fun s => [(3, .slice s.a s.D.length s.c), (7, .slice a L.length cap), (8, .int .i64 L.length), (9, .int .i64 s.k)]) (fun s => s.E ++ H) (fun s => L.length - s.k) ⟨0, [], none, 0, []⟩ (⟨Nat.zero_le _, rfl, .nil⟩) KeepF.auto Sub.autoP ?_
  intro s hs9
  obtain ⟨k, D, a1, c1, E1⟩ := s
  dsimp only at hs9 ⊢
  obtain ⟨hk, hDl, V1⟩ := hs9
  have hD50 : D.length ≤ k := by (rw [hDl]; have := kn1_le (L.take k); rw [List.length_take] at this; omega)
  refine aw_seq_region ?_
  refine sr_c (x_lt rfl rfl) (fun h1 => ?_) (fun h1 => ?_)
  · refine sr_nil ?_
    refine aw_kp [3, 7, 8, 9, 10] ?_
    refine aw_seq ?_
    refine aw_true rfl ?_
    refine aw_skip ?_
    show AW _ _ _ _ _ _ _
    refine aw_seq ?_
    refine aw_block ?_
    refine aw_seq_region ?_
    obtain ⟨e, he⟩ := get_ex (show k < L.length by omega)
    obtain ⟨be, oe, hae, hce⟩ := hs.at_ _ _ he
    have hre := hr e (List.mem_of_getElem? he)
    obtain ⟨te, hte⟩ : ∃ te : Fin 1000, e.task = (te.val : Int) := ⟨⟨e.task.toNat, by omega⟩, by show e.task = ((e.task.toNat : Nat) : Int); omega⟩
    refine sr_rd (x_indexAddrN (k) Try.underlying22 sz34 rfl hae rfl (by omega) (by omega)) ?_
    refine sr_rd (x_loadN ag34 sz34 rfl (Cells.mono hce Sub.autoR) rfl) ?_
    refine sr_new rfl (wtd_none rfl) rfl (x_alloc zr34 rfl) ?_
    intro r4_2 hr4_2 gr4_2
    refine sr_x0 rfl (wtd_none rfl) (x_store sz34 rfl rfl rfl rfl rfl Repl.auto Spl.auto) ?_
    refine sr_nil ?_
    refine aw_kp [3, 5, 7, 8, 9, 10, 11, 12] ?_
    refine aw_seq ?_
    refine aw_seq_region ?_
    refine sr_rd (x_fieldAddr fd34_1 rfl) ?_
    refine sr_rd (x_load ag3 rfl (cells_ext mauto Ext.auto)) ?_
    refine sr_c (x_eq rfl rfl) (fun h2 => ?_) (fun h2 => ?_)
    · refine sr_nil ?_
      refine aw_kp [3, 5, 7, 8, 9, 10, 11, 12, 13, 14, 15] ?_
      refine aw_true rfl ?_
      refine aw_seq_region ?_
      refine sr_mv ?_
      refine sr_rd (x_fieldAddr fd34_2 rfl) ?_
      refine sr_rd (x_cast (u := .int .i64 (te.val : Int)) (x_load ag3 rfl (cells_ext mauto Ext.auto)) (by rw [hte])) ?_
      refine sr_rd (x_fieldAddr fd34_3 rfl) ?_
      refine sr_rd (x_fieldAddr fd27_0 rfl) ?_
      refine sr_rd (x_load ag3 rfl (cells_ext mauto Ext.auto)) ?_
      refine sr_rd (x_fieldAddr fd34_0 rfl) ?_
      refine sr_rd (x_load ag3 rfl (cells_ext mauto Ext.auto)) ?_
      refine sr_rd (x_build zr79 rfl fl79 Parts.auto Fill.auto) ?_
      refine sr_new rfl (wtd_none rfl) rfl (x_buildSlice Try.underlying66 sz79 zr79 rfl rfl rfl rfl Parts.auto Fill.auto) ?_
      intro r6_9 hr6_9 gr6_9
      refine sr_d rfl (wtd_none rfl) rfl (opS_append (G := (r6_9, .cells (Ln.cells (⟨te, e.req.kind, e.step, -1, -1, 0⟩ : Ln)).toArray 79 (0, 0)) :: (r4_2, .cells (Ev.cells e).toArray 34 (0, 0)) :: H) (N := (Ln.cells (⟨te, e.req.kind, e.step, -1, -1, 0⟩ : Ln))) (m := 1) Try.underlying66 sz79 zr79 rfl by79 rfl rfl V1 Sub.autoP (.inr ⟨_, _, rfl, (cells_ext mauto Ext.auto)⟩) (rfl) rfl (by omega) (by omega)) ?_
      rintro v26 _ ⟨E26, hV26, rfl⟩
      obtain ⟨a26, cap26, rfl⟩ := hV26.isSl
      refine sr_as ?_
      refine sr_nil ?_
      refine aw_kp [3, 5, 7, 8, 9, 10, 11, 12, 13, 14, 15, 16, 17, 18, 19, 20, 21, 22, 23, 24, 25, 26] ?_
      refine aw_exit ?_
      show AW _ _ _ _ _ _ _
      refine aw_region ?_
      refine sr_rd (x_add' rfl rfl (i64w (by omega) (by omega))) ?_
      refine sr_mv ?_
      refine sr_nil ?_
      show ∃ s', _ ∧ _ ∧ _ ∧ _
      exact ⟨⟨k + 1, D ++ [(⟨te, e.req.kind, e.step, -1, -1, 0⟩ : Ln)], a26, cap26, E26⟩, ⟨by dsimp only; omega, (by dsimp only; rw [kn1_take he, if_pos (by omega), List.length_append, hDl]; rfl), OwnVec.snocS hV26⟩, by dsimp only; omega, (by rw [List.length_append]; exact KeepF.auto), Sub.autoD⟩
    · refine sr_nil ?_
      refine aw_kp [3, 5, 7, 8, 9, 10, 11, 12, 13, 14, 15] ?_
      refine aw_false rfl ?_
      refine aw_skip ?_
      show AW _ _ _ _ _ _ _
      refine aw_seq_region ?_
      have hs1 := V1.slv' (W0 := W0) (fun _ => rfl) rfl (Sub.refl _)
      have hle1 := hs1.le
      have hcb1 := hs1.capb
      refine sr_mv ?_
      refine sr_rd (x_makeFunc rfl rfl) ?_
      refine sr_d rfl (wtd_none rfl) rfl (opS_call rfl rfl rfl rfl cl42 (tidx_s a1 c1 D _ (hs1.mono Sub.autoE) e r4_2 (cells_ext mauto Ext.auto))) ?_
      rintro _ _ ⟨⟨i0, rfl, hi0⟩, rfl⟩
      rcases hi0 with rfl | ⟨i, rfl, hi⟩
      · refine sr_as ?_
        refine sr_nil ?_
        refine aw_kp [3, 5, 6, 7, 8, 9, 10, 11, 12, 13, 14, 15, 27, 28, 29] ?_
        refine aw_block ?_
        refine aw_seq_region ?_
        refine sr_mv ?_
        refine sr_c (x_lt rfl rfl) (fun h3 => ?_) (fun h3 => absurd (by first | omega | decide) h3)
        refine sr_as ?_
        refine sr_nil ?_
        refine aw_kp [3, 5, 6, 7, 8, 9, 10, 11, 12, 13, 14, 15, 27, 28, 29, 30, 31, 32] ?_
        refine aw_true rfl ?_
        refine aw_skip ?_
        show AW _ _ _ _ _ _ _
        refine aw_region ?_
        refine sr_rd (x_add' rfl rfl (i64w (by omega) (by omega))) ?_
        refine sr_mv ?_
        refine sr_nil ?_
        show ∃ s', _ ∧ _ ∧ _ ∧ _
        exact ⟨⟨k + 1, D, a1, c1, E1⟩, ⟨by dsimp only; omega, (by dsimp only; rw [kn1_take he, if_neg (by omega), hDl]; rfl), V1⟩, by dsimp only; omega, KeepF.auto, Sub.autoD⟩
      · obtain ⟨x, hx⟩ := get_ex hi
        obtain ⟨bl, ol, hal, hcl⟩ := hs1.at_ _ _ hx
        refine sr_as ?_
        refine sr_nil ?_
        refine aw_kp [3, 5, 6, 7, 8, 9, 10, 11, 12, 13, 14, 15, 27, 28, 29] ?_
        refine aw_block ?_
        refine aw_seq_region ?_
        refine sr_mv ?_
        refine sr_c (x_lt rfl rfl) (fun h4 => absurd h4 (by first | omega | decide)) (fun h4 => ?_)
        refine sr_as ?_
        refine sr_nil ?_
        refine aw_kp [3, 5, 6, 7, 8, 9, 10, 11, 12, 13, 14, 15, 27, 28, 29, 30, 31, 32] ?_
        refine aw_false rfl ?_
        refine aw_seq_region ?_
        refine sr_rd (x_fieldAddr fd34_1 rfl) ?_
        refine sr_rd (x_load ag3 rfl (cells_ext mauto Ext.auto)) ?_
        refine sr_c (x_eq rfl rfl) (fun h5 => ?_) (fun h5 => absurd (by first | omega | decide) h5)
        refine sr_mv ?_
        refine sr_ry (x_move rfl) ?_
        refine sr_ry (x_move rfl) ?_
        refine sr_ry (x_indexAddrN (i) Try.underlying66 sz79 rfl hal rfl (by omega) (by omega)) ?_
        refine sr_ry (x_fieldAddr fd79_3 rfl) ?_
        refine sr_ry (x_load ag3 rfl (cells_get (Cells.mono hcl Sub.autoE) 3 rfl)) ?_
        refine sr_cy (x_lt rfl rfl) (fun h6 => ?_) (fun h6 => ?_)
        · refine sr_rd (x_pick_t rfl rfl rfl) ?_
          refine sr_as ?_
          refine sr_nil ?_
          refine aw_kp [3, 5, 6, 7, 8, 9, 10, 11, 12, 13, 14, 15, 27, 28, 29, 30, 31, 32, 33, 34, 35, 36, 37, 38, 39, 40, 41, 42, 43, 44] ?_
          refine aw_true rfl ?_
          refine aw_region ?_
          obtain ⟨b, rfl, _⟩ := V1.pos (by omega)
          clear hs1 hle1 hcb1 hcl hal
          obtain ⟨_, _, post, rfl, hL9, hp9, hn9, hc9⟩ := V1.blk
          rw [List.singleton_append]
          refine sr_mv ?_
          refine sr_mv ?_
          refine sr_rd (x_fieldAddr fd34_0 rfl) ?_
          refine sr_rd (x_load ag3 rfl (cells_ext mauto Ext.auto)) ?_
          refine sr_rd (x_indexAddrN (i) Try.underlying66 sz79 rfl rfl rfl (by omega) (by omega)) ?_
          refine sr_rd (x_fieldAddr fd79_3 rfl) ?_
          refine sr_x0 rfl (wtd_none rfl) (x_store sz3 rfl rfl rfl rfl rfl Repl.auto (spl_fld0 (n := 6) (enc := Ln.cells) (fun _ => rfl) (xs := D) (post := post) (i := i) (k := 3) (x := x) (x' := ⟨x.task, x.kind, x.call, e.step, x.tell, x.err⟩) hx (Spl.skip (Spl.skip (Spl.skip (Spl.put Spl.done)))))) ?_
          refine sr_nil ?_
          show AW _ _ _ _ _ _ _
          refine aw_region ?_
          refine sr_rd (x_add' rfl rfl (i64w (by omega) (by omega))) ?_
          refine sr_mv ?_
          refine sr_nil ?_
          show ∃ s', _ ∧ _ ∧ _ ∧ _
          exact ⟨⟨k + 1, D.set i ⟨x.task, x.kind, x.call, e.step, x.tell, x.err⟩, some ⟨b, 0, none⟩, c1, _⟩, ⟨by dsimp only; omega, (by dsimp only; rw [kn1_take he, if_neg (by omega), List.length_set, hDl]; rfl), ln_set hp9 hn9 hc9⟩, by dsimp only; omega, (by rw [List.length_set]; exact KeepF.auto), Sub.autoD⟩
        · refine sr_rd (x_pick_t rfl rfl rfl) ?_
          refine sr_as ?_
          refine sr_nil ?_
          refine aw_kp [3, 5, 6, 7, 8, 9, 10, 11, 12, 13, 14, 15, 27, 28, 29, 30, 31, 32, 33, 34, 35, 36, 37, 38, 39, 40, 41, 42, 43, 44] ?_
          refine aw_false rfl ?_
          refine aw_seq_region ?_
          refine sr_rd (x_fieldAddr fd34_1 rfl) ?_
          refine sr_rd (x_load ag3 rfl (cells_ext mauto Ext.auto)) ?_
          refine sr_c (x_eq rfl rfl) (fun h7 => absurd h7 (by first | omega | decide)) (fun h7 => ?_)
          refine sr_mv ?_
          refine sr_sk ?_
          refine sr_sk ?_
          refine sr_sk ?_
          refine sr_sk ?_
          refine sr_sk ?_
          refine sr_sk ?_
          refine sr_rd (x_pick_f rfl rfl rfl) ?_
          refine sr_as ?_
          refine sr_nil ?_
          refine aw_kp [3, 5, 6, 7, 8, 9, 10, 11, 12, 13, 14, 15, 27, 28, 29, 30, 31, 32, 33, 34, 35, 36, 37, 38, 39, 40, 41, 42, 43, 44, 51, 52, 53, 54, 55, 56, 57, 58, 59, 60, 61, 62] ?_
          refine aw_false rfl ?_
          refine aw_skip ?_
          show AW _ _ _ _ _ _ _
          refine aw_region ?_
          refine sr_rd (x_add' rfl rfl (i64w (by omega) (by omega))) ?_
          refine sr_mv ?_
          refine sr_nil ?_
          show ∃ s', _ ∧ _ ∧ _ ∧ _
          exact ⟨⟨k + 1, D, a1, c1, E1⟩, ⟨by dsimp only; omega, (by dsimp only; rw [kn1_take he, if_neg (by omega), hDl]; rfl), V1⟩, by dsimp only; omega, KeepF.auto, Sub.autoD⟩
  · refine sr_nil ?_
    refine aw_kp [3, 7, 8, 9, 10] ?_
    refine aw_seq ?_
    refine aw_false rfl ?_
    refine aw_exit ?_
    show AW _ _ _ _ _ _ _
    refine aw_seq_region ?_
    rw [List.take_of_length_le (by omega)] at hDl
    refine sr_mv ?_
    refine sr_d rfl (wtd_none rfl) rfl (opS_call rfl rfl rfl rfl cl44 (tlV_s a1 c1 D.length D E1 H V1 rfl (by omega) lnC (fun x y V hV => tcmp_s x y V) lnSwo)) ?_
    rintro _ _ ⟨W9, E9, hst9, hsr9, rfl, V9, rfl⟩
    refine sr_nil ?_
    refine aw_kp [3] ?_
    refine aw_seq_region ?_
    refine sr_mv ?_
    refine sr_as ?_
    refine sr_nil ?_
    refine aw_kp [2] ?_
    refine aw_ret ?_
    show ∃ v H2, ResV _ _ _ _ _ _ v ∧ Sub H2 _ ∧ _
    exact ⟨_, _, resV rfl (.cons rfl .nil), Sub.autoP, ⟨a1, c1, E9, (by rw [← hDl]; rfl), rfl⟩⟩
set_option maxRecDepth 100000 in
set_option maxHeartbeats 1000000 in
theorem awake43_s (H : SHeap) : AC Try.prog W0 10 [] H (fun v H' => v = .bool true ∧ H' = H) := by
  refine ac_of Try.func10 rfl rfl rfl ?_
  refine aw_seq_region ?_
  refine sr_as ?_
  refine sr_nil ?_
  refine aw_kp [0] ?_
  refine aw_seq_region ?_
  refine sr_rd (x_build zr34 rfl fl34 Parts.auto Fill.auto) ?_
  refine sr_rd (x_build zr34 rfl fl34 Parts.auto Fill.auto) ?_
  refine sr_rd (x_build zr34 rfl fl34 Parts.auto Fill.auto) ?_
  refine sr_rd (x_build zr34 rfl fl34 Parts.auto Fill.auto) ?_
  refine sr_new rfl (wtd_none rfl) rfl (x_buildSlice Try.underlying22 sz34 zr34 rfl rfl rfl rfl Parts.auto Fill.auto) ?_
  intro r1_4 hr1_4 gr1_4
  refine sr_as ?_
  refine sr_nil ?_
  refine aw_kp [0, 1] ?_
  refine aw_seq_region ?_
  refine sr_mv ?_
  refine sr_d rfl (wtd_none rfl) rfl (opS_call rfl rfl rfl rfl cl27 (tswaps_s (some ⟨r1_4, 0, none⟩) 4 evs _ (slv_own (n := 24) (enc := Ev.cells) (xs := evs) (post := []) (fun _ => rfl) mauto (by decide) (by decide)) (by decide) evs_sw)) ?_
  rintro _ H9 ⟨rfl, rfl⟩
  rw [evs_n]
  refine sr_c (x_eq rfl rfl) (fun h1 => ?_) (fun h1 => absurd (by first | omega | decide) h1)
  refine sr_mv ?_
  refine sr_ry (x_move rfl) ?_
  refine sr_d rfl (wtd_yes rfl rfl rfl) rfl (opS_call rfl rfl rfl rfl cl9 (tbusy_s (some ⟨r1_4, 0, none⟩) 4 evs _ (slv_own (n := 24) (enc := Ev.cells) (xs := evs) (post := []) (fun _ => rfl) mauto (by decide) (by decide)) (by decide))) ?_
  rintro _ H9 ⟨rfl, rfl⟩
  rw [evs_bz]
  refine sr_cy (x_eq rfl rfl) (fun h2 => ?_) (fun h2 => absurd (by first | omega | decide) h2)
  refine sr_rd (x_pick_t rfl rfl rfl) ?_
  refine sr_mv ?_
  refine sr_ry (x_move rfl) ?_
  refine sr_d rfl (wtd_yes rfl rfl rfl) rfl (opS_call rfl rfl rfl rfl cl28 (tlines_s (some ⟨r1_4, 0, none⟩) 4 evs _ (slv_own (n := 24) (enc := Ev.cells) (xs := evs) (post := []) (fun _ => rfl) mauto (by decide) (by decide)) (by decide) evs_rng)) ?_
  rintro _ _ ⟨a2, c2, E2, rfl, rfl⟩
  rw [evs_kn]
  refine sr_ry (x_lenSlice Try.underlying66 rfl) ?_
  refine sr_cy (x_eq rfl rfl) (fun h3 => ?_) (fun h3 => absurd (by first | omega | decide) h3)
  refine sr_rd (x_pick_t rfl rfl rfl) ?_
  refine sr_as ?_
  refine sr_nil ?_
  refine aw_kp [0] ?_
  refine aw_ret ?_
  show ∃ v H2, ResV _ _ _ _ _ _ v ∧ Sub H2 _ ∧ _
  exact ⟨_, H, resV rfl (.cons rfl .nil), Sub.autoP, ⟨rfl, rfl⟩⟩
end
end Go.Proofs.Ytonpnkekcipmlaa
