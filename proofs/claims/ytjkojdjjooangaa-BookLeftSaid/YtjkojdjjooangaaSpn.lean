/- Spans: how many at a time, the times, the most. -/
import Derived.Test.YtjkojdjjooangaaPdqc
import Derived.Test.YtjkojdjjooangaaSpanLaw
namespace Go.Proofs.Ytjkojdjjooangaa
open Go.Proofs.Ytjkojdjjooangaa.Sym
open Go.RowKit (Below)
set_option linter.unusedVariables false
set_option linter.unusedSimpArgs false
structure TmG where
  k : Nat
  X : List Int
  last : Int
  a : Option Addr
  c : Nat
  E : SHeap
structure TbG where
  j : Nat
  b : Int
structure TvG where
  k : Nat
  X : List Int
  a : Option Addr
  c : Nat
  E : SHeap
structure TsG where
  k : Nat
  S : List PStep
  f : Int
  a : Option Addr
  c : Nat
  E : SHeap
structure TcG where
  k : Nat
  C : List PSpan
  a : Option Addr
  c : Nat
  E : SHeap
theorem Sym.MinA.skip {L : List PSpan} {last b : Int} {j : Nat} {x : PSpan} (h : MinA (tmL (L.take j)) last b) (hx : L[j]? = some x) (hd : spR x = false) : MinA (tmL (L.take (j + 1))) last b := by
  rw [tmL_take hx]; unfold tm1; rw [if_neg (by rw [hd]; decide), List.append_nil]; exact h
theorem Sym.MinA.two {L : List PSpan} {last b b1 b2 : Int} {j : Nat} {x : PSpan} (h : MinA (tmL (L.take j)) last b) (hx : L[j]? = some x) (hd : spR x = true) (h1 : b1 = if last < x.from_ ∧ (b < 0 ∨ x.from_ < b) then x.from_ else b) (h2 : b2 = if last < x.to_ ∧ (b1 < 0 ∨ x.to_ < b1) then x.to_ else b1) : MinA (tmL (L.take (j + 1))) last b2 := by
  have hr := spR_iff.1 hd
  rw [tmL_take hx]; unfold tm1; rw [if_pos hd, show tmL (L.take j) ++ [x.from_, x.to_] = tmL (L.take j) ++ [x.from_] ++ [x.to_] by simp]
  exact (h.snoc (by omega) h1).snoc (by omega) h2
theorem Sym.OwnVec.snoc2 {e : TypeId} {xs : List Int} {p q : Int} {a : Option Addr} {c : Nat} {E : SHeap} (h : OwnVec 1 e (.slice a (xs.length + 2) c) (xs.length + 2) (xs.flatMap intC ++ [.int .i64 p, .int .i64 q]) E) : OwnVec 1 e (.slice a (xs ++ [p, q]).length c) (xs ++ [p, q]).length ((xs ++ [p, q]).flatMap intC) E := by
  rw [List.length_append, List.flatMap_append]; exact h
theorem ag55 : aggOf Try.prog 55 = some true := by kernel_rfl
theorem by2 : bytesOf Try.prog 2 = some 8 := by kernel_rfl
theorem cl104 : Callable Try.prog 104 := ⟨Try.f104, Try.func104, by kernel_rfl, by kernel_rfl⟩
theorem cl105 : Callable Try.prog 105 := ⟨Try.f105, Try.func105, by kernel_rfl, by kernel_rfl⟩
theorem cl59 : Callable Try.prog 59 := ⟨Try.f59, Try.func59, by kernel_rfl, by kernel_rfl⟩
theorem cl61 : Callable Try.prog 61 := ⟨Try.f61, Try.func61, by kernel_rfl, by kernel_rfl⟩
theorem cl62 : Callable Try.prog 62 := ⟨Try.f62, Try.func62, by kernel_rfl, by kernel_rfl⟩
theorem sz55 : szOf Try.prog 55 = some 3 := by kernel_rfl
theorem zr55 : zeroOf Try.prog 55 = some (.agg #[.int .i64 0, .int .i64 0, .int .i64 0]) := by kernel_rfl
section
variable {W0 : World}
set_option maxRecDepth 100000 in
set_option maxHeartbeats 400000 in
theorem sright_s (x : PSpan) (H : SHeap) : AC Try.prog W0 59 [PSpan.v x] H (fun v H' => v = .bool (spR x) ∧ H' = H) := by
  refine ac_of Try.func59 rfl rfl rfl ?_
  refine aw_seq_region ?_
  refine sr_new rfl (wtd_none rfl) rfl (x_box rfl rfl) ?_
  intro r0_0 hr0_0 gr0_0
  refine sr_as ?_
  refine sr_nil ?_
  refine aw_kp [1, 2] ?_
  refine aw_seq_region ?_
  refine sr_rd (x_fieldAddr fd55_0 rfl) ?_
  refine sr_rd (x_load ag2 rfl (cells_ext mauto Ext.auto)) ?_
  refine sr_c (x_ge rfl rfl) (fun h1 => ?_) (fun h1 => ?_)
  · refine sr_mv ?_
    refine sr_ry (x_fieldAddr fd55_0 rfl) ?_
    refine sr_ry (x_load ag2 rfl (cells_ext mauto Ext.auto)) ?_
    refine sr_ry (x_fieldAddr fd55_1 rfl) ?_
    refine sr_ry (x_load ag2 rfl (cells_ext mauto Ext.auto)) ?_
    refine sr_cy (x_lt rfl rfl) (fun h2 => ?_) (fun h2 => ?_)
    · refine sr_rd (x_pick_t rfl rfl rfl) ?_
      refine sr_mv ?_
      refine sr_ry (x_fieldAddr fd55_1 rfl) ?_
      refine sr_ry (x_load ag2 rfl (cells_ext mauto Ext.auto)) ?_
      refine sr_cy (x_le rfl rfl) (fun h3 => ?_) (fun h3 => ?_)
      · refine sr_rd (x_pick_t rfl rfl rfl) ?_
        refine sr_mv ?_
        refine sr_ry (x_fieldAddr fd55_2 rfl) ?_
        refine sr_ry (x_load ag3 rfl (cells_ext mauto Ext.auto)) ?_
        refine sr_cy (x_ge rfl rfl) (fun h4 => ?_) (fun h4 => ?_)
        · refine sr_rd (x_pick_t rfl rfl rfl) ?_
          refine sr_mv ?_
          refine sr_ry (x_fieldAddr fd55_2 rfl) ?_
          refine sr_ry (x_load ag3 rfl (cells_ext mauto Ext.auto)) ?_
          refine sr_cy (x_le rfl rfl) (fun h5 => ?_) (fun h5 => ?_)
          · refine sr_rd (x_pick_t rfl rfl rfl) ?_
            refine sr_as ?_
            refine sr_nil ?_
            refine aw_kp [2] ?_
            refine aw_ret ?_
            show ∃ v H2, ResV _ _ _ _ _ _ v ∧ Sub H2 _ ∧ _
            exact ⟨_, H, resV rfl (.cons rfl .nil), Sub.autoR, ⟨congrArg Value.bool (by first | exact (spR_iff.2 (by omega)).symm | exact (Bool.eq_false_iff.2 (fun h => by have := spR_iff.1 h; omega)).symm), rfl⟩⟩
          · refine sr_rd (x_pick_t rfl rfl rfl) ?_
            refine sr_as ?_
            refine sr_nil ?_
            refine aw_kp [2] ?_
            refine aw_ret ?_
            show ∃ v H2, ResV _ _ _ _ _ _ v ∧ Sub H2 _ ∧ _
            exact ⟨_, H, resV rfl (.cons rfl .nil), Sub.autoR, ⟨congrArg Value.bool (by first | exact (spR_iff.2 (by omega)).symm | exact (Bool.eq_false_iff.2 (fun h => by have := spR_iff.1 h; omega)).symm), rfl⟩⟩
        · refine sr_rd (x_pick_t rfl rfl rfl) ?_
          refine sr_mv ?_
          refine sr_sk ?_
          refine sr_sk ?_
          refine sr_sk ?_
          refine sr_rd (x_pick_f rfl rfl rfl) ?_
          refine sr_as ?_
          refine sr_nil ?_
          refine aw_kp [2] ?_
          refine aw_ret ?_
          show ∃ v H2, ResV _ _ _ _ _ _ v ∧ Sub H2 _ ∧ _
          exact ⟨_, H, resV rfl (.cons rfl .nil), Sub.autoR, ⟨congrArg Value.bool (by first | exact (spR_iff.2 (by omega)).symm | exact (Bool.eq_false_iff.2 (fun h => by have := spR_iff.1 h; omega)).symm), rfl⟩⟩
      · refine sr_rd (x_pick_t rfl rfl rfl) ?_
        refine sr_mv ?_
        refine sr_sk ?_
        refine sr_sk ?_
        refine sr_sk ?_
        refine sr_rd (x_pick_f rfl rfl rfl) ?_
        refine sr_mv ?_
        refine sr_sk ?_
        refine sr_sk ?_
        refine sr_sk ?_
        refine sr_rd (x_pick_f rfl rfl rfl) ?_
        refine sr_as ?_
        refine sr_nil ?_
        refine aw_kp [2] ?_
        refine aw_ret ?_
        show ∃ v H2, ResV _ _ _ _ _ _ v ∧ Sub H2 _ ∧ _
        exact ⟨_, H, resV rfl (.cons rfl .nil), Sub.autoR, ⟨congrArg Value.bool (by first | exact (spR_iff.2 (by omega)).symm | exact (Bool.eq_false_iff.2 (fun h => by have := spR_iff.1 h; omega)).symm), rfl⟩⟩
    · refine sr_rd (x_pick_t rfl rfl rfl) ?_
      refine sr_mv ?_
      refine sr_sk ?_
      refine sr_sk ?_
      refine sr_sk ?_
      refine sr_rd (x_pick_f rfl rfl rfl) ?_
      refine sr_mv ?_
      refine sr_sk ?_
      refine sr_sk ?_
      refine sr_sk ?_
      refine sr_rd (x_pick_f rfl rfl rfl) ?_
      refine sr_mv ?_
      refine sr_sk ?_
      refine sr_sk ?_
      refine sr_sk ?_
      refine sr_rd (x_pick_f rfl rfl rfl) ?_
      refine sr_as ?_
      refine sr_nil ?_
      refine aw_kp [2] ?_
      refine aw_ret ?_
      show ∃ v H2, ResV _ _ _ _ _ _ v ∧ Sub H2 _ ∧ _
      exact ⟨_, H, resV rfl (.cons rfl .nil), Sub.autoR, ⟨congrArg Value.bool (by first | exact (spR_iff.2 (by omega)).symm | exact (Bool.eq_false_iff.2 (fun h => by have := spR_iff.1 h; omega)).symm), rfl⟩⟩
  · refine sr_mv ?_
    refine sr_sk ?_
    refine sr_sk ?_
    refine sr_sk ?_
    refine sr_sk ?_
    refine sr_sk ?_
    refine sr_rd (x_pick_f rfl rfl rfl) ?_
    refine sr_mv ?_
    refine sr_sk ?_
    refine sr_sk ?_
    refine sr_sk ?_
    refine sr_rd (x_pick_f rfl rfl rfl) ?_
    refine sr_mv ?_
    refine sr_sk ?_
    refine sr_sk ?_
    refine sr_sk ?_
    refine sr_rd (x_pick_f rfl rfl rfl) ?_
    refine sr_mv ?_
    refine sr_sk ?_
    refine sr_sk ?_
    refine sr_sk ?_
    refine sr_rd (x_pick_f rfl rfl rfl) ?_
    refine sr_as ?_
    refine sr_nil ?_
    refine aw_kp [2] ?_
    refine aw_ret ?_
    show ∃ v H2, ResV _ _ _ _ _ _ v ∧ Sub H2 _ ∧ _
    exact ⟨_, H, resV rfl (.cons rfl .nil), Sub.autoR, ⟨congrArg Value.bool (by first | exact (spR_iff.2 (by omega)).symm | exact (Bool.eq_false_iff.2 (fun h => by have := spR_iff.1 h; omega)).symm), rfl⟩⟩
set_option maxRecDepth 100000 in
set_option maxHeartbeats 1000000 in
theorem sat_s (a : Option Addr) (cap : Nat) (L : List PSpan) (H : SHeap) (hs : SlV W0 H 3 PSpan.cells a cap L) (hl : L.length ≤ 120) (t : Int) : AC Try.prog W0 62 [.int .i64 t, .slice a L.length cap] H (fun v H' => v = .int .i64 (atS L t) ∧ H' = H) := by
  have hle := hs.le
  have hcb := hs.capb
  refine ac_of Try.func62 rfl rfl rfl ?_
  refine aw_seq_region ?_
  refine sr_as ?_
  refine sr_nil ?_
  refine aw_kp [0, 1, 4] ?_
  refine aw_seq_region ?_
  refine sr_as ?_
  refine sr_nil ?_
  refine aw_kp [0, 1, 4, 5] ?_
  refine aw_seq ?_
  refine aw_seq_region ?_
  refine sr_mv ?_
  refine sr_rd (x_lenSlice Try.underlying34 rfl) ?_
  refine sr_mv ?_
  refine sr_nil ?_
  refine aw_kp [0, 4, 5, 8, 9, 10] ?_
  refine aw_block ?_
  refine aw_loop (ι := Nat) (fun k => k ≤ L.length) (fun k => [(0, .int .i64 t), (5, .int .i64 (atS (L.take k) t)), (8, .slice a L.length cap), (9, .int .i64 L.length), (10, .int .i64 k)]) (fun _ => H) (fun k => L.length - k) 0 (Nat.zero_le _) KeepF.auto Sub.autoP ?_
  intro k hk
  have hb := atS_bd (L.take k) t
  rw [List.length_take] at hb
  refine aw_seq_region ?_
  refine sr_c (x_lt rfl rfl) (fun h1 => ?_) (fun h1 => ?_)
  · refine sr_nil ?_
    refine aw_kp [0, 5, 8, 9, 10, 11] ?_
    refine aw_seq ?_
    refine aw_true rfl ?_
    refine aw_skip ?_
    show AW _ _ _ _ _ _ _
    refine aw_seq ?_
    refine aw_block ?_
    refine aw_seq_region ?_
    obtain ⟨x, hx⟩ := get_ex (show k < L.length by omega)
    obtain ⟨bx, ox, hax, hcx⟩ := hs.at_ _ _ hx
    refine sr_rd (x_indexAddrN (k) Try.underlying34 sz55 rfl hax rfl (by omega) (by omega)) ?_
    refine sr_rd (x_loadN ag55 sz55 rfl (Cells.mono hcx Sub.autoR) rfl) ?_
    refine sr_new rfl (wtd_none rfl) rfl (x_alloc zr55 rfl) ?_
    intro r4_2 hr4_2 gr4_2
    refine sr_x0 rfl (wtd_none rfl) (x_store sz55 rfl rfl rfl rfl rfl Repl.auto Spl.auto) ?_
    refine sr_nil ?_
    refine aw_kp [0, 5, 7, 8, 9, 10, 11, 12, 13] ?_
    refine aw_seq_region ?_
    refine sr_rd (x_loadN ag55 sz55 rfl (cells_ext mauto Ext.auto) rfl) ?_
    refine sr_d rfl (wtd_none rfl) rfl (opS_call rfl rfl rfl rfl cl59 (sright_s x _)) ?_
    rintro _ H9 ⟨rfl, rfl⟩
    generalize hd : spR x = d1
    cases d1
    · refine sr_mv ?_
      refine sr_sk ?_
      refine sr_sk ?_
      refine sr_sk ?_
      refine sr_sk ?_
      refine sr_rd (x_pick_f rfl rfl rfl) ?_
      refine sr_mv ?_
      refine sr_sk ?_
      refine sr_sk ?_
      refine sr_sk ?_
      refine sr_sk ?_
      refine sr_rd (x_pick_f rfl rfl rfl) ?_
      refine sr_nil ?_
      refine aw_kp [0, 5, 7, 8, 9, 10, 11, 12, 13, 14, 15, 16, 17, 18, 19, 20, 21, 22, 23, 24, 25, 26, 27] ?_
      refine aw_false rfl ?_
      refine aw_skip ?_
      show AW _ _ _ _ _ _ _
      refine aw_region ?_
      refine sr_rd (x_add' rfl rfl (i64w (by omega) (by omega))) ?_
      refine sr_mv ?_
      refine sr_nil ?_
      show ∃ s', _ ∧ _ ∧ _ ∧ _
      first | exact ⟨k + 1, by omega, by omega, (by rw [atS_take hx, if_pos (onS_iff.2 ⟨hd, by omega, by omega⟩)]; exact KeepF.auto), Sub.autoR⟩ | exact ⟨k + 1, by omega, by omega, (by rw [atS_take hx, if_neg (fun h9 => by (obtain ⟨q1, q2, q3⟩ := onS_iff.1 h9); first | omega | (rw [hd] at q1; cases q1))]; exact KeepF.auto), Sub.autoR⟩
    · refine sr_mv ?_
      refine sr_ry (x_fieldAddr fd55_0 rfl) ?_
      refine sr_ry (x_load ag2 rfl (cells_ext mauto Ext.auto)) ?_
      refine sr_ry (x_move rfl) ?_
      refine sr_cy (x_le rfl rfl) (fun h2 => ?_) (fun h2 => ?_)
      · refine sr_rd (x_pick_t rfl rfl rfl) ?_
        refine sr_mv ?_
        refine sr_ry (x_move rfl) ?_
        refine sr_ry (x_fieldAddr fd55_1 rfl) ?_
        refine sr_ry (x_load ag2 rfl (cells_ext mauto Ext.auto)) ?_
        refine sr_cy (x_lt rfl rfl) (fun h3 => ?_) (fun h3 => ?_)
        · refine sr_rd (x_pick_t rfl rfl rfl) ?_
          refine sr_nil ?_
          refine aw_kp [0, 5, 7, 8, 9, 10, 11, 12, 13, 14, 15, 16, 17, 18, 19, 20, 21, 22, 23, 24, 25, 26, 27] ?_
          refine aw_true rfl ?_
          refine aw_region ?_
          have hw := spR_iff.1 hd
          refine sr_mv ?_
          refine sr_rd (x_fieldAddr fd55_2 rfl) ?_
          refine sr_rd (x_load ag3 rfl (cells_ext mauto Ext.auto)) ?_
          refine sr_rd (x_add' rfl rfl (i64w (by omega) (by omega))) ?_
          refine sr_as ?_
          refine sr_nil ?_
          show AW _ _ _ _ _ _ _
          refine aw_region ?_
          refine sr_rd (x_add' rfl rfl (i64w (by omega) (by omega))) ?_
          refine sr_mv ?_
          refine sr_nil ?_
          show ∃ s', _ ∧ _ ∧ _ ∧ _
          first | exact ⟨k + 1, by omega, by omega, (by rw [atS_take hx, if_pos (onS_iff.2 ⟨hd, by omega, by omega⟩)]; exact KeepF.auto), Sub.autoR⟩ | exact ⟨k + 1, by omega, by omega, (by rw [atS_take hx, if_neg (fun h9 => by (obtain ⟨q1, q2, q3⟩ := onS_iff.1 h9); first | omega | (rw [hd] at q1; cases q1))]; exact KeepF.auto), Sub.autoR⟩
        · refine sr_rd (x_pick_t rfl rfl rfl) ?_
          refine sr_nil ?_
          refine aw_kp [0, 5, 7, 8, 9, 10, 11, 12, 13, 14, 15, 16, 17, 18, 19, 20, 21, 22, 23, 24, 25, 26, 27] ?_
          refine aw_false rfl ?_
          refine aw_skip ?_
          show AW _ _ _ _ _ _ _
          refine aw_region ?_
          refine sr_rd (x_add' rfl rfl (i64w (by omega) (by omega))) ?_
          refine sr_mv ?_
          refine sr_nil ?_
          show ∃ s', _ ∧ _ ∧ _ ∧ _
          first | exact ⟨k + 1, by omega, by omega, (by rw [atS_take hx, if_pos (onS_iff.2 ⟨hd, by omega, by omega⟩)]; exact KeepF.auto), Sub.autoR⟩ | exact ⟨k + 1, by omega, by omega, (by rw [atS_take hx, if_neg (fun h9 => by (obtain ⟨q1, q2, q3⟩ := onS_iff.1 h9); first | omega | (rw [hd] at q1; cases q1))]; exact KeepF.auto), Sub.autoR⟩
      · refine sr_rd (x_pick_t rfl rfl rfl) ?_
        refine sr_mv ?_
        refine sr_sk ?_
        refine sr_sk ?_
        refine sr_sk ?_
        refine sr_sk ?_
        refine sr_rd (x_pick_f rfl rfl rfl) ?_
        refine sr_nil ?_
        refine aw_kp [0, 5, 7, 8, 9, 10, 11, 12, 13, 14, 15, 16, 17, 18, 19, 20, 21, 22, 23, 24, 25, 26, 27] ?_
        refine aw_false rfl ?_
        refine aw_skip ?_
        show AW _ _ _ _ _ _ _
        refine aw_region ?_
        refine sr_rd (x_add' rfl rfl (i64w (by omega) (by omega))) ?_
        refine sr_mv ?_
        refine sr_nil ?_
        show ∃ s', _ ∧ _ ∧ _ ∧ _
        first | exact ⟨k + 1, by omega, by omega, (by rw [atS_take hx, if_pos (onS_iff.2 ⟨hd, by omega, by omega⟩)]; exact KeepF.auto), Sub.autoR⟩ | exact ⟨k + 1, by omega, by omega, (by rw [atS_take hx, if_neg (fun h9 => by (obtain ⟨q1, q2, q3⟩ := onS_iff.1 h9); first | omega | (rw [hd] at q1; cases q1))]; exact KeepF.auto), Sub.autoR⟩
  · refine sr_nil ?_
    refine aw_kp [0, 5, 8, 9, 10, 11] ?_
    refine aw_seq ?_
    refine aw_false rfl ?_
    refine aw_exit ?_
    show AW _ _ _ _ _ _ _
    refine aw_seq_region ?_
    refine sr_mv ?_
    refine sr_as ?_
    refine sr_nil ?_
    refine aw_kp [4] ?_
    refine aw_ret ?_
    show ∃ v H2, ResV _ _ _ _ _ _ v ∧ Sub H2 _ ∧ _
    exact ⟨_, H, resV rfl (.cons rfl .nil), Sub.autoR, ⟨congrArg (Value.int .i64) (by rw [List.take_of_length_le (by omega)]), rfl⟩⟩
set_option maxRecDepth 100000 in
set_option maxHeartbeats 2000000 in
theorem stimes_s (a : Option Addr) (cap : Nat) (L : List PSpan) (H : SHeap) (hs : SlV W0 H 3 PSpan.cells a cap L) (hl : L.length ≤ 120) : AC Try.prog W0 61 [.slice a L.length cap] H (fun v H' => ∃ (X : List Int) (a' : Option Addr) (c' : Nat) (E' : SHeap), v = .slice a' X.length c' ∧ Tms (tmL L) X ∧ OffVec 1 2 (.slice a' X.length c') X.length (X.flatMap intC) E' ∧ H' = E' ++ H) := by
  have hle := hs.le
  have hcb := hs.capb
  refine ac_of Try.func61 rfl rfl rfl ?_
  refine aw_seq_region ?_
  refine sr_as ?_
  refine sr_nil ?_
  refine aw_kp [0, 2] ?_
  refine aw_seq_region ?_
  refine sr_as ?_
  refine sr_nil ?_
  refine aw_kp [0, 2, 3] ?_
  refine aw_seq ?_
  refine aw_seq_region ?_
  refine sr_mv ?_
  refine sr_rd (x_lenSlice Try.underlying34 rfl) ?_
  refine sr_mv ?_
  refine sr_nil ?_
  refine aw_kp [2, 3, 6, 7, 8] ?_
  refine aw_block ?_
  refine aw_loop (ι := TvG) (fun s => s.k ≤ L.length ∧ s.X = tmL (L.take s.k) ∧ OwnVec 1 2 (.slice s.a s.X.length s.c) s.X.length (s.X.flatMap intC) s.E) (fun s => [(2, .slice none 0 0), (3, .slice s.a s.X.length s.c), (6, .slice a L.length cap), (7, .int .i64 L.length), (8, .int .i64 s.k)]) (fun s => s.E ++ H) (fun s => L.length - s.k) ⟨0, [], none, 0, []⟩ (⟨Nat.zero_le _, rfl, .nil⟩) KeepF.auto Sub.autoP ?_
  intro s9 hs9
  obtain ⟨k, X, a1, c1, E⟩ := s9
  dsimp only at hs9 ⊢
  obtain ⟨hk, hX, V⟩ := hs9
  have hXl : X.length ≤ 2 * L.length := by (rw [hX]; have := tmL_len (L.take k); rw [List.length_take] at this; omega)
  refine aw_seq_region ?_
  refine sr_c (x_lt rfl rfl) (fun h1 => ?_) (fun h1 => ?_)
  · refine sr_nil ?_
    refine aw_kp [2, 3, 6, 7, 8, 9] ?_
    refine aw_seq ?_
    refine aw_true rfl ?_
    refine aw_skip ?_
    show AW _ _ _ _ _ _ _
    refine aw_seq ?_
    refine aw_block ?_
    refine aw_seq_region ?_
    obtain ⟨x, hx⟩ := get_ex (show k < L.length by omega)
    obtain ⟨bx, ox, hax, hcx⟩ := hs.at_ _ _ hx
    refine sr_rd (x_indexAddrN (k) Try.underlying34 sz55 rfl hax rfl (by omega) (by omega)) ?_
    refine sr_rd (x_loadN ag55 sz55 rfl (Cells.mono hcx Sub.autoR) rfl) ?_
    refine sr_new rfl (wtd_none rfl) rfl (x_alloc zr55 rfl) ?_
    intro r4_2 hr4_2 gr4_2
    refine sr_x0 rfl (wtd_none rfl) (x_store sz55 rfl rfl rfl rfl rfl Repl.auto Spl.auto) ?_
    refine sr_nil ?_
    refine aw_kp [2, 3, 5, 6, 7, 8, 9, 10, 11] ?_
    refine aw_seq_region ?_
    refine sr_rd (x_loadN ag55 sz55 rfl (cells_ext mauto Ext.auto) rfl) ?_
    refine sr_d rfl (wtd_none rfl) rfl (opS_call rfl rfl rfl rfl cl59 (sright_s x _)) ?_
    rintro _ H9 ⟨rfl, rfl⟩
    generalize hd : spR x = d1
    cases d1
    · refine sr_nil ?_
      refine aw_kp [2, 3, 5, 6, 7, 8, 9, 10, 11, 12, 13] ?_
      refine aw_false rfl ?_
      refine aw_skip ?_
      show AW _ _ _ _ _ _ _
      refine aw_region ?_
      refine sr_rd (x_add' rfl rfl (i64w (by omega) (by omega))) ?_
      refine sr_mv ?_
      refine sr_nil ?_
      show ∃ s', _ ∧ _ ∧ _ ∧ _
      first | exact ⟨⟨k + 1, X ++ [x.from_, x.to_], a20, cap20, E20⟩, ⟨by dsimp only; omega, (by dsimp only; rw [tmL_take hx, ← hX]; unfold tm1; rw [if_pos hd]), OwnVec.snoc2 hV20⟩, by dsimp only; omega, (by rw [List.length_append]; exact KeepF.auto), Sub.autoD⟩ | exact ⟨⟨k + 1, X, a1, c1, E⟩, ⟨by dsimp only; omega, (by dsimp only; rw [tmL_take hx, ← hX]; unfold tm1; rw [if_neg (by rw [hd]; decide), List.append_nil]), V⟩, by dsimp only; omega, KeepF.auto, Sub.autoD⟩
    · refine sr_nil ?_
      refine aw_kp [2, 3, 5, 6, 7, 8, 9, 10, 11, 12, 13] ?_
      refine aw_true rfl ?_
      refine aw_region ?_
      refine sr_mv ?_
      refine sr_rd (x_fieldAddr fd55_0 rfl) ?_
      refine sr_rd (x_load ag2 rfl (cells_ext mauto Ext.auto)) ?_
      refine sr_rd (x_fieldAddr fd55_1 rfl) ?_
      refine sr_rd (x_load ag2 rfl (cells_ext mauto Ext.auto)) ?_
      refine sr_new rfl (wtd_none rfl) rfl (x_buildSlice Try.underlying87 sz2 zr2 rfl rfl rfl rfl Parts.auto Fill.auto) ?_
      intro r6_5 hr6_5 gr6_5
      refine sr_d rfl (wtd_none rfl) rfl (opS_append (G := (r6_5, .cells [.int .i64 x.from_, .int .i64 x.to_].toArray 2 (0, 0)) :: (r4_2, .cells (PSpan.cells x).toArray 55 (0, 0)) :: H) (N := [.int .i64 x.from_, .int .i64 x.to_]) (m := 2) Try.underlying87 sz2 zr2 rfl by2 rfl rfl V Sub.autoP (.inr ⟨_, _, rfl, (cells_ext mauto Ext.auto)⟩) (rfl) rfl (by omega) (by omega)) ?_
      rintro v20 _ ⟨E20, hV20, rfl⟩
      obtain ⟨a20, cap20, rfl⟩ := hV20.isSl
      refine sr_as ?_
      refine sr_nil ?_
      show AW _ _ _ _ _ _ _
      refine aw_region ?_
      refine sr_rd (x_add' rfl rfl (i64w (by omega) (by omega))) ?_
      refine sr_mv ?_
      refine sr_nil ?_
      show ∃ s', _ ∧ _ ∧ _ ∧ _
      first | exact ⟨⟨k + 1, X ++ [x.from_, x.to_], a20, cap20, E20⟩, ⟨by dsimp only; omega, (by dsimp only; rw [tmL_take hx, ← hX]; unfold tm1; rw [if_pos hd]), OwnVec.snoc2 hV20⟩, by dsimp only; omega, (by rw [List.length_append]; exact KeepF.auto), Sub.autoD⟩ | exact ⟨⟨k + 1, X, a1, c1, E⟩, ⟨by dsimp only; omega, (by dsimp only; rw [tmL_take hx, ← hX]; unfold tm1; rw [if_neg (by rw [hd]; decide), List.append_nil]), V⟩, by dsimp only; omega, KeepF.auto, Sub.autoD⟩
  · refine sr_nil ?_
    refine aw_kp [2, 3, 6, 7, 8, 9] ?_
    refine aw_seq ?_
    refine aw_false rfl ?_
    refine aw_exit ?_
    show AW _ _ _ _ _ _ _
    refine aw_seq_region ?_
    rw [List.take_of_length_le (by omega)] at hX
    refine sr_mv ?_
    refine sr_d rfl (wtd_none rfl) rfl (opS_call rfl rfl rfl rfl cl104 (lV_s a1 c1 X.length X E H V rfl (by omega))) ?_
    rintro _ _ ⟨W9, E9, ⟨hp9, hs9⟩, rfl, V9, rfl⟩
    refine sr_nil ?_
    refine aw_kp [2, 3] ?_
    refine aw_seq_region ?_
    refine sr_mv ?_
    refine sr_d rfl (wtd_none rfl) rfl (opS_call rfl rfl rfl rfl cl105 (lCpt_s a1 X.length c1 W9 E9 H V9.off hp9.length_eq (by omega))) ?_
    rintro _ _ ⟨k2, E2, rfl, rfl, V2, rfl⟩
    refine sr_as ?_
    refine sr_nil ?_
    refine aw_kp [2] ?_
    refine aw_ret ?_
    show ∃ v H2, ResV _ _ _ _ _ _ v ∧ Sub H2 _ ∧ _
    exact ⟨_, E2 ++ H, resV rfl (.cons rfl .nil), Sub.refl _, cpt eqI W9, a1, c1, E2, rfl, hX ▸ srt_tms0 hp9 (sri_pw hs9 hp9.length_eq), V2, rfl⟩
set_option maxRecDepth 100000 in
set_option maxHeartbeats 1000000 in
theorem speak_s (a : Option Addr) (cap : Nat) (L : List PSpan) (H : SHeap) (hs : SlV W0 H 3 PSpan.cells a cap L) (hl : L.length ≤ 120) (from_ to_ : Int) : AC Try.prog W0 57 [.int .i64 from_, .int .i64 to_, .slice a L.length cap] H (fun v H' => (∃ m : Int, v = .int .i64 m ∧ (¬ from_ < to_ → m = 0) ∧ ∀ X, Tms (tmL L) X → m = peakS L X from_ to_) ∧ H' = H) := by
  have hle := hs.le
  have hcb := hs.capb
  refine ac_of Try.func57 rfl rfl rfl ?_
  refine aw_seq_region ?_
  refine sr_as ?_
  refine sr_nil ?_
  refine aw_kp [0, 1, 2, 6] ?_
  refine aw_seq ?_
  refine aw_seq_region ?_
  refine sr_mv ?_
  refine sr_mv ?_
  refine sr_c (x_ge rfl rfl) (fun h1 => ?_) (fun h1 => ?_)
  · refine sr_nil ?_
    refine aw_kp [0, 1, 2, 6, 12] ?_
    refine aw_true rfl ?_
    refine aw_seq_region ?_
    refine sr_as ?_
    refine sr_nil ?_
    refine aw_kp [0, 1, 2, 6] ?_
    refine aw_ret ?_
    show ∃ v H2, ResV _ _ _ _ _ _ v ∧ Sub H2 _ ∧ _
    first | exact ⟨_, H, resV rfl (.cons rfl .nil), Sub.refl _, ⟨0, rfl, fun _ => rfl, fun X hX => by unfold peakS; rw [if_neg (by omega)]⟩, rfl⟩ | exact ⟨_, H, resV rfl (.cons rfl .nil), Sub.autoR, ⟨_, rfl, fun h => absurd (show from_ < to_ by omega) h, fun Y hY => by (obtain rfl := hX.uniq hY); unfold peakS; rw [if_pos (by omega), List.take_of_length_le (by omega)]⟩, rfl⟩
  · refine sr_nil ?_
    refine aw_kp [0, 1, 2, 6, 12] ?_
    refine aw_false rfl ?_
    refine aw_skip ?_
    show AW _ _ _ _ _ _ _
    refine aw_seq_region ?_
    refine sr_mv ?_
    refine sr_mv ?_
    refine sr_d rfl (wtd_none rfl) rfl (opS_call rfl rfl rfl rfl cl62 (sat_s a cap L _ (hs.mono Sub.autoR) hl from_)) ?_
    rintro _ H ⟨rfl, rfl⟩
    refine sr_as ?_
    refine sr_nil ?_
    refine aw_kp [0, 1, 2, 6, 7] ?_
    refine aw_seq ?_
    refine aw_seq_region ?_
    refine sr_mv ?_
    refine sr_d rfl (wtd_none rfl) rfl (opS_call rfl rfl rfl rfl cl61 (stimes_s a cap L _ (hs.mono Sub.autoR) hl)) ?_
    rintro _ _ ⟨X, a2, c2, E2, rfl, hX, V2, rfl⟩
    have hse := V2.slv' (W0 := W0) (fun _ => rfl) rfl (Sub.refl _)
    have hel := hse.le
    have hec := hse.capb
    have hX1 := hX.len
    have hX2 := tmL_len L
    refine sr_rd (x_lenSlice Try.underlying87 rfl) ?_
    refine sr_mv ?_
    refine sr_nil ?_
    refine aw_kp [0, 1, 2, 6, 7, 17, 18, 19] ?_
    refine aw_block ?_
    refine aw_loop (ι := Nat) (fun k => k ≤ X.length) (fun k => [(0, .int .i64 from_), (1, .int .i64 to_), (2, .slice a L.length cap), (7, .int .i64 (pkF (atS L) from_ to_ (X.take k) (atS L from_))), (17, .slice a2 X.length c2), (18, .int .i64 X.length), (19, .int .i64 k)]) (fun _ => E2 ++ H) (fun k => X.length - k) 0 (Nat.zero_le _) KeepF.auto Sub.autoP ?_
    intro k hk
    refine aw_seq_region ?_
    refine sr_c (x_lt rfl rfl) (fun h2 => ?_) (fun h2 => ?_)
    · refine sr_nil ?_
      refine aw_kp [0, 1, 2, 7, 17, 18, 19, 20] ?_
      refine aw_seq ?_
      refine aw_true rfl ?_
      refine aw_skip ?_
      show AW _ _ _ _ _ _ _
      refine aw_seq ?_
      refine aw_block ?_
      refine aw_seq_region ?_
      obtain ⟨t, ht⟩ := get_ex (show k < X.length by omega)
      obtain ⟨bt, ot, hat, hct⟩ := hse.at_ _ _ ht
      refine sr_rd (x_indexAddrN (k) Try.underlying87 sz2 rfl hat rfl (by omega) (by omega)) ?_
      refine sr_rd (x_load ag2 rfl (cells_get (Cells.mono hct Sub.autoE) 0 rfl)) ?_
      refine sr_as ?_
      refine sr_nil ?_
      refine aw_kp [0, 1, 2, 7, 9, 17, 18, 19, 20, 21, 22] ?_
      refine aw_seq_region ?_
      refine sr_mv ?_
      refine sr_mv ?_
      refine sr_c (x_gt rfl rfl) (fun h3 => ?_) (fun h3 => ?_)
      · refine sr_mv ?_
        refine sr_ry (x_move rfl) ?_
        refine sr_ry (x_move rfl) ?_
        refine sr_cy (x_lt rfl rfl) (fun h4 => ?_) (fun h4 => ?_)
        · refine sr_rd (x_pick_t rfl rfl rfl) ?_
          refine sr_nil ?_
          refine aw_kp [0, 1, 2, 7, 9, 17, 18, 19, 20, 21, 22, 23, 24, 25, 26, 27, 28, 29, 30] ?_
          refine aw_true rfl ?_
          refine aw_region ?_
          refine sr_mv ?_
          refine sr_mv ?_
          refine sr_mv ?_
          refine sr_d rfl (wtd_none rfl) rfl (opS_call rfl rfl rfl rfl cl62 (sat_s a cap L _ (hs.mono Sub.autoR) hl t)) ?_
          rintro _ H9 ⟨rfl, rfl⟩
          refine sr_rd (x_max rfl rfl) ?_
          refine sr_as ?_
          refine sr_nil ?_
          show AW _ _ _ _ _ _ _
          refine aw_region ?_
          refine sr_rd (x_add' rfl rfl (i64w (by omega) (by omega))) ?_
          refine sr_mv ?_
          refine sr_nil ?_
          show ∃ s', _ ∧ _ ∧ _ ∧ _
          first | exact ⟨k + 1, by omega, by omega, (by rw [pkF_take ht, if_pos (by omega)]; exact KeepF.auto), Sub.autoD⟩ | exact ⟨k + 1, by omega, by omega, (by rw [pkF_take ht, if_neg (by omega)]; exact KeepF.auto), Sub.autoD⟩
        · refine sr_rd (x_pick_t rfl rfl rfl) ?_
          refine sr_nil ?_
          refine aw_kp [0, 1, 2, 7, 9, 17, 18, 19, 20, 21, 22, 23, 24, 25, 26, 27, 28, 29, 30] ?_
          refine aw_false rfl ?_
          refine aw_skip ?_
          show AW _ _ _ _ _ _ _
          refine aw_region ?_
          refine sr_rd (x_add' rfl rfl (i64w (by omega) (by omega))) ?_
          refine sr_mv ?_
          refine sr_nil ?_
          show ∃ s', _ ∧ _ ∧ _ ∧ _
          first | exact ⟨k + 1, by omega, by omega, (by rw [pkF_take ht, if_pos (by omega)]; exact KeepF.auto), Sub.autoD⟩ | exact ⟨k + 1, by omega, by omega, (by rw [pkF_take ht, if_neg (by omega)]; exact KeepF.auto), Sub.autoD⟩
      · refine sr_mv ?_
        refine sr_sk ?_
        refine sr_sk ?_
        refine sr_sk ?_
        refine sr_rd (x_pick_f rfl rfl rfl) ?_
        refine sr_nil ?_
        refine aw_kp [0, 1, 2, 7, 9, 17, 18, 19, 20, 21, 22, 23, 24, 25, 26, 27, 28, 29, 30] ?_
        refine aw_false rfl ?_
        refine aw_skip ?_
        show AW _ _ _ _ _ _ _
        refine aw_region ?_
        refine sr_rd (x_add' rfl rfl (i64w (by omega) (by omega))) ?_
        refine sr_mv ?_
        refine sr_nil ?_
        show ∃ s', _ ∧ _ ∧ _ ∧ _
        first | exact ⟨k + 1, by omega, by omega, (by rw [pkF_take ht, if_pos (by omega)]; exact KeepF.auto), Sub.autoD⟩ | exact ⟨k + 1, by omega, by omega, (by rw [pkF_take ht, if_neg (by omega)]; exact KeepF.auto), Sub.autoD⟩
    · refine sr_nil ?_
      refine aw_kp [0, 1, 2, 7, 17, 18, 19, 20] ?_
      refine aw_seq ?_
      refine aw_false rfl ?_
      refine aw_exit ?_
      show AW _ _ _ _ _ _ _
      refine aw_seq_region ?_
      refine sr_mv ?_
      refine sr_as ?_
      refine sr_nil ?_
      refine aw_kp [6] ?_
      refine aw_ret ?_
      show ∃ v H2, ResV _ _ _ _ _ _ v ∧ Sub H2 _ ∧ _
      first | exact ⟨_, H, resV rfl (.cons rfl .nil), Sub.refl _, ⟨0, rfl, fun _ => rfl, fun X hX => by unfold peakS; rw [if_neg (by omega)]⟩, rfl⟩ | exact ⟨_, H, resV rfl (.cons rfl .nil), Sub.autoR, ⟨_, rfl, fun h => absurd (show from_ < to_ by omega) h, fun Y hY => by (obtain rfl := hX.uniq hY); unfold peakS; rw [if_pos (by omega), List.take_of_length_le (by omega)]⟩, rfl⟩
end
end Go.Proofs.Ytjkojdjjooangaa
