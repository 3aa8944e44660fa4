/- Books: a book and the document's behind calls; the example. -/
import Derived.Test.YtjkojdjjooangaaBkc
namespace Go.Proofs.Ytjkojdjjooangaa
open Go.Proofs.Ytjkojdjjooangaa.Sym
open Go.RowKit (Below)
set_option linter.unusedVariables false
set_option linter.unusedSimpArgs false
theorem ag165 : aggOf Try.prog 165 = some true := by kernel_rfl
theorem cl114 : Callable Try.prog 114 := ⟨Try.f114, Try.func114, by kernel_rfl, by kernel_rfl⟩
theorem cl115 : Callable Try.prog 115 := ⟨Try.f115, Try.func115, by kernel_rfl, by kernel_rfl⟩
theorem cl138 : Callable Try.prog 138 := ⟨Try.f138, Try.func138, by kernel_rfl, by kernel_rfl⟩
theorem cl139 : Callable Try.prog 139 := ⟨Try.f139, Try.func139, by kernel_rfl, by kernel_rfl⟩
theorem cl80 : Callable Try.prog 80 := ⟨Try.f80, Try.func80, by kernel_rfl, by kernel_rfl⟩
theorem cl81 : Callable Try.prog 81 := ⟨Try.f81, Try.func81, by kernel_rfl, by kernel_rfl⟩
theorem cl82 : Callable Try.prog 82 := ⟨Try.f82, Try.func82, by kernel_rfl, by kernel_rfl⟩
theorem cl89 : Callable Try.prog 89 := ⟨Try.f89, Try.func89, by kernel_rfl, by kernel_rfl⟩
theorem fd165_0 : fldOf Try.prog 165 0 = some (0, 3, 1) := by kernel_rfl
theorem fd165_1 : fldOf Try.prog 165 1 = some (1, 9, 1) := by kernel_rfl
theorem fd165_2 : fldOf Try.prog 165 2 = some (2, 55, 3) := by kernel_rfl
theorem fl124 : flds Try.prog 124 = some [(0, 1), (1, 1)] := by kernel_rfl
theorem fl55 : flds Try.prog 55 = some [(0, 1), (1, 1), (2, 1)] := by kernel_rfl
theorem sz165 : szOf Try.prog 165 = some 5 := by kernel_rfl
theorem sz9 : szOf Try.prog 9 = some 1 := by kernel_rfl
theorem zr124 : zeroOf Try.prog 124 = some (.agg #[.slice none 0 0, .int .i64 0]) := by kernel_rfl
section
variable {W0 : World}
set_option maxRecDepth 100000 in
set_option maxHeartbeats 8000000 in
theorem bstep_s (bk qk : Nat) (a : Option Addr) (cap : Nat) (B : List BEnt) (nodes : Int) (E : SHeap) (a2 : Option Addr) (c2 : Nat) (E2 G : SHeap) (V : OwnVec 4 128 (.slice a B.length cap) B.length (B.flatMap BEnt.cells) E) (V2 : OwnVec 4 128 (.slice a2 B.length c2) B.length (B.flatMap BEnt.cells) E2) (hI : BkI B nodes) (hn : 1 ≤ nodes ∧ nodes ≤ 64) (o : BOp) : AC Try.prog W0 115 [.pointer (some ⟨bk, 0, none⟩), .pointer (some ⟨qk, 0, none⟩), BOp.v o] (bkB bk (.slice a B.length cap) nodes :: (E ++ (bpB qk (.slice a2 B.length c2) nodes :: (E2 ++ G)))) (fun v H' => ∃ (B' : List BEnt) (a1 : Option Addr) (c1 : Nat) (E1 : SHeap) (a3 : Option Addr) (c3 : Nat) (E3 : SHeap), v = .bool true ∧ BkI B' nodes ∧ OwnVec 4 128 (.slice a1 B'.length c1) B'.length (B'.flatMap BEnt.cells) E1 ∧ OwnVec 4 128 (.slice a3 B'.length c3) B'.length (B'.flatMap BEnt.cells) E3 ∧ H' = bkB bk (.slice a1 B'.length c1) nodes :: (E1 ++ (bpB qk (.slice a3 B'.length c3) nodes :: (E3 ++ G)))) := by
  refine ac_of Try.func115 rfl rfl rfl ?_
  refine aw_seq_region ?_
  refine sr_new rfl (wtd_none rfl) rfl (x_box rfl rfl) ?_
  intro r0_0 hr0_0 gr0_0
  refine sr_as ?_
  refine sr_nil ?_
  refine aw_kp [0, 1, 5, 6] ?_
  refine aw_join (ι := ByteArray) (fun _ => True) (fun nm => [(0, .pointer (some ⟨bk, 0, none⟩)), (1, .pointer (some ⟨qk, 0, none⟩)), (5, .pointer (some ⟨r0_0, 0, none⟩))]) (fun nm => (r0_0, .cells (BOp.cells ⟨o.kind, nm, o.sp⟩).toArray 165 (0, 0)) :: (bkB bk (.slice a B.length cap) nodes :: (E ++ (bpB qk (.slice a2 B.length c2) nodes :: (E2 ++ G))))) ?_ ?_
  · refine aw_seq_region ?_
    refine sr_rd (x_fieldAddr fd165_1 rfl) ?_
    refine sr_rd (x_load ag9 rfl (cells_ext mauto Ext.auto)) ?_
    refine sr_rd (x_lenStr Try.underlying9 rfl) ?_
    refine sr_c (x_gt rfl rfl) (fun h1 => ?_) (fun h1 => ?_)
    · refine sr_nil ?_
      refine aw_kp [0, 1, 5, 6, 12] ?_
      refine aw_true rfl ?_
      refine aw_region ?_
      refine sr_rd (x_fieldAddr fd165_1 rfl) ?_
      refine sr_rd (x_load ag9 rfl (cells_ext mauto Ext.auto)) ?_
      refine sr_rd (x_sliceStr (i := 0) (j := 40) Try.underlying9 rfl rfl ⟨_, rfl⟩ (by omega) (by omega)) ?_
      refine sr_rd (x_fieldAddr fd165_1 rfl) ?_
      refine sr_x0 rfl (wtd_none rfl) (x_store sz9 rfl rfl rfl rfl rfl Repl.auto Spl.auto) ?_
      refine sr_nil ?_
      show ∃ s', _ ∧ _ ∧ _
      first | exact ⟨o.name.extract 0 40, trivial, KeepF.auto, Sub.autoD⟩ | exact ⟨o.name, trivial, KeepF.auto, Sub.autoD⟩
    · refine sr_nil ?_
      refine aw_kp [0, 1, 5, 6, 12] ?_
      refine aw_false rfl ?_
      refine aw_skip ?_
      show ∃ s', _ ∧ _ ∧ _
      first | exact ⟨o.name.extract 0 40, trivial, KeepF.auto, Sub.autoD⟩ | exact ⟨o.name, trivial, KeepF.auto, Sub.autoD⟩
  · intro nm _
    refine aw_seq_region ?_
    refine sr_rd (x_fieldAddr fd165_0 rfl) ?_
    refine sr_rd (x_load ag3 rfl (cells_ext mauto Ext.auto)) ?_
    refine sr_nil ?_
    refine aw_kp [0, 1, 5, 18] ?_
    refine aw_block ?_
    refine aw_seq_region ?_
    refine sr_c (x_eq rfl rfl) (fun h2 => ?_) (fun h2 => ?_)
    · refine sr_as ?_
      refine sr_nil ?_
      refine aw_kp [0, 1, 5, 18, 31] ?_
      refine aw_true rfl ?_
      refine aw_seq_region ?_
      refine sr_mv ?_
      refine sr_rd (x_fieldAddr fd165_1 rfl) ?_
      refine sr_rd (x_load ag9 rfl (cells_ext mauto Ext.auto)) ?_
      refine sr_d rfl (wtd_none rfl) rfl (opS_call rfl rfl rfl rfl cl81 (AC.sub Sub.autoP (brem_s bk a cap B nodes E (bpB qk (.slice a2 B.length c2) nodes :: (E2 ++ ((r0_0, .cells (BOp.cells ⟨o.kind, nm, o.sp⟩).toArray 165 (0, 0)) :: G))) V hI hn nm))) ?_
      rintro _ _ ⟨r7, a7, c7, E7, rfl, hr7, V7, rfl⟩
      refine sr_as ?_
      refine sr_nil ?_
      refine aw_kp [1, 5, 7] ?_
      refine aw_seq ?_
      refine aw_seq_region ?_
      refine sr_mv ?_
      refine sr_rd (x_fieldAddr fd165_1 rfl) ?_
      refine sr_rd (x_load ag9 rfl (cells_ext mauto Ext.auto)) ?_
      refine sr_d rfl (wtd_none rfl) rfl (opS_call rfl rfl rfl rfl cl138 (AC.sub Sub.autoP (lgone_false qk a2 c2 B nodes E2 (bkB bk (.slice a7 (gonL nm 0 false B).length c7) nodes :: (E7 ++ ((r0_0, .cells (BOp.cells ⟨o.kind, nm, o.sp⟩).toArray 165 (0, 0)) :: G))) V2 hI hn nm 0))) ?_
      rintro _ _ ⟨a8, c8, E8, rfl, V8, rfl⟩
      refine sr_c (x_eq rfl rfl) (fun h3 => ?_) (fun h3 => ?_)
      · refine sr_nil ?_
        refine aw_kp [7, 41] ?_
        refine aw_true rfl ?_
        refine aw_seq_region ?_
        refine sr_mv ?_
        refine sr_c (x_eq rfl rfl) (fun h4 => ?_) (fun h4 => absurd (by rcases hr7 with ⟨h8, h9⟩ | ⟨h8, h9⟩; (exact h8); (exfalso; have := gon_lt h9; omega)) h4)
        refine sr_as ?_
        refine sr_nil ?_
        refine aw_kp [6, 7] ?_
        refine aw_ret ?_
        show ∃ v H2, ResV _ _ _ _ _ _ v ∧ Sub H2 _ ∧ _
        first | exact ⟨_, bkB bk (.slice a7 (gonL nm 0 false B).length c7) nodes :: (E7 ++ (bpB qk (.slice a8 (gonL nm 0 false B).length c8) nodes :: (E8 ++ G))), resV rfl (.cons rfl .nil), Sub.autoD, (gonL nm 0 false B), a7, c7, E7, a8, c8, E8, rfl, hI.gon, V7, V8, rfl⟩ | exact ⟨_, bkB bk (.slice a7 (gonL .empty o.sp.from_ true B).length c7) nodes :: (E7 ++ (bpB qk (.slice a8 (gonL .empty o.sp.from_ true B).length c8) nodes :: (E8 ++ G))), resV rfl (.cons rfl .nil), Sub.autoD, (gonL .empty o.sp.from_ true B), a7, c7, E7, a8, c8, E8, rfl, hI.gon, V7, V8, rfl⟩ | exact ⟨_, bkB bk (.slice a7 B7.length c7) nodes :: (E7 ++ (bpB qk (.slice a8 B7.length c8) nodes :: (E8 ++ G))), resV rfl (.cons rfl .nil), Sub.autoD, B7, a7, c7, E7, a8, c8, E8, rfl, (hI.add hA7), V7, V8, rfl⟩
      · refine sr_nil ?_
        refine aw_kp [7, 41] ?_
        refine aw_false rfl ?_
        refine aw_skip ?_
        show AW _ _ _ _ _ _ _
        refine aw_seq_region ?_
        refine sr_mv ?_
        refine sr_c (x_eq rfl rfl) (fun h5 => ?_) (fun h5 => absurd (by rcases hr7 with ⟨h8, h9⟩ | ⟨h8, h9⟩; (exfalso; have := gon_eq h9; omega); (exact h8)) h5)
        refine sr_as ?_
        refine sr_nil ?_
        refine aw_kp [6] ?_
        refine aw_ret ?_
        show ∃ v H2, ResV _ _ _ _ _ _ v ∧ Sub H2 _ ∧ _
        first | exact ⟨_, bkB bk (.slice a7 (gonL nm 0 false B).length c7) nodes :: (E7 ++ (bpB qk (.slice a8 (gonL nm 0 false B).length c8) nodes :: (E8 ++ G))), resV rfl (.cons rfl .nil), Sub.autoD, (gonL nm 0 false B), a7, c7, E7, a8, c8, E8, rfl, hI.gon, V7, V8, rfl⟩ | exact ⟨_, bkB bk (.slice a7 (gonL .empty o.sp.from_ true B).length c7) nodes :: (E7 ++ (bpB qk (.slice a8 (gonL .empty o.sp.from_ true B).length c8) nodes :: (E8 ++ G))), resV rfl (.cons rfl .nil), Sub.autoD, (gonL .empty o.sp.from_ true B), a7, c7, E7, a8, c8, E8, rfl, hI.gon, V7, V8, rfl⟩ | exact ⟨_, bkB bk (.slice a7 B7.length c7) nodes :: (E7 ++ (bpB qk (.slice a8 B7.length c8) nodes :: (E8 ++ G))), resV rfl (.cons rfl .nil), Sub.autoD, B7, a7, c7, E7, a8, c8, E8, rfl, (hI.add hA7), V7, V8, rfl⟩
    · refine sr_as ?_
      refine sr_nil ?_
      refine aw_kp [0, 1, 5, 18, 31] ?_
      refine aw_false rfl ?_
      refine aw_seq_region ?_
      refine sr_c (x_eq rfl rfl) (fun h6 => ?_) (fun h6 => ?_)
      · refine sr_as ?_
        refine sr_nil ?_
        refine aw_kp [0, 1, 5, 46] ?_
        refine aw_true rfl ?_
        refine aw_seq_drX (G := bkB bk (.slice a B.length cap) nodes :: (E ++ (bpB qk (.slice a2 B.length c2) nodes :: (E2 ++ G)))) (X := [(r0_0, .cells (BOp.cells ⟨o.kind, nm, o.sp⟩).toArray 165 (0, 0))]) ⟨_, 12, 59, [[], [], [1], [1, 2], [0, 1, 2, 3], [], [], [6], [6, 7], [0, 1, 2, 3, 4, 5, 6, 7, 8], [0, 1, 2, 3, 4, 5, 6, 7, 8, 9], [0, 1, 2, 3, 4, 5, 6, 7, 8, 9, 10]], [.light, .light, .light, .light, .eff, .light, .light, .light, .light, .eff, .light, .light]⟩ (by kernel_rfl) rfl rfl mix (Sub.of_perm List.perm_append_comm) ?_
        refine dr_l (x_move rfl) ?_
        refine dr_l (x_fieldAddr fd165_2 rfl) ?_
        refine dr_l (x_fieldAddr fd55_0 rfl) ?_
        refine dr_fix rfl rfl (wtd_none rfl) (x_load ag2 rfl (cells_ext mauto Ext.auto)) ?_
        refine dr_effC rfl (V := []) rfl (L' := []) (clear_all rfl) rfl (wtd_none rfl) rfl rfl rfl rfl cl89 (AC.sub Sub.autoP (bprune_s bk a cap B nodes E (bpB qk (.slice a2 B.length c2) nodes :: (E2 ++ G)) V hI hn o.sp.from_)) ?_
        rintro _ _ ⟨a7, c7, E7, rfl, V7, rfl⟩
        refine dr_l (x_move rfl) ?_
        refine dr_l (x_fieldAddr fd165_2 rfl) ?_
        refine dr_l (x_fieldAddr fd55_0 rfl) ?_
        refine dr_fix rfl rfl (wtd_none rfl) (x_load ag2 rfl (cells_ext mauto Ext.auto)) ?_
        refine dr_effC rfl (V := []) rfl (L' := []) (clear_all rfl) rfl (wtd_none rfl) rfl rfl rfl rfl cl138 (AC.sub Sub.autoP (lgone_true qk a2 c2 B nodes E2 (bkB bk (.slice a7 (gonL .empty o.sp.from_ true B).length c7) nodes :: (E7 ++ G)) V2 hI hn .empty o.sp.from_)) ?_
        rintro _ _ ⟨a8, c8, E8, rfl, V8, rfl⟩
        refine dr_cmp rfl rfl (wtd_none rfl) (x_eq rfl rfl) (fun h7 => ?_) (fun h7 => absurd (by rfl) h7)
        refine dr_l (x_assign rfl) ?_
        refine dr_nil0 ?_
        refine aw_kp [6] ?_
        refine aw_ret ?_
        show ∃ v H2, ResV _ _ _ _ _ _ v ∧ Sub H2 _ ∧ _
        first | exact ⟨_, bkB bk (.slice a7 (gonL nm 0 false B).length c7) nodes :: (E7 ++ (bpB qk (.slice a8 (gonL nm 0 false B).length c8) nodes :: (E8 ++ G))), resV rfl (.cons rfl .nil), Sub.autoD, (gonL nm 0 false B), a7, c7, E7, a8, c8, E8, rfl, hI.gon, V7, V8, rfl⟩ | exact ⟨_, bkB bk (.slice a7 (gonL .empty o.sp.from_ true B).length c7) nodes :: (E7 ++ (bpB qk (.slice a8 (gonL .empty o.sp.from_ true B).length c8) nodes :: (E8 ++ G))), resV rfl (.cons rfl .nil), Sub.autoD, (gonL .empty o.sp.from_ true B), a7, c7, E7, a8, c8, E8, rfl, hI.gon, V7, V8, rfl⟩ | exact ⟨_, bkB bk (.slice a7 B7.length c7) nodes :: (E7 ++ (bpB qk (.slice a8 B7.length c8) nodes :: (E8 ++ G))), resV rfl (.cons rfl .nil), Sub.autoD, B7, a7, c7, E7, a8, c8, E8, rfl, (hI.add hA7), V7, V8, rfl⟩
      · refine sr_as ?_
        refine sr_nil ?_
        refine aw_kp [0, 1, 5, 46] ?_
        refine aw_false rfl ?_
        refine aw_seq_region ?_
        refine sr_rd (x_fieldAddr fd165_1 rfl) ?_
        refine sr_rd (x_load ag9 rfl (cells_ext mauto Ext.auto)) ?_
        refine sr_rd (x_fieldAddr fd165_2 rfl) ?_
        refine sr_rd (x_loadN ag55 sz55 rfl (cells_ext (vs := PSpan.cells o.sp) (n := 3) mauto (by repeat (first | exact Ext.done | apply Ext.take | apply Ext.skip))) rfl) ?_
        refine sr_rd (x_build zr128 rfl fl128 Parts.auto Fill.auto) ?_
        refine sr_new rfl (wtd_none rfl) rfl (x_alloc zr128 rfl) ?_
        intro r4_5 hr4_5 gr4_5
        refine sr_x0 rfl (wtd_none rfl) (x_store sz128 rfl rfl rfl rfl rfl Repl.auto Spl.auto) ?_
        refine sr_nil ?_
        refine aw_kp [0, 1, 8] ?_
        refine aw_seq_drX (G := (r0_0, .cells (BOp.cells ⟨o.kind, nm, o.sp⟩).toArray 165 (0, 0)) :: (bkB bk (.slice a B.length cap) nodes :: (E ++ (bpB qk (.slice a2 B.length c2) nodes :: (E2 ++ G))))) (X := [(r4_5, .cells (BEnt.cells ⟨nm, o.sp⟩).toArray 128 (0, 0))]) ⟨_, 8, 59, [[], [], [0, 1], [], [], [0, 1, 2, 3, 4], [0, 1, 2, 3, 4, 5], [0, 1, 2, 3, 4, 5, 6]], [.light, .light, .eff, .light, .light, .eff, .light, .light]⟩ (by kernel_rfl) rfl rfl mix (Sub.of_perm List.perm_append_comm) ?_
        refine dr_l (x_move rfl) ?_
        refine dr_fix rfl rfl (wtd_none rfl) (x_loadN ag128 sz128 rfl (cells_ext mauto Ext.auto) rfl) ?_
        refine dr_effC rfl (V := []) rfl (L' := []) (clear_all rfl) rfl (wtd_none rfl) rfl rfl rfl rfl cl82 (AC.sub Sub.autoP (badd_s bk a cap B nodes E (bpB qk (.slice a2 B.length c2) nodes :: (E2 ++ ((r0_0, .cells (BOp.cells ⟨o.kind, nm, o.sp⟩).toArray 165 (0, 0)) :: G))) V hI hn ⟨nm, o.sp⟩)) ?_
        rintro _ _ ⟨r7, B7, a7, c7, E7, rfl, hA7, V7, rfl⟩
        refine dr_l (x_move rfl) ?_
        refine dr_fix rfl rfl (wtd_none rfl) (x_loadN ag128 sz128 rfl (cells_ext mauto Ext.auto) rfl) ?_
        refine dr_effC rfl (V := []) rfl (L' := []) (clear_all rfl) rfl (wtd_none rfl) rfl rfl rfl rfl cl139 (AC.sub Sub.autoP (ladd_s qk a2 c2 B nodes E2 (bkB bk (.slice a7 B7.length c7) nodes :: (E7 ++ ((r0_0, .cells (BOp.cells ⟨o.kind, nm, o.sp⟩).toArray 165 (0, 0)) :: G))) V2 hI hn ⟨nm, o.sp⟩)) ?_
        rintro _ _ ⟨r8, B8, a8, c8, E8, rfl, hA8, V8, rfl⟩
        obtain ⟨rfl, rfl⟩ := hA7.uniq hA8
        refine dr_cmp rfl rfl (wtd_none rfl) (x_eq rfl rfl) (fun h8 => ?_) (fun h8 => absurd (by rfl) h8)
        refine dr_l (x_assign rfl) ?_
        refine dr_nil0 ?_
        refine aw_kp [6] ?_
        refine aw_ret ?_
        show ∃ v H2, ResV _ _ _ _ _ _ v ∧ Sub H2 _ ∧ _
        first | exact ⟨_, bkB bk (.slice a7 (gonL nm 0 false B).length c7) nodes :: (E7 ++ (bpB qk (.slice a8 (gonL nm 0 false B).length c8) nodes :: (E8 ++ G))), resV rfl (.cons rfl .nil), Sub.autoD, (gonL nm 0 false B), a7, c7, E7, a8, c8, E8, rfl, hI.gon, V7, V8, rfl⟩ | exact ⟨_, bkB bk (.slice a7 (gonL .empty o.sp.from_ true B).length c7) nodes :: (E7 ++ (bpB qk (.slice a8 (gonL .empty o.sp.from_ true B).length c8) nodes :: (E8 ++ G))), resV rfl (.cons rfl .nil), Sub.autoD, (gonL .empty o.sp.from_ true B), a7, c7, E7, a8, c8, E8, rfl, hI.gon, V7, V8, rfl⟩ | exact ⟨_, bkB bk (.slice a7 B7.length c7) nodes :: (E7 ++ (bpB qk (.slice a8 B7.length c8) nodes :: (E8 ++ G))), resV rfl (.cons rfl .nil), Sub.autoD, B7, a7, c7, E7, a8, c8, E8, rfl, (hI.add hA7), V7, V8, rfl⟩
set_option maxRecDepth 100000 in
set_option maxHeartbeats 400000 in
theorem bmadeN_s (n : Int) (sa : Option Addr) (scap : Nat) (script : List BOp) (hs0 : ∀ G, SlV W0 G 5 BOp.cells sa scap script) (G : SHeap) (hn : ¬ (1 ≤ n ∧ n ≤ 64)) : AC Try.prog W0 78 [.int .i64 n, .slice sa script.length scap] G (fun v H' => v = .tuple #[.pointer none, .pointer none, .bool false] ∧ H' = G) := by
  refine ac_of Try.func78 rfl rfl rfl ?_
  refine aw_seq_region ?_
  refine sr_as ?_
  refine sr_as ?_
  refine sr_as ?_
  refine sr_nil ?_
  refine aw_kp [0, 1, 4, 5, 6] ?_
  refine aw_seq_region ?_
  refine sr_mv ?_
  refine sr_d rfl (wtd_none rfl) rfl (opS_call rfl rfl rfl rfl cl114 (bnewBad_s n _ hn)) ?_
  rintro _ G ⟨rfl, rfl⟩
  refine sr_mv ?_
  refine sr_rd (x_extract rfl rfl) ?_
  refine sr_rd (x_extract rfl rfl) ?_
  refine sr_as ?_
  refine sr_as ?_
  refine sr_nil ?_
  refine aw_kp [0, 1, 4, 5, 6, 7, 8] ?_
  refine aw_seq ?_
  refine aw_seq_region ?_
  refine sr_mv ?_
  refine sr_c (x_ne rfl rfl) (fun h1 => ?_) (fun h1 => absurd (by first | omega | decide) h1)
  refine sr_mv ?_
  refine sr_sk ?_
  refine sr_sk ?_
  refine sr_rd (x_pick_t rfl rfl rfl) ?_
  refine sr_nil ?_
  refine aw_kp [0, 1, 4, 5, 6, 7, 21] ?_
  refine aw_true rfl ?_
  refine aw_seq_region ?_
  refine sr_as ?_
  refine sr_as ?_
  refine sr_as ?_
  refine sr_nil ?_
  refine aw_kp [0, 1, 4, 5, 6, 7] ?_
  refine aw_ret ?_
  show ∃ v H2, ResV _ _ _ _ _ _ v ∧ Sub H2 _ ∧ _
  exact ⟨_, G, resV rfl (.cons rfl (.cons rfl (.cons rfl .nil))), (by repeat (first | exact Sub.refl _ | apply Sub.drop)), ⟨rfl, rfl⟩⟩
set_option maxRecDepth 100000 in
set_option maxHeartbeats 4000000 in
theorem bmade_s (n : Int) (sa : Option Addr) (scap : Nat) (script : List BOp) (hs0 : ∀ G, SlV W0 G 5 BOp.cells sa scap script) (G : SHeap) (hn : 1 ≤ n ∧ n ≤ 64) : AC Try.prog W0 78 [.int .i64 n, .slice sa script.length scap] G (fun v H' => ∃ (bk qk : Nat) (B : List BEnt) (a : Option Addr) (c : Nat) (E : SHeap) (a2 : Option Addr) (c2 : Nat) (E2 : SHeap), v = .tuple #[.pointer (some ⟨bk, 0, none⟩), .pointer (some ⟨qk, 0, none⟩), .bool true] ∧ BkI B n ∧ OwnVec 4 128 (.slice a B.length c) B.length (B.flatMap BEnt.cells) E ∧ OwnVec 4 128 (.slice a2 B.length c2) B.length (B.flatMap BEnt.cells) E2 ∧ H' = bkB bk (.slice a B.length c) n :: (E ++ (bpB qk (.slice a2 B.length c2) n :: (E2 ++ G)))) := by
  have hsl := (hs0 G).le
  have hsc := (hs0 G).capb
  refine ac_of Try.func78 rfl rfl rfl ?_
  refine aw_seq_region ?_
  refine sr_as ?_
  refine sr_as ?_
  refine sr_as ?_
  refine sr_nil ?_
  refine aw_kp [0, 1, 4, 5, 6] ?_
  refine aw_seq_region ?_
  refine sr_mv ?_
  refine sr_d rfl (wtd_none rfl) rfl (opS_call rfl rfl rfl rfl cl114 (bnew_s n _ hn)) ?_
  rintro _ _ ⟨bk, rfl, rfl⟩
  refine sr_mv ?_
  refine sr_rd (x_extract rfl rfl) ?_
  refine sr_rd (x_extract rfl rfl) ?_
  refine sr_as ?_
  refine sr_as ?_
  refine sr_nil ?_
  refine aw_kp [0, 1, 4, 5, 6, 7, 8] ?_
  refine aw_seq ?_
  refine aw_seq_region ?_
  refine sr_mv ?_
  refine sr_c (x_ne rfl rfl) (fun h1 => absurd h1 (by first | omega | decide)) (fun h1 => ?_)
  refine sr_mv ?_
  refine sr_ry (x_move rfl) ?_
  refine sr_ry (x_eqnil Try.underlying118 rfl rfl) ?_
  refine sr_rd (x_pick_f rfl rfl rfl) ?_
  refine sr_nil ?_
  refine aw_kp [0, 1, 4, 5, 6, 7, 21] ?_
  refine aw_false rfl ?_
  refine aw_skip ?_
  show AW _ _ _ _ _ _ _
  refine aw_seq_region ?_
  refine sr_mv ?_
  refine sr_rd (x_build zr124 rfl fl124 Parts.auto Fill.auto) ?_
  refine sr_new rfl (wtd_none rfl) rfl (x_box rfl rfl) ?_
  intro r4_2 hr4_2 gr4_2
  refine sr_as ?_
  refine sr_nil ?_
  refine aw_kp [1, 4, 5, 6, 7, 9] ?_
  refine aw_seq ?_
  refine aw_seq_region ?_
  refine sr_as ?_
  refine sr_nil ?_
  refine aw_kp [1, 4, 5, 6, 7, 9, 10] ?_
  refine aw_block ?_
  refine aw_loop (ι := BmG) (fun s => s.k ≤ script.length ∧ BkI s.B n ∧ OwnVec 4 128 (.slice s.a s.B.length s.c) s.B.length (s.B.flatMap BEnt.cells) s.E ∧ OwnVec 4 128 (.slice s.a2 s.B.length s.c2) s.B.length (s.B.flatMap BEnt.cells) s.E2) (fun s => [(1, .slice sa script.length scap), (7, .pointer (some ⟨bk, 0, none⟩)), (9, .pointer (some ⟨r4_2, 0, none⟩)), (10, .int .i64 s.k)]) (fun s => bkB bk (.slice s.a s.B.length s.c) n :: (s.E ++ (bpB r4_2 (.slice s.a2 s.B.length s.c2) n :: (s.E2 ++ G)))) (fun s => script.length - s.k) ⟨0, [], none, 0, [], none, 0, []⟩ (⟨Nat.zero_le _, BkI.nil hn.1, .nil, .nil⟩) KeepF.auto Sub.autoP ?_
  intro s9 hs9
  obtain ⟨k, B, a1, c1, E1, a2, c2, E2⟩ := s9
  dsimp only at hs9 ⊢
  obtain ⟨hk, hI, V, V2⟩ := hs9
  refine aw_seq ?_
  refine aw_seq_region ?_
  refine sr_mv ?_
  refine sr_mv ?_
  refine sr_rd (x_lenSlice Try.underlying117 rfl) ?_
  refine sr_c (x_lt rfl rfl) (fun h2 => ?_) (fun h2 => ?_)
  · refine sr_mv ?_
    refine sr_ry (x_move rfl) ?_
    refine sr_cy (x_lt rfl rfl) (fun h3 => ?_) (fun h3 => ?_)
    · refine sr_rd (x_pick_t rfl rfl rfl) ?_
      refine sr_nil ?_
      refine aw_kp [1, 7, 9, 10, 25, 26, 27, 28, 29, 30, 31, 32] ?_
      refine aw_true rfl ?_
      refine aw_skip ?_
      show AW _ _ _ _ _ _ _
      refine aw_seq ?_
      refine aw_block ?_
      refine aw_seq_region ?_
      obtain ⟨o, ho⟩ := get_ex (show k < script.length by omega)
      obtain ⟨bo, oo, hao, hco⟩ := (hs0 []).at_ _ _ ho
      refine sr_mv ?_
      refine sr_mv ?_
      refine sr_mv ?_
      refine sr_mv ?_
      refine sr_rd (x_indexAddrN k Try.underlying117 sz165 rfl hao rfl (by omega) (by omega)) ?_
      refine sr_rd (x_loadN ag165 sz165 rfl (Cells.mono hco (Sub.nil _)) rfl) ?_
      refine sr_d rfl (wtd_none rfl) rfl (opS_call rfl rfl rfl rfl cl115 (AC.sub Sub.autoP (bstep_s bk r4_2 a1 c1 B n E1 a2 c2 E2 G V V2 hI hn o))) ?_
      rintro _ _ ⟨B3, a3, c3, E3, a4, c4, E4, rfl, hI3, V3, V4, rfl⟩
      refine sr_rd (x_not rfl) ?_
      refine sr_nil ?_
      refine aw_kp [1, 7, 9, 10, 25, 26, 27, 28, 29, 30, 31, 32, 35, 36, 37, 38, 39, 40, 41, 42] ?_
      refine aw_false rfl ?_
      refine aw_skip ?_
      show AW _ _ _ _ _ _ _
      refine aw_region ?_
      refine sr_mv ?_
      refine sr_rd (x_add' rfl rfl (i64w (by omega) (by omega))) ?_
      refine sr_as ?_
      refine sr_nil ?_
      show ∃ s', _ ∧ _ ∧ _ ∧ _
      exact ⟨⟨k + 1, B3, a3, c3, E3, a4, c4, E4⟩, ⟨by dsimp only; omega, hI3, V3, V4⟩, by dsimp only; omega, KeepF.auto, Sub.autoP⟩
    · refine sr_rd (x_pick_t rfl rfl rfl) ?_
      refine sr_nil ?_
      refine aw_kp [1, 7, 9, 10, 25, 26, 27, 28, 29, 30, 31, 32] ?_
      refine aw_false rfl ?_
      refine aw_exit ?_
      show AW _ _ _ _ _ _ _
      refine aw_seq_region ?_
      refine sr_mv ?_
      refine sr_mv ?_
      refine sr_as ?_
      refine sr_as ?_
      refine sr_as ?_
      refine sr_nil ?_
      refine aw_kp [4, 5, 6] ?_
      refine aw_ret ?_
      show ∃ v H2, ResV _ _ _ _ _ _ v ∧ Sub H2 _ ∧ _
      exact ⟨_, bkB bk (.slice a1 B.length c1) n :: (E1 ++ (bpB r4_2 (.slice a2 B.length c2) n :: (E2 ++ G))), resV rfl (.cons rfl (.cons rfl (.cons rfl .nil))), Sub.autoD, bk, r4_2, B, a1, c1, E1, a2, c2, E2, rfl, hI, V, V2, rfl⟩
  · refine sr_mv ?_
    refine sr_sk ?_
    refine sr_sk ?_
    refine sr_rd (x_pick_f rfl rfl rfl) ?_
    refine sr_nil ?_
    refine aw_kp [1, 7, 9, 10, 25, 26, 27, 28, 29, 30, 31, 32] ?_
    refine aw_false rfl ?_
    refine aw_exit ?_
    show AW _ _ _ _ _ _ _
    refine aw_seq_region ?_
    refine sr_mv ?_
    refine sr_mv ?_
    refine sr_as ?_
    refine sr_as ?_
    refine sr_as ?_
    refine sr_nil ?_
    refine aw_kp [4, 5, 6] ?_
    refine aw_ret ?_
    show ∃ v H2, ResV _ _ _ _ _ _ v ∧ Sub H2 _ ∧ _
    exact ⟨_, bkB bk (.slice a1 B.length c1) n :: (E1 ++ (bpB r4_2 (.slice a2 B.length c2) n :: (E2 ++ G))), resV rfl (.cons rfl (.cons rfl (.cons rfl .nil))), Sub.autoD, bk, r4_2, B, a1, c1, E1, a2, c2, E2, rfl, hI, V, V2, rfl⟩
set_option maxRecDepth 100000 in
set_option maxHeartbeats 2000000 in
theorem awake36_s (H : SHeap) : AC Try.prog W0 79 [] H (fun v H' => v = .bool true ∧ H' = H) := by
  refine ac_of Try.func79 rfl rfl rfl ?_
  refine aw_seq_region ?_
  refine sr_as ?_
  refine sr_nil ?_
  refine aw_kp [0] ?_
  refine aw_seq_region ?_
  refine sr_d rfl (wtd_none rfl) rfl (opS_call rfl rfl rfl rfl cl114 (bnew_s 4 _ (by decide))) ?_
  rintro _ _ ⟨bk, rfl, rfl⟩
  refine sr_mv ?_
  refine sr_rd (x_extract rfl rfl) ?_
  refine sr_rd (x_extract rfl rfl) ?_
  refine sr_as ?_
  refine sr_as ?_
  refine sr_nil ?_
  refine aw_kp [0, 1, 2] ?_
  refine aw_seq_region ?_
  refine sr_mv ?_
  refine sr_rd (x_build zr55 rfl fl55 Parts.auto Fill.auto) ?_
  refine sr_rd (x_build zr128 rfl fl128 Parts.auto Fill.auto) ?_
  refine sr_d rfl (wtd_none rfl) rfl (opS_call rfl rfl rfl rfl cl82 (AC.sub Sub.autoP (badd_s bk none 0 [] 4 [] H .nil (BkI.nil (by decide)) (by decide) ⟨⟨#[120]⟩, ⟨5, 9, 3⟩⟩))) ?_
  rintro _ _ ⟨r7, B7, a7, c7, E7, rfl, hA7, V7, rfl⟩
  have hI7 := (BkI.nil (by decide)).add hA7
  obtain ⟨rfl, rfl⟩ := aw_add hA7
  have hs7 := V7.slv' (W0 := W0) (fun _ => rfl) rfl (Sub.refl _)
  refine sr_as ?_
  refine sr_nil ?_
  refine aw_kp [0, 1, 2, 3] ?_
  refine aw_seq_region ?_
  refine sr_mv ?_
  refine sr_d rfl (wtd_none rfl) rfl (opS_call rfl rfl rfl rfl cl80 (bwhen_s bk a7 c7 [⟨⟨#[120]⟩, ⟨5, 9, 3⟩⟩] 4 _ (cells_ext mauto Ext.auto) (hs7.mono Sub.autoE) hI7 (by decide) 0 6 2)) ?_
  rintro _ H9 ⟨⟨t, e, rfl, hE⟩, rfl⟩
  obtain ⟨rfl, rfl⟩ := aw_ear hE
  refine sr_mv ?_
  refine sr_rd (x_extract rfl rfl) ?_
  refine sr_rd (x_extract rfl rfl) ?_
  refine sr_as ?_
  refine sr_as ?_
  refine sr_nil ?_
  refine aw_kp [0, 2, 3, 4, 5] ?_
  refine aw_seq_region ?_
  refine sr_mv ?_
  refine sr_c (x_eq rfl rfl) (fun h1 => ?_) (fun h1 => absurd (by first | omega | decide) h1)
  refine sr_mv ?_
  refine sr_ry (x_move rfl) ?_
  refine sr_cy (x_eq rfl rfl) (fun h2 => ?_) (fun h2 => absurd (by first | omega | decide) h2)
  refine sr_rd (x_pick_t rfl rfl rfl) ?_
  refine sr_mv ?_
  refine sr_ry (x_move rfl) ?_
  refine sr_cy (x_eq rfl rfl) (fun h3 => ?_) (fun h3 => absurd (by first | omega | decide) h3)
  refine sr_rd (x_pick_t rfl rfl rfl) ?_
  refine sr_mv ?_
  refine sr_ry (x_move rfl) ?_
  refine sr_cy (x_eq rfl rfl) (fun h4 => ?_) (fun h4 => absurd (by first | omega | decide) h4)
  refine sr_rd (x_pick_t rfl rfl rfl) ?_
  refine sr_as ?_
  refine sr_nil ?_
  refine aw_kp [0] ?_
  refine aw_ret ?_
  show ∃ v H2, ResV _ _ _ _ _ _ v ∧ Sub H2 _ ∧ _
  exact ⟨_, H, resV rfl (.cons rfl .nil), Sub.autoR, ⟨rfl, rfl⟩⟩
end
end Go.Proofs.Ytjkojdjjooangaa
