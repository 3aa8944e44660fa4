/- Which jobs are in any states, and which wait, in order, behind any calls; no condition. -/
import Derived.Test.YteilocpjikmmdaaJobIn
import Derived.Test.YteilocpjikmmdaaRows
import Derived.Test.YteilocpjikmmdaaCut
namespace Go.Proofs.Yteilocpjikmmdaa
open Go.Proofs.Yteilocpjikmmdaa.Sym
open Go.RowKit (Below)
set_option linter.unusedVariables false
set_option linter.unusedSimpArgs false
theorem cl32 : Callable Try.prog 32 := ⟨Try.f32, Try.func32, by kernel_rfl, by kernel_rfl⟩
theorem cl36 : Callable Try.prog 36 := ⟨Try.f36, Try.func36, by kernel_rfl, by kernel_rfl⟩
theorem cl37 : Callable Try.prog 37 := ⟨Try.f37, Try.func37, by kernel_rfl, by kernel_rfl⟩
theorem cl38 : Callable Try.prog 38 := ⟨Try.f38, Try.func38, by kernel_rfl, by kernel_rfl⟩
theorem cl39 : Callable Try.prog 39 := ⟨Try.f39, Try.func39, by kernel_rfl, by kernel_rfl⟩
theorem cl73 : Callable Try.prog 73 := ⟨Try.f73, Try.func73, by kernel_rfl, by kernel_rfl⟩
theorem cl75 : Callable Try.prog 75 := ⟨Try.f75, Try.func75, by kernel_rfl, by kernel_rfl⟩
theorem cl76 : Callable Try.prog 76 := ⟨Try.f76, Try.func76, by kernel_rfl, by kernel_rfl⟩
theorem cl78 : Callable Try.prog 78 := ⟨Try.f78, Try.func78, by kernel_rfl, by kernel_rfl⟩
theorem fd53_1 : fldOf Try.prog 53 1 = some (1, 36, 9) := by kernel_rfl
theorem fl50 : flds Try.prog 50 = some [(0, 1)] := by kernel_rfl
theorem zr50 : zeroOf Try.prog 50 = some (.agg #[.slice none 0 0]) := by kernel_rfl
theorem zr53 : zeroOf Try.prog 53 = some (.agg #[.int .i64 0, .int .i64 0, .int .i64 0, .int .i64 0, .int .i64 0, .int .i64 0, .int .i64 0, .bool false, .int .i64 0, .int .i64 0, .int .i64 0, .int .i64 0, .int .i64 0, .int .u64 0]) := by kernel_rfl
section
variable {W0 : World}
set_option maxRecDepth 100000 in
set_option maxHeartbeats 8000000 in
theorem jobLists_s (sa : Option Addr) (scap : Nat) (xs : List Op) (hs : ∀ G, SlV W0 G 14 Op.cells sa scap xs) (x0 y0 : Int) : AC Try.prog W0 13 [.slice sa xs.length scap, .int .i64 x0, .int .i64 y0] [] (fun v _ => v = .bool true) := by
  have hle := (hs []).le
  have hcb := (hs []).capb
  refine ac_of Try.func13 rfl rfl rfl ?_
  refine aw_seq_region ?_
  refine sr_x rfl (wtd_none rfl) rfl (Rd.x (x_assign rfl)) ?_
  refine sr_nil ?_
  refine aw_keep (keep_cons (t := 0) rfl (keep_cons (t := 1) rfl (keep_cons (t := 2) rfl (keep_cons (t := 6) rfl keep_nil)))) ?_
  refine aw_seq_region ?_
  refine sr_d rfl (wtd_none rfl) rfl (opS_call rfl rfl rfl rfl cl33 (new_s _)) ?_
  rintro _ _ ⟨p, hp0, hp1, rfl, rfl⟩
  refine sr_x rfl (wtd_none rfl) rfl (Rd.x (x_assign rfl)) ?_
  refine sr_nil ?_
  refine aw_keep (keep_cons (t := 0) rfl (keep_cons (t := 1) rfl (keep_cons (t := 2) rfl (keep_cons (t := 6) rfl (keep_cons (t := 7) rfl keep_nil))))) ?_
  refine aw_seq_region ?_
  refine sr_x rfl (wtd_none rfl) rfl (Rd.x (x_build zr50 rfl fl50 (by repeat (first | exact Parts.nil | (apply Parts.cons; rfl))) (by repeat (first | exact Fill.done | (apply Fill.part; rfl; rfl; rfl; focus (repeat (first | exact Spl.done | exact Spl.all rfl | apply Spl.put | apply Spl.skip))))))) ?_
  refine sr_new rfl (wtd_none rfl) rfl (x_box rfl rfl) ?_
  intro r2_1 hr2_1 gr2_1
  refine sr_x rfl (wtd_none rfl) rfl (Rd.x (x_assign rfl)) ?_
  refine sr_nil ?_
  refine aw_keep (keep_cons (t := 0) rfl (keep_cons (t := 1) rfl (keep_cons (t := 2) rfl (keep_cons (t := 6) rfl (keep_cons (t := 7) rfl (keep_cons (t := 8) rfl keep_nil)))))) ?_
  refine aw_seq ?_
  refine aw_seq_region ?_
  refine sr_x rfl (wtd_none rfl) rfl (Rd.x (x_assign rfl)) ?_
  refine sr_nil ?_
  refine aw_keep (keep_cons (t := 0) rfl (keep_cons (t := 1) rfl (keep_cons (t := 2) rfl (keep_cons (t := 6) rfl (keep_cons (t := 7) rfl (keep_cons (t := 8) rfl (keep_cons (t := 9) rfl keep_nil))))))) ?_
  refine aw_block ?_
  refine aw_loop (ι := PG2) (fun s => s.i ≤ xs.length ∧ s.i ≤ 80 ∧ s.jobs.length ≤ s.i ∧ OwnVec 10 91 (.slice s.aT s.jobs.length s.cT) s.jobs.length (s.jobs.flatMap Job.cells) s.ET ∧ OwnVec 10 91 (.slice s.aP s.jobs.length s.cP) s.jobs.length (s.jobs.flatMap Job.cells) s.EP ∧ GoodJ s.jobs ∧ IdJ s.jobs) (fun s => [(0, .slice sa xs.length scap), (1, .int .i64 x0), (2, .int .i64 y0), (6, .bool false), (7, .pointer (some ⟨p, 0, none⟩)), (8, .pointer (some ⟨r2_1, 0, none⟩)), (9, .int .i64 s.i)]) (fun s => tab p (.slice s.aT s.jobs.length s.cT) (aliveN s.jobs) :: (s.ET ++ (pl r2_1 (.slice s.aP s.jobs.length s.cP) :: (s.EP ++ [])))) (fun s => xs.length - s.i) ⟨0, none, 0, none, 0, [], [], []⟩ (⟨Nat.zero_le _, by dsimp only; omega, by dsimp only [List.length_nil]; omega, .nil, .nil, (by intro j hj; cases hj), idJ_nil⟩) (by (repeat (first | exact keep_nil | refine keep_cons rfl ?_)); first | done | fail) (by repeat (first | exact Sub.refl _ | refine Sub.take (by repeat (first | exact Take.here | apply Take.there | apply Take.app)) ?_ | refine Sub.takeE (by repeat (first | exact TakeE.here | apply TakeE.there | apply TakeE.app)) ?_ | exact Sub.nil _ | apply Sub.drop | apply Sub.dropE)) ?_
  intro s hs9
  obtain ⟨i, aT, cT, aP, cP, jobs, ET, EP⟩ := s
  dsimp only at hs9 ⊢
  obtain ⟨hi1, hi2, hjl, VT, VP, hgood, hids⟩ := hs9
  generalize r2_1 = q
  refine aw_seq ?_
  refine aw_seq_region ?_
  refine sr_x rfl (wtd_none rfl) rfl (Rd.x (x_move rfl)) ?_
  refine sr_x rfl (wtd_none rfl) rfl (Rd.x (x_move rfl)) ?_
  refine sr_x rfl (wtd_none rfl) rfl (Rd.x (x_lenSlice Try.underlying47 rfl)) ?_
  refine sr_cmp rfl (wtd_none rfl) rfl (Rd.x (x_lt rfl rfl)) (fun h1 => ?_) (fun h1 => ?_)
  · refine sr_x rfl (wtd_none rfl) rfl (Rd.x (x_move rfl)) ?_
    refine sr_x rfl (wtd_yes rfl rfl rfl) rfl (Rd.x (x_move rfl)) ?_
    refine sr_cmp rfl (wtd_yes rfl rfl rfl) rfl (Rd.x (x_lt rfl rfl)) (fun h2 => ?_) (fun h2 => ?_)
    · refine sr_x rfl (wtd_none rfl) rfl (Rd.x (x_pick_t rfl rfl rfl)) ?_
      refine sr_nil ?_
      refine aw_keep (keep_cons (t := 0) rfl (keep_cons (t := 1) rfl (keep_cons (t := 2) rfl (keep_cons (t := 6) rfl (keep_cons (t := 7) rfl (keep_cons (t := 8) rfl (keep_cons (t := 9) rfl (keep_cons (t := 22) rfl (keep_cons (t := 23) rfl (keep_cons (t := 24) rfl (keep_cons (t := 25) rfl (keep_cons (t := 26) rfl (keep_cons (t := 27) rfl (keep_cons (t := 28) rfl (keep_cons (t := 29) rfl keep_nil))))))))))))))) ?_
      refine aw_true rfl ?_
      refine aw_skip ?_
      show AW _ _ _ _ _ _ _
      refine aw_seq ?_
      refine aw_block ?_
      refine aw_seq_region ?_
      obtain ⟨o, ho⟩ := get_ex (show i < xs.length by omega)
      obtain ⟨bs_, os, has, hcs⟩ := (hs []).at_ i _ ho
      refine sr_x rfl (wtd_none rfl) rfl (Rd.x (x_move rfl)) ?_
      refine sr_x rfl (wtd_none rfl) rfl (Rd.x (x_move rfl)) ?_
      refine sr_x rfl (wtd_none rfl) rfl (Rd.x (x_indexAddrN i Try.underlying47 sz53 rfl has rfl (by omega) (by omega))) ?_
      refine sr_x rfl (wtd_none rfl) rfl (Rd.x (x_loadN ag53 sz53 rfl (Cells.mono hcs (Sub.nil _)) rfl)) ?_
      refine sr_new rfl (wtd_none rfl) rfl (x_alloc zr53 rfl) ?_
      intro r6_4 hr6_4 gr6_4
      refine sr_x0 rfl (wtd_none rfl) (x_store sz53 rfl rfl rfl rfl rfl (by repeat (first | exact Repl.here | apply Repl.there | apply Repl.app)) (by repeat (first | exact Spl.done | exact Spl.all rfl | apply Spl.put | apply Spl.skip))) ?_
      refine sr_nil ?_
      refine aw_keep (keep_cons (t := 0) rfl (keep_cons (t := 1) rfl (keep_cons (t := 2) rfl (keep_cons (t := 6) rfl (keep_cons (t := 7) rfl (keep_cons (t := 8) rfl (keep_cons (t := 9) rfl (keep_cons (t := 10) rfl (keep_cons (t := 22) rfl (keep_cons (t := 23) rfl (keep_cons (t := 24) rfl (keep_cons (t := 25) rfl (keep_cons (t := 26) rfl (keep_cons (t := 27) rfl (keep_cons (t := 28) rfl (keep_cons (t := 29) rfl (keep_cons (t := 32) rfl (keep_cons (t := 33) rfl (keep_cons (t := 34) rfl (keep_cons (t := 35) rfl keep_nil)))))))))))))))))))) ?_
      refine aw_seq_region ?_
      refine sr_x rfl (wtd_none rfl) rfl (Rd.x (x_fieldAddr fd53_0 rfl)) ?_
      refine sr_x rfl (wtd_none rfl) rfl (Rd.x (x_load ag3 rfl (cells_ext (by repeat (first | exact List.mem_cons_self | apply List.mem_cons_of_mem | apply List.mem_append_right)) (by repeat (first | exact Ext.all _ | exact Ext.done | apply Ext.take | apply Ext.skip))))) ?_
      refine sr_cmp rfl (wtd_none rfl) rfl (Rd.x (x_ge rfl rfl)) (fun h3 => ?_) (fun h3 => ?_)
      · refine sr_x rfl (wtd_none rfl) rfl (Rd.x (x_move rfl)) ?_
        refine sr_x rfl (wtd_yes rfl rfl rfl) rfl (Rd.x (x_fieldAddr fd53_0 rfl)) ?_
        refine sr_x rfl (wtd_yes rfl rfl rfl) rfl (Rd.x (x_load ag3 rfl (cells_ext (by repeat (first | exact List.mem_cons_self | apply List.mem_cons_of_mem | apply List.mem_append_right)) (by repeat (first | exact Ext.all _ | exact Ext.done | apply Ext.take | apply Ext.skip))))) ?_
        refine sr_cmp rfl (wtd_yes rfl rfl rfl) rfl (Rd.x (x_le rfl rfl)) (fun h4 => ?_) (fun h4 => ?_)
        · refine sr_x rfl (wtd_none rfl) rfl (Rd.x (x_pick_t rfl rfl rfl)) ?_
          refine sr_nil ?_
          refine aw_keep (keep_cons (t := 0) rfl (keep_cons (t := 1) rfl (keep_cons (t := 2) rfl (keep_cons (t := 6) rfl (keep_cons (t := 7) rfl (keep_cons (t := 8) rfl (keep_cons (t := 9) rfl (keep_cons (t := 10) rfl (keep_cons (t := 22) rfl (keep_cons (t := 23) rfl (keep_cons (t := 24) rfl (keep_cons (t := 25) rfl (keep_cons (t := 26) rfl (keep_cons (t := 27) rfl (keep_cons (t := 28) rfl (keep_cons (t := 29) rfl (keep_cons (t := 32) rfl (keep_cons (t := 33) rfl (keep_cons (t := 34) rfl (keep_cons (t := 35) rfl (keep_cons (t := 36) rfl (keep_cons (t := 37) rfl (keep_cons (t := 38) rfl (keep_cons (t := 39) rfl (keep_cons (t := 40) rfl (keep_cons (t := 41) rfl (keep_cons (t := 42) rfl (keep_cons (t := 43) rfl keep_nil)))))))))))))))))))))))))))) ?_
          refine aw_true rfl ?_
          refine aw_seq_region ?_
          refine sr_x rfl (wtd_none rfl) rfl (Rd.x (x_move rfl)) ?_
          refine sr_x rfl (wtd_none rfl) rfl (Rd.x (x_fieldAddr fd53_1 rfl)) ?_
          refine sr_x rfl (wtd_none rfl) rfl (Rd.x (x_loadN ag36 sz36 rfl (cells_ext (vs := Request.cells o.r) (n := 9) (by repeat (first | exact List.mem_cons_self | apply List.mem_cons_of_mem | apply List.mem_append_right)) (by repeat (first | exact Ext.done | apply Ext.take | apply Ext.skip))) rfl)) ?_
          refine sr_d rfl (wtd_none rfl) rfl (opS_call rfl rfl rfl rfl cl34 (AC.sub (by repeat (first | exact Sub.refl _ | refine Sub.take (by repeat (first | exact Take.here | apply Take.there | apply Take.app)) ?_ | refine Sub.takeE (by repeat (first | exact TakeE.here | apply TakeE.there | apply TakeE.app)) ?_ | exact Sub.nil _ | apply Sub.drop | apply Sub.dropE)) (submit_f (G := pl q (.slice aP jobs.length cP) :: (EP ++ [(r6_4, .cells (Op.cells o).toArray 53 (0, 0))])) o.r VT (by omega)))) ?_
          rintro _ _ ⟨a1, e1, js, sl1, ET2, hT, VT2, rfl, rfl⟩
          obtain ⟨aT2, cT2, rfl⟩ := VT2.isSl
          refine sr_nil ?_
          refine aw_keep (keep_cons (t := 0) rfl (keep_cons (t := 1) rfl (keep_cons (t := 2) rfl (keep_cons (t := 6) rfl (keep_cons (t := 7) rfl (keep_cons (t := 8) rfl (keep_cons (t := 9) rfl (keep_cons (t := 10) rfl (keep_cons (t := 22) rfl (keep_cons (t := 23) rfl (keep_cons (t := 24) rfl (keep_cons (t := 25) rfl (keep_cons (t := 26) rfl (keep_cons (t := 27) rfl (keep_cons (t := 28) rfl (keep_cons (t := 29) rfl (keep_cons (t := 32) rfl (keep_cons (t := 33) rfl (keep_cons (t := 34) rfl (keep_cons (t := 35) rfl (keep_cons (t := 36) rfl (keep_cons (t := 37) rfl (keep_cons (t := 38) rfl (keep_cons (t := 39) rfl (keep_cons (t := 40) rfl (keep_cons (t := 41) rfl (keep_cons (t := 42) rfl (keep_cons (t := 43) rfl (keep_cons (t := 44) rfl (keep_cons (t := 45) rfl (keep_cons (t := 46) rfl keep_nil))))))))))))))))))))))))))))))) ?_
          refine aw_region ?_
          refine sr_x rfl (wtd_none rfl) rfl (Rd.x (x_move rfl)) ?_
          refine sr_x rfl (wtd_none rfl) rfl (Rd.x (x_fieldAddr fd53_1 rfl)) ?_
          refine sr_x rfl (wtd_none rfl) rfl (Rd.x (x_loadN ag36 sz36 rfl (cells_ext (vs := Request.cells o.r) (n := 9) (by repeat (first | exact List.mem_cons_self | apply List.mem_cons_of_mem | apply List.mem_append_right)) (by repeat (first | exact Ext.done | apply Ext.take | apply Ext.skip))) rfl)) ?_
          refine sr_d rfl (wtd_none rfl) rfl (opS_call rfl rfl rfl rfl cl36 (AC.sub (by repeat (first | exact Sub.refl _ | refine Sub.take (by repeat (first | exact Take.here | apply Take.there | apply Take.app)) ?_ | refine Sub.takeE (by repeat (first | exact TakeE.here | apply TakeE.there | apply TakeE.app)) ?_ | exact Sub.nil _ | apply Sub.drop | apply Sub.dropE)) (psubmit_s q aP cP jobs EP (tab p (.slice aT2 js.length cT2) (aliveN js) :: (ET2 ++ [(r6_4, .cells (Op.cells o).toArray 53 (0, 0))])) VP o.r (by omega)))) ?_
          rintro _ _ ⟨a2, e2, js2, sl2, EP2, hP, VP2, rfl, rfl⟩
          obtain ⟨ha9, he9, hj9⟩ := SubmitR.det hP hT
          subst ha9; subst he9; subst hj9
          obtain ⟨aP2, cP2, rfl⟩ := VP2.isSl
          have hgd := And.intro (hT.good hgood) (hT.ids hids)
          refine sr_nil ?_
          show AW _ _ _ _ _ _ _
          refine aw_region ?_
          refine sr_x rfl (wtd_none rfl) rfl (Rd.x (x_move rfl)) ?_
          refine sr_x rfl (wtd_none rfl) rfl (Rd.x (x_add' rfl rfl (i64w (by omega) (by omega)))) ?_
          refine sr_x rfl (wtd_none rfl) rfl (Rd.x (x_assign rfl)) ?_
          refine sr_nil ?_
          show ∃ s', _ ∧ _ ∧ _ ∧ _
          first | exact ⟨⟨i + 1, aT2, cT2, aP2, cP2, js, ET2, EP2⟩, ⟨by dsimp only; omega, by dsimp only; omega, by dsimp only; omega, VT2, VP2, hgd.1.1, hgd.2⟩, by dsimp only; omega, (by (repeat (first | exact keep_nil | refine keep_cons rfl ?_)); first | done | fail), (by (repeat (first | exact Sub.refl _ | refine Sub.take (by repeat (first | exact Take.here | apply Take.there | apply Take.app)) ?_ | refine Sub.takeE (by repeat (first | exact TakeE.here | apply TakeE.there | apply TakeE.app)) ?_ | exact Sub.nil _ | apply Sub.drop | apply Sub.dropE)); first | done | fail)⟩ | exact ⟨⟨i + 1, aT, cT, aP, cP, js, ET2, EP2⟩, ⟨by dsimp only; omega, by dsimp only; omega, by dsimp only; omega, VT2, VP2, hgd.1.1, hgd.2⟩, by dsimp only; omega, (by (repeat (first | exact keep_nil | refine keep_cons rfl ?_)); first | done | fail), (by (repeat (first | exact Sub.refl _ | refine Sub.take (by repeat (first | exact Take.here | apply Take.there | apply Take.app)) ?_ | refine Sub.takeE (by repeat (first | exact TakeE.here | apply TakeE.there | apply TakeE.app)) ?_ | exact Sub.nil _ | apply Sub.drop | apply Sub.dropE)); first | done | fail)⟩
        · refine sr_x rfl (wtd_none rfl) rfl (Rd.x (x_pick_t rfl rfl rfl)) ?_
          refine sr_nil ?_
          refine aw_keep (keep_cons (t := 0) rfl (keep_cons (t := 1) rfl (keep_cons (t := 2) rfl (keep_cons (t := 6) rfl (keep_cons (t := 7) rfl (keep_cons (t := 8) rfl (keep_cons (t := 9) rfl (keep_cons (t := 10) rfl (keep_cons (t := 22) rfl (keep_cons (t := 23) rfl (keep_cons (t := 24) rfl (keep_cons (t := 25) rfl (keep_cons (t := 26) rfl (keep_cons (t := 27) rfl (keep_cons (t := 28) rfl (keep_cons (t := 29) rfl (keep_cons (t := 32) rfl (keep_cons (t := 33) rfl (keep_cons (t := 34) rfl (keep_cons (t := 35) rfl (keep_cons (t := 36) rfl (keep_cons (t := 37) rfl (keep_cons (t := 38) rfl (keep_cons (t := 39) rfl (keep_cons (t := 40) rfl (keep_cons (t := 41) rfl (keep_cons (t := 42) rfl (keep_cons (t := 43) rfl keep_nil)))))))))))))))))))))))))))) ?_
          refine aw_false rfl ?_
          refine aw_seq_region ?_
          refine sr_x rfl (wtd_none rfl) rfl (Rd.x (x_move rfl)) ?_
          refine sr_x rfl (wtd_none rfl) rfl (Rd.x (x_loadN ag53 sz53 rfl (cells_ext (by repeat (first | exact List.mem_cons_self | apply List.mem_cons_of_mem | apply List.mem_append_right)) (by repeat (first | exact Ext.all _ | exact Ext.done | apply Ext.take | apply Ext.skip))) rfl)) ?_
          refine sr_d rfl (wtd_none rfl) rfl (opS_call rfl rfl rfl rfl cl37 (AC.sub (by repeat (first | exact Sub.refl _ | refine Sub.take (by repeat (first | exact Take.here | apply Take.there | apply Take.app)) ?_ | refine Sub.takeE (by repeat (first | exact TakeE.here | apply TakeE.there | apply TakeE.app)) ?_ | exact Sub.nil _ | apply Sub.drop | apply Sub.dropE)) (call_s p aT cT jobs ET (pl q (.slice aP jobs.length cP) :: (EP ++ [(r6_4, .cells (Op.cells o).toArray 53 (0, 0))])) o VT hgood (by omega)))) ?_
          rintro _ _ ⟨e1, js, ET2, hT, rfl, VT2, rfl⟩
          refine sr_nil ?_
          refine aw_keep (keep_cons (t := 0) rfl (keep_cons (t := 1) rfl (keep_cons (t := 2) rfl (keep_cons (t := 6) rfl (keep_cons (t := 7) rfl (keep_cons (t := 8) rfl (keep_cons (t := 9) rfl (keep_cons (t := 10) rfl (keep_cons (t := 22) rfl (keep_cons (t := 23) rfl (keep_cons (t := 24) rfl (keep_cons (t := 25) rfl (keep_cons (t := 26) rfl (keep_cons (t := 27) rfl (keep_cons (t := 28) rfl (keep_cons (t := 29) rfl (keep_cons (t := 32) rfl (keep_cons (t := 33) rfl (keep_cons (t := 34) rfl (keep_cons (t := 35) rfl (keep_cons (t := 36) rfl (keep_cons (t := 37) rfl (keep_cons (t := 38) rfl (keep_cons (t := 39) rfl (keep_cons (t := 40) rfl (keep_cons (t := 41) rfl (keep_cons (t := 42) rfl (keep_cons (t := 43) rfl (keep_cons (t := 52) rfl (keep_cons (t := 53) rfl keep_nil)))))))))))))))))))))))))))))) ?_
          refine aw_region ?_
          refine sr_x rfl (wtd_none rfl) rfl (Rd.x (x_move rfl)) ?_
          refine sr_x rfl (wtd_none rfl) rfl (Rd.x (x_loadN ag53 sz53 rfl (cells_ext (by repeat (first | exact List.mem_cons_self | apply List.mem_cons_of_mem | apply List.mem_append_right)) (by repeat (first | exact Ext.all _ | exact Ext.done | apply Ext.take | apply Ext.skip))) rfl)) ?_
          refine sr_d rfl (wtd_none rfl) rfl (opS_call rfl rfl rfl rfl cl38 (AC.sub (by repeat (first | exact Sub.refl _ | refine Sub.take (by repeat (first | exact Take.here | apply Take.there | apply Take.app)) ?_ | refine Sub.takeE (by repeat (first | exact TakeE.here | apply TakeE.there | apply TakeE.app)) ?_ | exact Sub.nil _ | apply Sub.drop | apply Sub.dropE)) (pturn_s q aP cP jobs EP (tab p (.slice aT js.length cT) (aliveN js) :: (ET2 ++ [(r6_4, .cells (Op.cells o).toArray 53 (0, 0))])) VP o hgood))) ?_
          rintro _ _ ⟨e2, js2, EP2, hP, rfl, VP2, rfl⟩
          obtain ⟨he9, hj9⟩ := TurnR.det hP hT
          subst he9; subst hj9
          have hgd := And.intro (And.intro (hT.good hgood) (Nat.le_succ_of_le (Nat.le_of_eq hT.len))) (hT.ids hids)
          refine sr_nil ?_
          show AW _ _ _ _ _ _ _
          refine aw_region ?_
          refine sr_x rfl (wtd_none rfl) rfl (Rd.x (x_move rfl)) ?_
          refine sr_x rfl (wtd_none rfl) rfl (Rd.x (x_add' rfl rfl (i64w (by omega) (by omega)))) ?_
          refine sr_x rfl (wtd_none rfl) rfl (Rd.x (x_assign rfl)) ?_
          refine sr_nil ?_
          show ∃ s', _ ∧ _ ∧ _ ∧ _
          first | exact ⟨⟨i + 1, aT2, cT2, aP2, cP2, js, ET2, EP2⟩, ⟨by dsimp only; omega, by dsimp only; omega, by dsimp only; omega, VT2, VP2, hgd.1.1, hgd.2⟩, by dsimp only; omega, (by (repeat (first | exact keep_nil | refine keep_cons rfl ?_)); first | done | fail), (by (repeat (first | exact Sub.refl _ | refine Sub.take (by repeat (first | exact Take.here | apply Take.there | apply Take.app)) ?_ | refine Sub.takeE (by repeat (first | exact TakeE.here | apply TakeE.there | apply TakeE.app)) ?_ | exact Sub.nil _ | apply Sub.drop | apply Sub.dropE)); first | done | fail)⟩ | exact ⟨⟨i + 1, aT, cT, aP, cP, js, ET2, EP2⟩, ⟨by dsimp only; omega, by dsimp only; omega, by dsimp only; omega, VT2, VP2, hgd.1.1, hgd.2⟩, by dsimp only; omega, (by (repeat (first | exact keep_nil | refine keep_cons rfl ?_)); first | done | fail), (by (repeat (first | exact Sub.refl _ | refine Sub.take (by repeat (first | exact Take.here | apply Take.there | apply Take.app)) ?_ | refine Sub.takeE (by repeat (first | exact TakeE.here | apply TakeE.there | apply TakeE.app)) ?_ | exact Sub.nil _ | apply Sub.drop | apply Sub.dropE)); first | done | fail)⟩
      · refine sr_x rfl (wtd_none rfl) rfl (Rd.x (x_move rfl)) ?_
        refine sr_skip rfl (wtd_no rfl rfl rfl rfl) rfl ?_
        refine sr_skip rfl (wtd_no rfl rfl rfl rfl) rfl ?_
        refine sr_skip rfl (wtd_no rfl rfl rfl rfl) rfl ?_
        refine sr_x rfl (wtd_none rfl) rfl (Rd.x (x_pick_f rfl rfl rfl)) ?_
        refine sr_nil ?_
        refine aw_keep (keep_cons (t := 0) rfl (keep_cons (t := 1) rfl (keep_cons (t := 2) rfl (keep_cons (t := 6) rfl (keep_cons (t := 7) rfl (keep_cons (t := 8) rfl (keep_cons (t := 9) rfl (keep_cons (t := 10) rfl (keep_cons (t := 22) rfl (keep_cons (t := 23) rfl (keep_cons (t := 24) rfl (keep_cons (t := 25) rfl (keep_cons (t := 26) rfl (keep_cons (t := 27) rfl (keep_cons (t := 28) rfl (keep_cons (t := 29) rfl (keep_cons (t := 32) rfl (keep_cons (t := 33) rfl (keep_cons (t := 34) rfl (keep_cons (t := 35) rfl (keep_cons (t := 36) rfl (keep_cons (t := 37) rfl (keep_cons (t := 38) rfl (keep_cons (t := 39) rfl (keep_cons (t := 40) rfl (keep_cons (t := 41) rfl (keep_cons (t := 42) rfl (keep_cons (t := 43) rfl keep_nil)))))))))))))))))))))))))))) ?_
        refine aw_false rfl ?_
        refine aw_seq_region ?_
        refine sr_x rfl (wtd_none rfl) rfl (Rd.x (x_move rfl)) ?_
        refine sr_x rfl (wtd_none rfl) rfl (Rd.x (x_loadN ag53 sz53 rfl (cells_ext (by repeat (first | exact List.mem_cons_self | apply List.mem_cons_of_mem | apply List.mem_append_right)) (by repeat (first | exact Ext.all _ | exact Ext.done | apply Ext.take | apply Ext.skip))) rfl)) ?_
        refine sr_d rfl (wtd_none rfl) rfl (opS_call rfl rfl rfl rfl cl37 (AC.sub (by repeat (first | exact Sub.refl _ | refine Sub.take (by repeat (first | exact Take.here | apply Take.there | apply Take.app)) ?_ | refine Sub.takeE (by repeat (first | exact TakeE.here | apply TakeE.there | apply TakeE.app)) ?_ | exact Sub.nil _ | apply Sub.drop | apply Sub.dropE)) (call_s p aT cT jobs ET (pl q (.slice aP jobs.length cP) :: (EP ++ [(r6_4, .cells (Op.cells o).toArray 53 (0, 0))])) o VT hgood (by omega)))) ?_
        rintro _ _ ⟨e1, js, ET2, hT, rfl, VT2, rfl⟩
        refine sr_nil ?_
        refine aw_keep (keep_cons (t := 0) rfl (keep_cons (t := 1) rfl (keep_cons (t := 2) rfl (keep_cons (t := 6) rfl (keep_cons (t := 7) rfl (keep_cons (t := 8) rfl (keep_cons (t := 9) rfl (keep_cons (t := 10) rfl (keep_cons (t := 22) rfl (keep_cons (t := 23) rfl (keep_cons (t := 24) rfl (keep_cons (t := 25) rfl (keep_cons (t := 26) rfl (keep_cons (t := 27) rfl (keep_cons (t := 28) rfl (keep_cons (t := 29) rfl (keep_cons (t := 32) rfl (keep_cons (t := 33) rfl (keep_cons (t := 34) rfl (keep_cons (t := 35) rfl (keep_cons (t := 36) rfl (keep_cons (t := 37) rfl (keep_cons (t := 38) rfl (keep_cons (t := 39) rfl (keep_cons (t := 40) rfl (keep_cons (t := 41) rfl (keep_cons (t := 42) rfl (keep_cons (t := 43) rfl (keep_cons (t := 52) rfl (keep_cons (t := 53) rfl keep_nil)))))))))))))))))))))))))))))) ?_
        refine aw_region ?_
        refine sr_x rfl (wtd_none rfl) rfl (Rd.x (x_move rfl)) ?_
        refine sr_x rfl (wtd_none rfl) rfl (Rd.x (x_loadN ag53 sz53 rfl (cells_ext (by repeat (first | exact List.mem_cons_self | apply List.mem_cons_of_mem | apply List.mem_append_right)) (by repeat (first | exact Ext.all _ | exact Ext.done | apply Ext.take | apply Ext.skip))) rfl)) ?_
        refine sr_d rfl (wtd_none rfl) rfl (opS_call rfl rfl rfl rfl cl38 (AC.sub (by repeat (first | exact Sub.refl _ | refine Sub.take (by repeat (first | exact Take.here | apply Take.there | apply Take.app)) ?_ | refine Sub.takeE (by repeat (first | exact TakeE.here | apply TakeE.there | apply TakeE.app)) ?_ | exact Sub.nil _ | apply Sub.drop | apply Sub.dropE)) (pturn_s q aP cP jobs EP (tab p (.slice aT js.length cT) (aliveN js) :: (ET2 ++ [(r6_4, .cells (Op.cells o).toArray 53 (0, 0))])) VP o hgood))) ?_
        rintro _ _ ⟨e2, js2, EP2, hP, rfl, VP2, rfl⟩
        obtain ⟨he9, hj9⟩ := TurnR.det hP hT
        subst he9; subst hj9
        have hgd := And.intro (And.intro (hT.good hgood) (Nat.le_succ_of_le (Nat.le_of_eq hT.len))) (hT.ids hids)
        refine sr_nil ?_
        show AW _ _ _ _ _ _ _
        refine aw_region ?_
        refine sr_x rfl (wtd_none rfl) rfl (Rd.x (x_move rfl)) ?_
        refine sr_x rfl (wtd_none rfl) rfl (Rd.x (x_add' rfl rfl (i64w (by omega) (by omega)))) ?_
        refine sr_x rfl (wtd_none rfl) rfl (Rd.x (x_assign rfl)) ?_
        refine sr_nil ?_
        show ∃ s', _ ∧ _ ∧ _ ∧ _
        first | exact ⟨⟨i + 1, aT2, cT2, aP2, cP2, js, ET2, EP2⟩, ⟨by dsimp only; omega, by dsimp only; omega, by dsimp only; omega, VT2, VP2, hgd.1.1, hgd.2⟩, by dsimp only; omega, (by (repeat (first | exact keep_nil | refine keep_cons rfl ?_)); first | done | fail), (by (repeat (first | exact Sub.refl _ | refine Sub.take (by repeat (first | exact Take.here | apply Take.there | apply Take.app)) ?_ | refine Sub.takeE (by repeat (first | exact TakeE.here | apply TakeE.there | apply TakeE.app)) ?_ | exact Sub.nil _ | apply Sub.drop | apply Sub.dropE)); first | done | fail)⟩ | exact ⟨⟨i + 1, aT, cT, aP, cP, js, ET2, EP2⟩, ⟨by dsimp only; omega, by dsimp only; omega, by dsimp only; omega, VT2, VP2, hgd.1.1, hgd.2⟩, by dsimp only; omega, (by (repeat (first | exact keep_nil | refine keep_cons rfl ?_)); first | done | fail), (by (repeat (first | exact Sub.refl _ | refine Sub.take (by repeat (first | exact Take.here | apply Take.there | apply Take.app)) ?_ | refine Sub.takeE (by repeat (first | exact TakeE.here | apply TakeE.there | apply TakeE.app)) ?_ | exact Sub.nil _ | apply Sub.drop | apply Sub.dropE)); first | done | fail)⟩
    · refine sr_x rfl (wtd_none rfl) rfl (Rd.x (x_pick_t rfl rfl rfl)) ?_
      refine sr_nil ?_
      refine aw_keep (keep_cons (t := 0) rfl (keep_cons (t := 1) rfl (keep_cons (t := 2) rfl (keep_cons (t := 6) rfl (keep_cons (t := 7) rfl (keep_cons (t := 8) rfl (keep_cons (t := 9) rfl (keep_cons (t := 22) rfl (keep_cons (t := 23) rfl (keep_cons (t := 24) rfl (keep_cons (t := 25) rfl (keep_cons (t := 26) rfl (keep_cons (t := 27) rfl (keep_cons (t := 28) rfl (keep_cons (t := 29) rfl keep_nil))))))))))))))) ?_
      refine aw_false rfl ?_
      refine aw_exit ?_
      show AW _ _ _ _ _ _ _
      refine aw_seq_region ?_
      refine sr_x rfl (wtd_none rfl) rfl (Rd.x (x_move rfl)) ?_
      refine sr_d rfl (wtd_none rfl) rfl (opS_call rfl rfl rfl rfl cl73 (counts_s p aT cT jobs (aliveN jobs) _ (cells_ext (by repeat (first | exact List.mem_cons_self | apply List.mem_cons_of_mem | apply List.mem_append_right)) (by repeat (first | exact Ext.all _ | exact Ext.done | apply Ext.take | apply Ext.skip))) (VT.slv' (fun _ => rfl) rfl (Sub.takeE0 (by repeat (first | exact TakeE.here | apply TakeE.there | apply TakeE.app)))) (by omega))) ?_
      rintro _ _ ⟨rfl, rfl⟩
      refine sr_x rfl (wtd_none rfl) rfl (Rd.x (x_move rfl)) ?_
      refine sr_x rfl (wtd_none rfl) rfl (Rd.x (x_extract rfl rfl)) ?_
      refine sr_x rfl (wtd_none rfl) rfl (Rd.x (x_extract rfl rfl)) ?_
      refine sr_x rfl (wtd_none rfl) rfl (Rd.x (x_extract rfl rfl)) ?_
      refine sr_x rfl (wtd_none rfl) rfl (Rd.x (x_assign rfl)) ?_
      refine sr_x rfl (wtd_none rfl) rfl (Rd.x (x_assign rfl)) ?_
      refine sr_x rfl (wtd_none rfl) rfl (Rd.x (x_assign rfl)) ?_
      refine sr_nil ?_
      refine aw_keep (keep_cons (t := 1) rfl (keep_cons (t := 2) rfl (keep_cons (t := 6) rfl (keep_cons (t := 7) rfl (keep_cons (t := 8) rfl (keep_cons (t := 11) rfl (keep_cons (t := 12) rfl (keep_cons (t := 13) rfl keep_nil)))))))) ?_
      refine aw_seq ?_
      refine aw_seq_region ?_
      refine sr_x rfl (wtd_none rfl) rfl (Rd.x (x_move rfl)) ?_
      refine sr_x rfl (wtd_none rfl) rfl (Rd.x (x_move rfl)) ?_
      refine sr_x rfl (wtd_none rfl) rfl (Rd.x (x_move rfl)) ?_
      refine sr_new rfl (wtd_none rfl) rfl (x_buildSlice Try.underlying134 sz3 zr3 rfl rfl rfl rfl (by repeat (first | exact Parts.nil | (apply Parts.cons; rfl))) (by repeat (first | exact Fill.done | (apply Fill.part; rfl; rfl; rfl; focus (repeat (first | exact Spl.done | exact Spl.all rfl | apply Spl.put | apply Spl.skip)))))) ?_
      intro r13_3 hr13_3 gr13_3
      refine sr_d rfl (wtd_none rfl) rfl (opS_call rfl rfl rfl rfl cl74 (in_s p aT cT jobs (aliveN jobs) _ (cells_ext (by repeat (first | exact List.mem_cons_self | apply List.mem_cons_of_mem | apply List.mem_append_right)) (by repeat (first | exact Ext.all _ | exact Ext.done | apply Ext.take | apply Ext.skip))) (VT.slv' (fun _ => rfl) rfl (Sub.takeE0 (by repeat (first | exact TakeE.here | apply TakeE.there | apply TakeE.app)))) (by omega) r13_3 2 2 [x0, y0] (inP x0 y0) (inP_two x0 y0) rfl (by omega) (cells_ext (by repeat (first | exact List.mem_cons_self | apply List.mem_cons_of_mem | apply List.mem_append_right)) (by repeat (first | exact Ext.all _ | exact Ext.done | apply Ext.take | apply Ext.skip))))) ?_
      rintro _ _ ⟨a68, c68, E68, rfl, V68, rfl⟩
      refine sr_x rfl (wtd_none rfl) rfl (Rd.x (x_move rfl)) ?_
      refine sr_x rfl (wtd_none rfl) rfl (Rd.x (x_move rfl)) ?_
      refine sr_x rfl (wtd_none rfl) rfl (Rd.x (x_move rfl)) ?_
      refine sr_d rfl (wtd_none rfl) rfl (opS_call rfl rfl rfl rfl cl75 (pin_s q aP cP jobs _ (cells_ext (by repeat (first | exact List.mem_cons_self | apply List.mem_cons_of_mem | apply List.mem_append_right)) (by repeat (first | exact Ext.all _ | exact Ext.done | apply Ext.take | apply Ext.skip))) (VP.slv' (fun _ => rfl) rfl (Sub.takeE0 (by repeat (first | exact TakeE.here | apply TakeE.there | apply TakeE.app)))) (by omega) x0 y0)) ?_
      rintro _ _ ⟨a72, c72, E72, rfl, V72, rfl⟩
      refine sr_d rfl (wtd_none rfl) rfl (opS_call rfl rfl rfl rfl cl39 (same_s a68 a72 c68 c72 (jobs.filter (inP x0 y0)) _ (V68.slv' (fun _ => rfl) rfl (Sub.takeE0 (by repeat (first | exact TakeE.here | apply TakeE.there | apply TakeE.app)))) (V72.slv' (fun _ => rfl) rfl (Sub.takeE0 (by repeat (first | exact TakeE.here | apply TakeE.there | apply TakeE.app)))))) ?_
      rintro _ _ ⟨rfl, rfl⟩
      refine sr_x rfl (wtd_none rfl) rfl (Rd.x (x_not rfl)) ?_
      refine sr_x rfl (wtd_none rfl) rfl (Rd.x (x_move rfl)) ?_
      refine sr_x rfl (wtd_yes rfl rfl rfl) rfl (Rd.x (x_move rfl)) ?_
      refine sr_x rfl (wtd_yes rfl rfl rfl) rfl (Rd.x (x_move rfl)) ?_
      refine sr_d rfl (wtd_yes rfl rfl rfl) rfl (opS_call rfl rfl rfl rfl cl75 (pin_s q aP cP jobs _ (cells_ext (by repeat (first | exact List.mem_cons_self | apply List.mem_cons_of_mem | apply List.mem_append_right)) (by repeat (first | exact Ext.all _ | exact Ext.done | apply Ext.take | apply Ext.skip))) (VP.slv' (fun _ => rfl) rfl (Sub.takeE0 (by repeat (first | exact TakeE.here | apply TakeE.there | apply TakeE.app)))) (by omega) 1 1)) ?_
      rintro _ _ ⟨a78, c78, E78, rfl, V78, rfl⟩
      refine sr_x rfl (wtd_yes rfl rfl rfl) rfl (Rd.x (x_lenSlice Try.underlying22 rfl)) ?_
      refine sr_cmp rfl (wtd_yes rfl rfl rfl) rfl (Rd.x (x_ne rfl rfl)) (fun h5 => absurd h5 (by first | omega | decide)) (fun h5 => ?_)
      refine sr_x rfl (wtd_none rfl) rfl (Rd.x (x_pick_f rfl rfl rfl)) ?_
      refine sr_x rfl (wtd_none rfl) rfl (Rd.x (x_move rfl)) ?_
      refine sr_x rfl (wtd_yes rfl rfl rfl) rfl (Rd.x (x_move rfl)) ?_
      refine sr_x rfl (wtd_yes rfl rfl rfl) rfl (Rd.x (x_move rfl)) ?_
      refine sr_d rfl (wtd_yes rfl rfl rfl) rfl (opS_call rfl rfl rfl rfl cl75 (pin_s q aP cP jobs _ (cells_ext (by repeat (first | exact List.mem_cons_self | apply List.mem_cons_of_mem | apply List.mem_append_right)) (by repeat (first | exact Ext.all _ | exact Ext.done | apply Ext.take | apply Ext.skip))) (VP.slv' (fun _ => rfl) rfl (Sub.takeE0 (by repeat (first | exact TakeE.here | apply TakeE.there | apply TakeE.app)))) (by omega) 2 2)) ?_
      rintro _ _ ⟨a85, c85, E85, rfl, V85, rfl⟩
      refine sr_x rfl (wtd_yes rfl rfl rfl) rfl (Rd.x (x_lenSlice Try.underlying22 rfl)) ?_
      refine sr_cmp rfl (wtd_yes rfl rfl rfl) rfl (Rd.x (x_ne rfl rfl)) (fun h6 => absurd h6 (by first | omega | decide)) (fun h6 => ?_)
      refine sr_x rfl (wtd_none rfl) rfl (Rd.x (x_pick_f rfl rfl rfl)) ?_
      refine sr_x rfl (wtd_none rfl) rfl (Rd.x (x_move rfl)) ?_
      refine sr_x rfl (wtd_yes rfl rfl rfl) rfl (Rd.x (x_move rfl)) ?_
      refine sr_x rfl (wtd_yes rfl rfl rfl) rfl (Rd.x (x_move rfl)) ?_
      refine sr_d rfl (wtd_yes rfl rfl rfl) rfl (opS_call rfl rfl rfl rfl cl75 (pin_s q aP cP jobs _ (cells_ext (by repeat (first | exact List.mem_cons_self | apply List.mem_cons_of_mem | apply List.mem_append_right)) (by repeat (first | exact Ext.all _ | exact Ext.done | apply Ext.take | apply Ext.skip))) (VP.slv' (fun _ => rfl) rfl (Sub.takeE0 (by repeat (first | exact TakeE.here | apply TakeE.there | apply TakeE.app)))) (by omega) 3 3)) ?_
      rintro _ _ ⟨a92, c92, E92, rfl, V92, rfl⟩
      refine sr_x rfl (wtd_yes rfl rfl rfl) rfl (Rd.x (x_lenSlice Try.underlying22 rfl)) ?_
      refine sr_cmp rfl (wtd_yes rfl rfl rfl) rfl (Rd.x (x_ne rfl rfl)) (fun h7 => absurd h7 (by first | omega | decide)) (fun h7 => ?_)
      refine sr_x rfl (wtd_none rfl) rfl (Rd.x (x_pick_f rfl rfl rfl)) ?_
      refine sr_nil ?_
      refine aw_keep (keep_cons (t := 6) rfl (keep_cons (t := 7) rfl (keep_cons (t := 8) rfl (keep_cons (t := 95) rfl keep_nil)))) ?_
      refine aw_false rfl ?_
      refine aw_skip ?_
      show AW _ _ _ _ _ _ _
      refine aw_seq_region ?_
      refine sr_x rfl (wtd_none rfl) rfl (Rd.x (x_move rfl)) ?_
      refine sr_d rfl (wtd_none rfl) rfl (opS_call rfl rfl rfl rfl cl76 (waiting_s p aT cT jobs (aliveN jobs) _ (cells_ext (by repeat (first | exact List.mem_cons_self | apply List.mem_cons_of_mem | apply List.mem_append_right)) (by repeat (first | exact Ext.all _ | exact Ext.done | apply Ext.take | apply Ext.skip))) (VT.slv' (fun _ => rfl) rfl (Sub.takeE0 (by repeat (first | exact TakeE.here | apply TakeE.there | apply TakeE.app)))) (by omega) (by omega))) ?_
      rintro _ _ ⟨W, a6, c6, E6, rfl, hst, hsr, V6, rfl⟩
      have hWl : W.length = (jobs.filter (inP 1 1)).length := hst.1.length_eq
      obtain ⟨hwm, hwo⟩ := wait_ok hids hst hsr
      have hfl := List.length_filter_le (inP 1 1) jobs
      refine sr_x rfl (wtd_none rfl) rfl (Rd.x (x_assign rfl)) ?_
      refine sr_nil ?_
      refine aw_keep (keep_cons (t := 6) rfl (keep_cons (t := 7) rfl (keep_cons (t := 8) rfl (keep_cons (t := 14) rfl keep_nil)))) ?_
      refine aw_seq ?_
      refine aw_seq_region ?_
      refine sr_x rfl (wtd_none rfl) rfl (Rd.x (x_move rfl)) ?_
      refine sr_x rfl (wtd_none rfl) rfl (Rd.x (x_lenSlice Try.underlying22 rfl)) ?_
      refine sr_x rfl (wtd_none rfl) rfl (Rd.x (x_move rfl)) ?_
      refine sr_d rfl (wtd_none rfl) rfl (opS_call rfl rfl rfl rfl cl75 (pin_s q aP cP jobs _ (cells_ext (by repeat (first | exact List.mem_cons_self | apply List.mem_cons_of_mem | apply List.mem_append_right)) (by repeat (first | exact Ext.all _ | exact Ext.done | apply Ext.take | apply Ext.skip))) (VP.slv' (fun _ => rfl) rfl (Sub.takeE0 (by repeat (first | exact TakeE.here | apply TakeE.there | apply TakeE.app)))) (by omega) 1 1)) ?_
      rintro _ _ ⟨a101, c101, E101, rfl, V101, rfl⟩
      refine sr_x rfl (wtd_none rfl) rfl (Rd.x (x_lenSlice Try.underlying22 rfl)) ?_
      refine sr_cmp rfl (wtd_none rfl) rfl (Rd.x (x_ne rfl rfl)) (fun h8 => absurd h8 (by first | omega | decide)) (fun h8 => ?_)
      refine sr_nil ?_
      refine aw_keep (keep_cons (t := 6) rfl (keep_cons (t := 7) rfl (keep_cons (t := 8) rfl (keep_cons (t := 14) rfl (keep_cons (t := 103) rfl keep_nil))))) ?_
      refine aw_false rfl ?_
      refine aw_skip ?_
      show AW _ _ _ _ _ _ _
      refine aw_seq ?_
      refine aw_seq_region ?_
      refine sr_x rfl (wtd_none rfl) rfl (Rd.x (x_assign rfl)) ?_
      refine sr_nil ?_
      refine aw_keep (keep_cons (t := 6) rfl (keep_cons (t := 7) rfl (keep_cons (t := 8) rfl (keep_cons (t := 14) rfl (keep_cons (t := 15) rfl keep_nil))))) ?_
      refine aw_block ?_
      refine aw_loop (ι := Nat) (fun m => m ≤ W.length) (fun m => [(6, .bool false), (7, .pointer (some ⟨p, 0, none⟩)), (8, .pointer (some ⟨q, 0, none⟩)), (14, .slice a6 (jobs.filter (inP 1 1)).length c6), (15, .int .i64 m)]) (fun _ => E6 ++ (tab p (.slice aT jobs.length cT) (aliveN jobs) :: (ET ++ (pl q (.slice aP jobs.length cP) :: (EP ++ []))))) (fun m => W.length - m) 0 (Nat.zero_le _) (by (repeat (first | exact keep_nil | refine keep_cons rfl ?_)); first | done | fail) (by repeat (first | exact Sub.refl _ | refine Sub.take (by repeat (first | exact Take.here | apply Take.there | apply Take.app)) ?_ | refine Sub.takeE (by repeat (first | exact TakeE.here | apply TakeE.there | apply TakeE.app)) ?_ | exact Sub.nil _ | apply Sub.drop | apply Sub.dropE)) ?_
      intro m hm
      refine aw_seq ?_
      refine aw_seq_region ?_
      refine sr_x rfl (wtd_none rfl) rfl (Rd.x (x_move rfl)) ?_
      refine sr_x rfl (wtd_none rfl) rfl (Rd.x (x_move rfl)) ?_
      refine sr_x rfl (wtd_none rfl) rfl (Rd.x (x_lenSlice Try.underlying22 rfl)) ?_
      refine sr_cmp rfl (wtd_none rfl) rfl (Rd.x (x_lt rfl rfl)) (fun h9 => ?_) (fun h9 => ?_)
      · refine sr_nil ?_
        refine aw_keep (keep_cons (t := 6) rfl (keep_cons (t := 7) rfl (keep_cons (t := 8) rfl (keep_cons (t := 14) rfl (keep_cons (t := 15) rfl (keep_cons (t := 104) rfl (keep_cons (t := 105) rfl (keep_cons (t := 106) rfl (keep_cons (t := 107) rfl keep_nil))))))))) ?_
        refine aw_true rfl ?_
        refine aw_skip ?_
        show AW _ _ _ _ _ _ _
        refine aw_seq ?_
        refine aw_block ?_
        refine aw_seq_region ?_
        obtain ⟨x, hx⟩ := get_ex (show m < W.length by omega)
        obtain ⟨bx, ox, hax, hcx⟩ := (V6.slv' (W0 := W0) (xs := W) (fun _ => rfl) hWl.symm (Sub.refl _)).at_ m _ hx
        have hle6 := (V6.slv' (W0 := W0) (xs := W) (fun _ => rfl) hWl.symm (Sub.refl _)).le
        have hcb6 := (V6.slv' (W0 := W0) (xs := W) (fun _ => rfl) hWl.symm (Sub.refl _)).capb
        have hxs := (hwm x (List.mem_of_getElem? hx)).2
        refine sr_x rfl (wtd_none rfl) rfl (Rd.x (x_move rfl)) ?_
        refine sr_x rfl (wtd_none rfl) rfl (Rd.x (x_move rfl)) ?_
        refine sr_x rfl (wtd_none rfl) rfl (Rd.x (x_move rfl)) ?_
        refine sr_x rfl (wtd_none rfl) rfl (Rd.x (x_indexAddrN (m) Try.underlying22 sz91 rfl hax rfl (by omega) (by omega))) ?_
        refine sr_x rfl (wtd_none rfl) rfl (Rd.x (x_fieldAddr fd91_0 rfl)) ?_
        refine sr_x rfl (wtd_none rfl) rfl (Rd.x (x_load ag3 rfl (cells_get (Cells.mono hcx (Sub.takeE0 (by repeat (first | exact TakeE.here | apply TakeE.there | apply TakeE.app)))) 0 rfl))) ?_
        refine sr_d rfl (wtd_none rfl) rfl (opS_call rfl rfl rfl rfl cl77 (getX_s p aT cT jobs (aliveN jobs) _ (cells_ext (by repeat (first | exact List.mem_cons_self | apply List.mem_cons_of_mem | apply List.mem_append_right)) (by repeat (first | exact Ext.all _ | exact Ext.done | apply Ext.take | apply Ext.skip))) (VT.slv' (fun _ => rfl) rfl (Sub.takeE0 (by repeat (first | exact TakeE.here | apply TakeE.there | apply TakeE.app)))) hids x (hwm x (List.mem_of_getElem? hx)).1)) ?_
        rintro _ H9 ⟨rfl, rfl⟩
        refine sr_x rfl (wtd_none rfl) rfl (Rd.x (x_move rfl)) ?_
        refine sr_x rfl (wtd_none rfl) rfl (Rd.x (x_extract rfl rfl)) ?_
        refine sr_x rfl (wtd_none rfl) rfl (Rd.x (x_extract rfl rfl)) ?_
        refine sr_new rfl (wtd_none rfl) rfl (x_alloc zr91 rfl) ?_
        intro r21_10 hr21_10 gr21_10
        refine sr_x0 rfl (wtd_none rfl) (x_store sz91 rfl rfl rfl rfl rfl (by repeat (first | exact Repl.here | apply Repl.there | apply Repl.app)) (by repeat (first | exact Spl.done | exact Spl.all rfl | apply Spl.put | apply Spl.skip))) ?_
        refine sr_x rfl (wtd_none rfl) rfl (Rd.x (x_assign rfl)) ?_
        refine sr_nil ?_
        refine aw_keep (keep_cons (t := 6) rfl (keep_cons (t := 7) rfl (keep_cons (t := 8) rfl (keep_cons (t := 14) rfl (keep_cons (t := 15) rfl (keep_cons (t := 16) rfl (keep_cons (t := 17) rfl (keep_cons (t := 104) rfl (keep_cons (t := 105) rfl (keep_cons (t := 106) rfl (keep_cons (t := 107) rfl (keep_cons (t := 110) rfl (keep_cons (t := 111) rfl (keep_cons (t := 112) rfl (keep_cons (t := 113) rfl (keep_cons (t := 114) rfl (keep_cons (t := 115) rfl (keep_cons (t := 116) rfl (keep_cons (t := 117) rfl (keep_cons (t := 118) rfl (keep_cons (t := 119) rfl keep_nil))))))))))))))))))))) ?_
        refine aw_seq_dr ⟨_, 52, 189, [[], [0], [0, 1], [0, 1, 2], [0, 1, 2], [0, 1, 2], [0, 1, 2, 4, 5], [0, 1, 2, 4, 5, 6], [0, 1, 2, 3, 4, 5, 6, 7], [0, 1, 2, 3, 4, 5, 6, 7, 8], [0, 1, 2, 3, 4, 5, 6, 7, 8, 9], [0, 1, 2, 3, 4, 5, 6, 7, 8, 9, 10], [0, 1, 2, 3, 4, 5, 6, 7, 8, 9, 10, 11], [0, 1, 2, 3, 4, 5, 6, 7, 8, 9, 10, 11, 12], [0, 1, 2, 3, 4, 5, 6, 7, 8, 9, 10, 11, 12, 13], [0, 1, 2, 3, 4, 5, 6, 7, 8, 9, 10, 11, 12, 13, 14], [0, 1, 2, 3, 4, 5, 6, 7, 8, 9, 10, 11, 12, 13, 14, 15], [0, 1, 2, 3, 4, 5, 6, 7, 8, 9, 10, 11, 12, 13, 14, 15, 16], [0, 1, 2, 3, 4, 5, 6, 7, 8, 9, 10, 11, 12, 13, 14, 15, 16, 17], [0, 1, 2, 3, 4, 5, 6, 7, 8, 9, 10, 11, 12, 13, 14, 15, 16, 17, 18], [0, 1, 2, 3, 4, 5, 6, 7, 8, 9, 10, 11, 12, 13, 14, 15, 16, 17, 18], [0, 1, 2, 3, 4, 5, 6, 7, 8, 9, 10, 11, 12, 13, 14, 15, 16, 17, 18, 20], [0, 1, 2, 3, 4, 5, 6, 7, 8, 9, 10, 11, 12, 13, 14, 15, 16, 17, 18, 19, 20, 21], [0, 1, 2, 3, 4, 5, 6, 7, 8, 9, 10, 11, 12, 13, 14, 15, 16, 17, 18, 19, 20, 21, 22], [0, 1, 2, 3, 4, 5, 6, 7, 8, 9, 10, 11, 12, 13, 14, 15, 16, 17, 18, 19, 20, 21, 22, 23], [0, 1, 2, 3, 4, 5, 6, 7, 8, 9, 10, 11, 12, 13, 14, 15, 16, 17, 18], [0, 1, 2, 3, 4, 5, 6, 7, 8, 9, 10, 11, 12, 13, 14, 15, 16, 17, 18, 25], [0, 1, 2, 3, 4, 5, 6, 7, 8, 9, 10, 11, 12, 13, 14, 15, 16, 17, 18, 19, 20, 21, 22, 23, 24, 25, 26], [0, 1, 2, 3, 4, 5, 6, 7, 8, 9, 10, 11, 12, 13, 14, 15, 16, 17, 18, 19, 20, 21, 22, 23, 24, 25, 26, 27], [0, 1, 2, 3, 4, 5, 6, 7, 8, 9, 10, 11, 12, 13, 14, 15, 16, 17, 18, 19, 20, 21, 22, 23, 24, 25, 26, 27, 28], [0, 1, 2, 3, 4, 5, 6, 7, 8, 9, 10, 11, 12, 13, 14, 15, 16, 17, 18, 19, 20, 21, 22, 23, 24, 25, 26, 27, 28], [0, 1, 2, 3, 4, 5, 6, 7, 8, 9, 10, 11, 12, 13, 14, 15, 16, 17, 18, 19, 20, 21, 22, 23, 24, 25, 26, 27, 28, 30], [0, 1, 2, 3, 4, 5, 6, 7, 8, 9, 10, 11, 12, 13, 14, 15, 16, 17, 18, 19, 20, 21, 22, 23, 24, 25, 26, 27, 28, 29, 30, 31], [0, 1, 2, 3, 4, 5, 6, 7, 8, 9, 10, 11, 12, 13, 14, 15, 16, 17, 18, 19, 20, 21, 22, 23, 24, 25, 26, 27, 28, 29, 30, 31, 32], [0, 1, 2, 3, 4, 5, 6, 7, 8, 9, 10, 11, 12, 13, 14, 15, 16, 17, 18, 19, 20, 21, 22, 23, 24, 25, 26, 27, 28, 29, 30, 31, 32, 33], [0, 1, 2, 3, 4, 5, 6, 7, 8, 9, 10, 11, 12, 13, 14, 15, 16, 17, 18, 19, 20, 21, 22, 23, 24, 25, 26, 27, 28], [0, 1, 2, 3, 4, 5, 6, 7, 8, 9, 10, 11, 12, 13, 14, 15, 16, 17, 18, 19, 20, 21, 22, 23, 24, 25, 26, 27, 28, 35], [0, 1, 2, 3, 4, 5, 6, 7, 8, 9, 10, 11, 12, 13, 14, 15, 16, 17, 18, 19, 20, 21, 22, 23, 24, 25, 26, 27, 28, 29, 30, 31, 32, 33, 34, 35, 36], [0, 1, 2, 3, 4, 5, 6, 7, 8, 9, 10, 11, 12, 13, 14, 15, 16, 17, 18, 19, 20, 21, 22, 23, 24, 25, 26, 27, 28, 29, 30, 31, 32, 33, 34, 35, 36, 37], [0, 1, 2, 3, 4, 5, 6, 7, 8, 9, 10, 11, 12, 13, 14, 15, 16, 17, 18, 19, 20, 21, 22, 23, 24, 25, 26, 27, 28, 29, 30, 31, 32, 33, 34, 35, 36, 37, 38], [0, 1, 2, 3, 4, 5, 6, 7, 8, 9, 10, 11, 12, 13, 14, 15, 16, 17, 18, 19, 20, 21, 22, 23, 24, 25, 26, 27, 28, 29, 30, 31, 32, 33, 34, 35, 36, 37, 38], [0, 1, 2, 3, 4, 5, 6, 7, 8, 9, 10, 11, 12, 13, 14, 15, 16, 17, 18, 19, 20, 21, 22, 23, 24, 25, 26, 27, 28, 29, 30, 31, 32, 33, 34, 35, 36, 37, 38, 40], [0, 1, 2, 3, 4, 5, 6, 7, 8, 9, 10, 11, 12, 13, 14, 15, 16, 17, 18, 19, 20, 21, 22, 23, 24, 25, 26, 27, 28, 29, 30, 31, 32, 33, 34, 35, 36, 37, 38, 39, 40, 41], [0, 1, 2, 3, 4, 5, 6, 7, 8, 9, 10, 11, 12, 13, 14, 15, 16, 17, 18, 19, 20, 21, 22, 23, 24, 25, 26, 27, 28, 29, 30, 31, 32, 33, 34, 35, 36, 37, 38, 39, 40, 41, 42], [0, 1, 2, 3, 4, 5, 6, 7, 8, 9, 10, 11, 12, 13, 14, 15, 16, 17, 18, 19, 20, 21, 22, 23, 24, 25, 26, 27, 28, 29, 30, 31, 32, 33, 34, 35, 36, 37, 38, 39, 40, 41, 42, 43], [0, 1, 2, 3, 4, 5, 6, 7, 8, 9, 10, 11, 12, 13, 14, 15, 16, 17, 18, 19, 20, 21, 22, 23, 24, 25, 26, 27, 28, 29, 30, 31, 32, 33, 34, 35, 36, 37, 38], [0, 1, 2, 3, 4, 5, 6, 7, 8, 9, 10, 11, 12, 13, 14, 15, 16, 17, 18, 19, 20, 21, 22, 23, 24, 25, 26, 27, 28, 29, 30, 31, 32, 33, 34, 35, 36, 37, 38, 45], [0, 1, 2, 3, 4, 5, 6, 7, 8, 9, 10, 11, 12, 13, 14, 15, 16, 17, 18, 19, 20, 21, 22, 23, 24, 25, 26, 27, 28, 29, 30, 31, 32, 33, 34, 35, 36, 37, 38, 39, 40, 41, 42, 43, 44, 45, 46], [0, 1, 2, 3, 4, 5, 6, 7, 8, 9, 10, 11, 12, 13, 14, 15, 16, 17, 18, 19, 20, 21, 22, 23, 24, 25, 26, 27, 28, 29, 30, 31, 32, 33, 34, 35, 36, 37, 38, 39, 40, 41, 42, 43, 44, 45, 46, 47], [0, 1, 2, 3, 4, 5, 6, 7, 8, 9, 10, 11, 12, 13, 14, 15, 16, 17, 18, 19, 20, 21, 22, 23, 24, 25, 26, 27, 28, 29, 30, 31, 32, 33, 34, 35, 36, 37, 38, 39, 40, 41, 42, 43, 44, 45, 46, 47, 48], [0, 1, 2, 3, 4, 5, 6, 7, 8, 9, 10, 11, 12, 13, 14, 15, 16, 17, 18, 19, 20, 21, 22, 23, 24, 25, 26, 27, 28, 29, 30, 31, 32, 33, 34, 35, 36, 37, 38, 39, 40, 41, 42, 43, 44, 45, 46, 47, 48, 49], [0, 1, 2, 3, 4, 5, 6, 7, 8, 9, 10, 11, 12, 13, 14, 15, 16, 17, 18, 19, 20, 21, 22, 23, 24, 25, 26, 27, 28, 29, 30, 31, 32, 33, 34, 35, 36, 37, 38, 39, 40, 41, 42, 43, 44, 45, 46, 47, 48, 49, 50]], [.light, .light, .light, .mem, .light, .light, .light, .mem, .light, .light, .light, .light, .mem, .light, .light, .light, .light, .light, .light, .light, .light, .light, .light, .light, .mem, .light, .mem, .light, .light, .light, .light, .light, .light, .light, .mem, .light, .mem, .light, .light, .light, .light, .light, .light, .light, .mem, .light, .mem, .light, .light, .light, .light, .light]⟩ (by kernel_rfl) rfl rfl mix ?_
        refine dr_light rfl rfl (wtd_none rfl) (x_move rfl) ?_
        refine dr_cmp rfl rfl (wtd_none rfl) (x_ne rfl rfl) (fun h10 => absurd h10 (by first | omega | decide)) (fun h10 => ?_)
        refine dr_light rfl rfl (wtd_none rfl) (x_move rfl) ?_
        refine dr_mem0 rfl rfl (wtd_yes rfl rfl rfl) (x_loadN ag91 sz91 rfl (cells_ext (by repeat (first | exact List.mem_cons_self | apply List.mem_cons_of_mem | apply List.mem_append_right)) (by repeat (first | exact Ext.all _ | exact Ext.done | apply Ext.take | apply Ext.skip))) rfl) ?_
        refine dr_light rfl rfl (wtd_yes rfl rfl rfl) (x_move rfl) ?_
        refine dr_light rfl rfl (wtd_yes rfl rfl rfl) (x_move rfl) ?_
        refine dr_light rfl rfl (wtd_yes rfl rfl rfl) (x_indexAddrN (m) Try.underlying22 sz91 rfl hax rfl (by omega) (by omega)) ?_
        refine dr_mem0 rfl rfl (wtd_yes rfl rfl rfl) (x_loadN ag91 sz91 rfl (Cells.mono hcx (Sub.takeE0 (by repeat (first | exact TakeE.here | apply TakeE.there | apply TakeE.app)))) rfl) ?_
        refine dr_cmp rfl rfl (wtd_yes rfl rfl rfl) (x_neStruct Try.underlying91 ks91 rfl rfl rfl rfl rfl) (fun h11 => absurd h11 (by exact fun h => by rw [eqC_job] at h; cases h)) (fun h11 => ?_)
        refine dr_light rfl rfl (wtd_none rfl) (x_pick_f rfl rfl rfl) ?_
        refine dr_light rfl rfl (wtd_none rfl) (x_move rfl) ?_
        refine dr_light rfl rfl (wtd_yes rfl rfl rfl) (x_fieldAddr fd91_5 rfl) ?_
        refine dr_mem0 rfl rfl (wtd_yes rfl rfl rfl) (x_load ag3 rfl (cells_ext (by repeat (first | exact List.mem_cons_self | apply List.mem_cons_of_mem | apply List.mem_append_right)) (by repeat (first | exact Ext.all _ | exact Ext.done | apply Ext.take | apply Ext.skip)))) ?_
        refine dr_cmp rfl rfl (wtd_yes rfl rfl rfl) (x_ne rfl rfl) (fun h12 => absurd h12 (by first | omega | decide)) (fun h12 => ?_)
        refine dr_light rfl rfl (wtd_none rfl) (x_pick_f rfl rfl rfl) ?_
        refine dr_light rfl rfl (wtd_none rfl) (x_move rfl) ?_
        refine dr_light rfl rfl (wtd_yes rfl rfl rfl) (x_move rfl) ?_
        refine dr_cmp rfl rfl (wtd_yes rfl rfl rfl) (x_gt rfl rfl) (fun h13 => ?_) (fun h13 => ?_)
        · refine dr_light rfl rfl (wtd_yes rfl rfl rfl) (x_move rfl) ?_
          refine dr_light rfl rfl (wtd_yes rfl rfl rfl) (x_move rfl) ?_
          refine dr_light rfl rfl (wtd_yes rfl rfl rfl) (x_move rfl) ?_
          obtain ⟨y, hy⟩ := get_ex (show m - 1 < W.length by omega)
          obtain ⟨by_, oy, hay, hcy⟩ := (V6.slv' (W0 := W0) (xs := W) (fun _ => rfl) hWl.symm (Sub.refl _)).at_ (m - 1) _ hy
          have hxy := hwo (m - 1) x y (by rw [show m - 1 + 1 = m by omega]; exact hx) hy
          refine dr_light rfl rfl (wtd_yes rfl rfl rfl) (x_cast (u := .int .i64 ((m - 1 : Nat) : Int)) (x_sub' rfl rfl (i64w (by omega) (by omega))) (by congr 1; omega)) ?_
          refine dr_light rfl rfl (wtd_yes rfl rfl rfl) (x_indexAddrN (m - 1) Try.underlying22 sz91 rfl hay rfl (by omega) (by omega)) ?_
          refine dr_light rfl rfl (wtd_yes rfl rfl rfl) (x_fieldAddr fd91_4 rfl) ?_
          refine dr_mem0 rfl rfl (wtd_yes rfl rfl rfl) (x_load ag3 rfl (cells_get (Cells.mono hcy (Sub.takeE0 (by repeat (first | exact TakeE.here | apply TakeE.there | apply TakeE.app)))) 4 rfl)) ?_
          refine dr_light rfl rfl (wtd_yes rfl rfl rfl) (x_fieldAddr fd91_4 rfl) ?_
          refine dr_mem0 rfl rfl (wtd_yes rfl rfl rfl) (x_load ag3 rfl (cells_ext (by repeat (first | exact List.mem_cons_self | apply List.mem_cons_of_mem | apply List.mem_append_right)) (by repeat (first | exact Ext.all _ | exact Ext.done | apply Ext.take | apply Ext.skip)))) ?_
          refine dr_cmp rfl rfl (wtd_yes rfl rfl rfl) (x_lt rfl rfl) (fun h14 => absurd h14 (by first | omega | decide)) (fun h14 => ?_)
          refine dr_light rfl rfl (wtd_yes rfl rfl rfl) (x_move rfl) ?_
          refine dr_light rfl rfl (wtd_yes rfl rfl rfl) (x_move rfl) ?_
          refine dr_light rfl rfl (wtd_yes rfl rfl rfl) (x_move rfl) ?_
          refine dr_light rfl rfl (wtd_yes rfl rfl rfl) (x_cast (u := .int .i64 ((m - 1 : Nat) : Int)) (x_sub' rfl rfl (i64w (by omega) (by omega))) (by congr 1; omega)) ?_
          refine dr_light rfl rfl (wtd_yes rfl rfl rfl) (x_indexAddrN (m - 1) Try.underlying22 sz91 rfl hay rfl (by omega) (by omega)) ?_
          refine dr_light rfl rfl (wtd_yes rfl rfl rfl) (x_fieldAddr fd91_4 rfl) ?_
          refine dr_mem0 rfl rfl (wtd_yes rfl rfl rfl) (x_load ag3 rfl (cells_get (Cells.mono hcy (Sub.takeE0 (by repeat (first | exact TakeE.here | apply TakeE.there | apply TakeE.app)))) 4 rfl)) ?_
          refine dr_light rfl rfl (wtd_yes rfl rfl rfl) (x_fieldAddr fd91_4 rfl) ?_
          refine dr_mem0 rfl rfl (wtd_yes rfl rfl rfl) (x_load ag3 rfl (cells_ext (by repeat (first | exact List.mem_cons_self | apply List.mem_cons_of_mem | apply List.mem_append_right)) (by repeat (first | exact Ext.all _ | exact Ext.done | apply Ext.take | apply Ext.skip)))) ?_
          refine dr_cmp rfl rfl (wtd_yes rfl rfl rfl) (x_eq rfl rfl) (fun h15 => ?_) (fun h15 => ?_)
          · refine dr_light rfl rfl (wtd_yes rfl rfl rfl) (x_move rfl) ?_
            refine dr_light rfl rfl (wtd_yes rfl rfl rfl) (x_move rfl) ?_
            refine dr_light rfl rfl (wtd_yes rfl rfl rfl) (x_move rfl) ?_
            refine dr_light rfl rfl (wtd_yes rfl rfl rfl) (x_cast (u := .int .i64 ((m - 1 : Nat) : Int)) (x_sub' rfl rfl (i64w (by omega) (by omega))) (by congr 1; omega)) ?_
            refine dr_light rfl rfl (wtd_yes rfl rfl rfl) (x_indexAddrN (m - 1) Try.underlying22 sz91 rfl hay rfl (by omega) (by omega)) ?_
            refine dr_light rfl rfl (wtd_yes rfl rfl rfl) (x_fieldAddr fd91_0 rfl) ?_
            refine dr_mem0 rfl rfl (wtd_yes rfl rfl rfl) (x_load ag3 rfl (cells_get (Cells.mono hcy (Sub.takeE0 (by repeat (first | exact TakeE.here | apply TakeE.there | apply TakeE.app)))) 0 rfl)) ?_
            refine dr_light rfl rfl (wtd_yes rfl rfl rfl) (x_fieldAddr fd91_0 rfl) ?_
            refine dr_mem0 rfl rfl (wtd_yes rfl rfl rfl) (x_load ag3 rfl (cells_ext (by repeat (first | exact List.mem_cons_self | apply List.mem_cons_of_mem | apply List.mem_append_right)) (by repeat (first | exact Ext.all _ | exact Ext.done | apply Ext.take | apply Ext.skip)))) ?_
            refine dr_cmp rfl rfl (wtd_yes rfl rfl rfl) (x_ge rfl rfl) (fun h16 => absurd h16 (by first | omega | decide)) (fun h16 => ?_)
            refine dr_light rfl rfl (wtd_yes rfl rfl rfl) (x_pick_t rfl rfl rfl) ?_
            refine dr_light rfl rfl (wtd_yes rfl rfl rfl) (x_pick_f rfl rfl rfl) ?_
            refine dr_light rfl rfl (wtd_yes rfl rfl rfl) (x_pick_t rfl rfl rfl) ?_
            refine dr_light rfl rfl (wtd_none rfl) (x_pick_f rfl rfl rfl) ?_
            refine dr_nil0 ?_
            refine aw_keep (keep_cons (t := 6) rfl (keep_cons (t := 7) rfl (keep_cons (t := 8) rfl (keep_cons (t := 14) rfl (keep_cons (t := 15) rfl (keep_cons (t := 16) rfl (keep_cons (t := 17) rfl (keep_cons (t := 104) rfl (keep_cons (t := 105) rfl (keep_cons (t := 106) rfl (keep_cons (t := 107) rfl (keep_cons (t := 110) rfl (keep_cons (t := 111) rfl (keep_cons (t := 112) rfl (keep_cons (t := 113) rfl (keep_cons (t := 114) rfl (keep_cons (t := 115) rfl (keep_cons (t := 116) rfl (keep_cons (t := 117) rfl (keep_cons (t := 118) rfl (keep_cons (t := 119) rfl (keep_cons (t := 120) rfl (keep_cons (t := 121) rfl (keep_cons (t := 122) rfl (keep_cons (t := 123) rfl (keep_cons (t := 124) rfl (keep_cons (t := 125) rfl (keep_cons (t := 126) rfl (keep_cons (t := 127) rfl (keep_cons (t := 128) rfl (keep_cons (t := 129) rfl (keep_cons (t := 130) rfl (keep_cons (t := 131) rfl (keep_cons (t := 132) rfl (keep_cons (t := 133) rfl (keep_cons (t := 134) rfl (keep_cons (t := 135) rfl (keep_cons (t := 136) rfl (keep_cons (t := 137) rfl (keep_cons (t := 138) rfl (keep_cons (t := 139) rfl (keep_cons (t := 140) rfl (keep_cons (t := 141) rfl (keep_cons (t := 142) rfl (keep_cons (t := 143) rfl (keep_cons (t := 144) rfl (keep_cons (t := 145) rfl (keep_cons (t := 146) rfl (keep_cons (t := 147) rfl (keep_cons (t := 148) rfl (keep_cons (t := 149) rfl (keep_cons (t := 150) rfl (keep_cons (t := 151) rfl (keep_cons (t := 152) rfl (keep_cons (t := 153) rfl (keep_cons (t := 154) rfl (keep_cons (t := 155) rfl (keep_cons (t := 156) rfl (keep_cons (t := 157) rfl (keep_cons (t := 158) rfl (keep_cons (t := 159) rfl (keep_cons (t := 160) rfl (keep_cons (t := 161) rfl (keep_cons (t := 162) rfl (keep_cons (t := 163) rfl (keep_cons (t := 164) rfl (keep_cons (t := 165) rfl (keep_cons (t := 166) rfl (keep_cons (t := 167) rfl (keep_cons (t := 168) rfl (keep_cons (t := 169) rfl (keep_cons (t := 170) rfl (keep_cons (t := 171) rfl keep_nil))))))))))))))))))))))))))))))))))))))))))))))))))))))))))))))))))))))))) ?_
            refine aw_false rfl ?_
            refine aw_skip ?_
            show AW _ _ _ _ _ _ _
            refine aw_region ?_
            refine sr_x rfl (wtd_none rfl) rfl (Rd.x (x_move rfl)) ?_
            refine sr_x rfl (wtd_none rfl) rfl (Rd.x (x_add' rfl rfl (i64w (by omega) (by omega)))) ?_
            refine sr_x rfl (wtd_none rfl) rfl (Rd.x (x_assign rfl)) ?_
            refine sr_nil ?_
            show ∃ s', _ ∧ _ ∧ _ ∧ _
            exact ⟨m + 1, by omega, by omega, (by (repeat (first | exact keep_nil | refine keep_cons rfl ?_)); first | done | fail), (by repeat (first | exact Sub.refl _ | refine Sub.take (by repeat (first | exact Take.here | apply Take.there | apply Take.app)) ?_ | refine Sub.takeE (by repeat (first | exact TakeE.here | apply TakeE.there | apply TakeE.app)) ?_ | exact Sub.nil _ | apply Sub.drop | apply Sub.dropE))⟩
          · refine dr_light rfl rfl (wtd_yes rfl rfl rfl) (x_move rfl) ?_
            refine dr_skip rfl (wtd_no rfl rfl rfl rfl) ?_
            refine dr_skip rfl (wtd_no rfl rfl rfl rfl) ?_
            refine dr_skip rfl (wtd_no rfl rfl rfl rfl) ?_
            refine dr_skip rfl (wtd_no rfl rfl rfl rfl) ?_
            refine dr_skip rfl (wtd_no rfl rfl rfl rfl) ?_
            refine dr_skip rfl (wtd_no rfl rfl rfl rfl) ?_
            refine dr_skip rfl (wtd_no rfl rfl rfl rfl) ?_
            refine dr_skip rfl (wtd_no rfl rfl rfl rfl) ?_
            refine dr_skip rfl (wtd_no rfl rfl rfl rfl) ?_
            refine dr_light rfl rfl (wtd_yes rfl rfl rfl) (x_pick_f rfl rfl rfl) ?_
            refine dr_light rfl rfl (wtd_yes rfl rfl rfl) (x_pick_f rfl rfl rfl) ?_
            refine dr_light rfl rfl (wtd_yes rfl rfl rfl) (x_pick_t rfl rfl rfl) ?_
            refine dr_light rfl rfl (wtd_none rfl) (x_pick_f rfl rfl rfl) ?_
            refine dr_nil0 ?_
            refine aw_keep (keep_cons (t := 6) rfl (keep_cons (t := 7) rfl (keep_cons (t := 8) rfl (keep_cons (t := 14) rfl (keep_cons (t := 15) rfl (keep_cons (t := 16) rfl (keep_cons (t := 17) rfl (keep_cons (t := 104) rfl (keep_cons (t := 105) rfl (keep_cons (t := 106) rfl (keep_cons (t := 107) rfl (keep_cons (t := 110) rfl (keep_cons (t := 111) rfl (keep_cons (t := 112) rfl (keep_cons (t := 113) rfl (keep_cons (t := 114) rfl (keep_cons (t := 115) rfl (keep_cons (t := 116) rfl (keep_cons (t := 117) rfl (keep_cons (t := 118) rfl (keep_cons (t := 119) rfl (keep_cons (t := 120) rfl (keep_cons (t := 121) rfl (keep_cons (t := 122) rfl (keep_cons (t := 123) rfl (keep_cons (t := 124) rfl (keep_cons (t := 125) rfl (keep_cons (t := 126) rfl (keep_cons (t := 127) rfl (keep_cons (t := 128) rfl (keep_cons (t := 129) rfl (keep_cons (t := 130) rfl (keep_cons (t := 131) rfl (keep_cons (t := 132) rfl (keep_cons (t := 133) rfl (keep_cons (t := 134) rfl (keep_cons (t := 135) rfl (keep_cons (t := 136) rfl (keep_cons (t := 137) rfl (keep_cons (t := 138) rfl (keep_cons (t := 139) rfl (keep_cons (t := 140) rfl (keep_cons (t := 141) rfl (keep_cons (t := 142) rfl (keep_cons (t := 143) rfl (keep_cons (t := 144) rfl (keep_cons (t := 145) rfl (keep_cons (t := 146) rfl (keep_cons (t := 147) rfl (keep_cons (t := 148) rfl (keep_cons (t := 149) rfl (keep_cons (t := 150) rfl (keep_cons (t := 151) rfl (keep_cons (t := 152) rfl (keep_cons (t := 153) rfl (keep_cons (t := 154) rfl (keep_cons (t := 155) rfl (keep_cons (t := 156) rfl (keep_cons (t := 157) rfl (keep_cons (t := 158) rfl (keep_cons (t := 159) rfl (keep_cons (t := 160) rfl (keep_cons (t := 161) rfl (keep_cons (t := 162) rfl (keep_cons (t := 163) rfl (keep_cons (t := 164) rfl (keep_cons (t := 165) rfl (keep_cons (t := 166) rfl (keep_cons (t := 167) rfl (keep_cons (t := 168) rfl (keep_cons (t := 169) rfl (keep_cons (t := 170) rfl (keep_cons (t := 171) rfl keep_nil))))))))))))))))))))))))))))))))))))))))))))))))))))))))))))))))))))))))) ?_
            refine aw_false rfl ?_
            refine aw_skip ?_
            show AW _ _ _ _ _ _ _
            refine aw_region ?_
            refine sr_x rfl (wtd_none rfl) rfl (Rd.x (x_move rfl)) ?_
            refine sr_x rfl (wtd_none rfl) rfl (Rd.x (x_add' rfl rfl (i64w (by omega) (by omega)))) ?_
            refine sr_x rfl (wtd_none rfl) rfl (Rd.x (x_assign rfl)) ?_
            refine sr_nil ?_
            show ∃ s', _ ∧ _ ∧ _ ∧ _
            exact ⟨m + 1, by omega, by omega, (by (repeat (first | exact keep_nil | refine keep_cons rfl ?_)); first | done | fail), (by repeat (first | exact Sub.refl _ | refine Sub.take (by repeat (first | exact Take.here | apply Take.there | apply Take.app)) ?_ | refine Sub.takeE (by repeat (first | exact TakeE.here | apply TakeE.there | apply TakeE.app)) ?_ | exact Sub.nil _ | apply Sub.drop | apply Sub.dropE))⟩
        · refine dr_light rfl rfl (wtd_yes rfl rfl rfl) (x_move rfl) ?_
          refine dr_skip rfl (wtd_no rfl rfl rfl rfl) ?_
          refine dr_skip rfl (wtd_no rfl rfl rfl rfl) ?_
          refine dr_skip rfl (wtd_no rfl rfl rfl rfl) ?_
          refine dr_skip rfl (wtd_no rfl rfl rfl rfl) ?_
          refine dr_skip rfl (wtd_no rfl rfl rfl rfl) ?_
          refine dr_skip rfl (wtd_no rfl rfl rfl rfl) ?_
          refine dr_skip rfl (wtd_no rfl rfl rfl rfl) ?_
          refine dr_skip rfl (wtd_no rfl rfl rfl rfl) ?_
          refine dr_skip rfl (wtd_no rfl rfl rfl rfl) ?_
          refine dr_skip rfl (wtd_no rfl rfl rfl rfl) ?_
          refine dr_skip rfl (wtd_un rfl rfl rfl) ?_
          refine dr_skip rfl (wtd_un rfl rfl rfl) ?_
          refine dr_skip rfl (wtd_un rfl rfl rfl) ?_
          refine dr_skip rfl (wtd_un rfl rfl rfl) ?_
          refine dr_skip rfl (wtd_un rfl rfl rfl) ?_
          refine dr_skip rfl (wtd_un rfl rfl rfl) ?_
          refine dr_skip rfl (wtd_un rfl rfl rfl) ?_
          refine dr_skip rfl (wtd_un rfl rfl rfl) ?_
          refine dr_skip rfl (wtd_un rfl rfl rfl) ?_
          refine dr_skip rfl (wtd_un rfl rfl rfl) ?_
          refine dr_skip rfl (wtd_un rfl rfl rfl) ?_
          refine dr_skip rfl (wtd_un rfl rfl rfl) ?_
          refine dr_skip rfl (wtd_un rfl rfl rfl) ?_
          refine dr_skip rfl (wtd_un rfl rfl rfl) ?_
          refine dr_skip rfl (wtd_un rfl rfl rfl) ?_
          refine dr_skip rfl (wtd_un rfl rfl rfl) ?_
          refine dr_skip rfl (wtd_un rfl rfl rfl) ?_
          refine dr_skip rfl (wtd_un rfl rfl rfl) ?_
          refine dr_skip rfl (wtd_un rfl rfl rfl) ?_
          refine dr_skip rfl (wtd_un rfl rfl rfl) ?_
          refine dr_skip rfl (wtd_no rfl rfl rfl rfl) ?_
          refine dr_light rfl rfl (wtd_yes rfl rfl rfl) (x_pick_f rfl rfl rfl) ?_
          refine dr_light rfl rfl (wtd_none rfl) (x_pick_f rfl rfl rfl) ?_
          refine dr_nil0 ?_
          refine aw_keep (keep_cons (t := 6) rfl (keep_cons (t := 7) rfl (keep_cons (t := 8) rfl (keep_cons (t := 14) rfl (keep_cons (t := 15) rfl (keep_cons (t := 16) rfl (keep_cons (t := 17) rfl (keep_cons (t := 104) rfl (keep_cons (t := 105) rfl (keep_cons (t := 106) rfl (keep_cons (t := 107) rfl (keep_cons (t := 110) rfl (keep_cons (t := 111) rfl (keep_cons (t := 112) rfl (keep_cons (t := 113) rfl (keep_cons (t := 114) rfl (keep_cons (t := 115) rfl (keep_cons (t := 116) rfl (keep_cons (t := 117) rfl (keep_cons (t := 118) rfl (keep_cons (t := 119) rfl (keep_cons (t := 120) rfl (keep_cons (t := 121) rfl (keep_cons (t := 122) rfl (keep_cons (t := 123) rfl (keep_cons (t := 124) rfl (keep_cons (t := 125) rfl (keep_cons (t := 126) rfl (keep_cons (t := 127) rfl (keep_cons (t := 128) rfl (keep_cons (t := 129) rfl (keep_cons (t := 130) rfl (keep_cons (t := 131) rfl (keep_cons (t := 132) rfl (keep_cons (t := 133) rfl (keep_cons (t := 134) rfl (keep_cons (t := 135) rfl (keep_cons (t := 136) rfl (keep_cons (t := 137) rfl (keep_cons (t := 138) rfl (keep_cons (t := 139) rfl (keep_cons (t := 140) rfl (keep_cons (t := 141) rfl (keep_cons (t := 142) rfl (keep_cons (t := 143) rfl (keep_cons (t := 144) rfl (keep_cons (t := 145) rfl (keep_cons (t := 146) rfl (keep_cons (t := 147) rfl (keep_cons (t := 148) rfl (keep_cons (t := 149) rfl (keep_cons (t := 150) rfl (keep_cons (t := 151) rfl (keep_cons (t := 152) rfl (keep_cons (t := 153) rfl (keep_cons (t := 154) rfl (keep_cons (t := 155) rfl (keep_cons (t := 156) rfl (keep_cons (t := 157) rfl (keep_cons (t := 158) rfl (keep_cons (t := 159) rfl (keep_cons (t := 160) rfl (keep_cons (t := 161) rfl (keep_cons (t := 162) rfl (keep_cons (t := 163) rfl (keep_cons (t := 164) rfl (keep_cons (t := 165) rfl (keep_cons (t := 166) rfl (keep_cons (t := 167) rfl (keep_cons (t := 168) rfl (keep_cons (t := 169) rfl (keep_cons (t := 170) rfl (keep_cons (t := 171) rfl keep_nil))))))))))))))))))))))))))))))))))))))))))))))))))))))))))))))))))))))))) ?_
          refine aw_false rfl ?_
          refine aw_skip ?_
          show AW _ _ _ _ _ _ _
          refine aw_region ?_
          refine sr_x rfl (wtd_none rfl) rfl (Rd.x (x_move rfl)) ?_
          refine sr_x rfl (wtd_none rfl) rfl (Rd.x (x_add' rfl rfl (i64w (by omega) (by omega)))) ?_
          refine sr_x rfl (wtd_none rfl) rfl (Rd.x (x_assign rfl)) ?_
          refine sr_nil ?_
          show ∃ s', _ ∧ _ ∧ _ ∧ _
          exact ⟨m + 1, by omega, by omega, (by (repeat (first | exact keep_nil | refine keep_cons rfl ?_)); first | done | fail), (by repeat (first | exact Sub.refl _ | refine Sub.take (by repeat (first | exact Take.here | apply Take.there | apply Take.app)) ?_ | refine Sub.takeE (by repeat (first | exact TakeE.here | apply TakeE.there | apply TakeE.app)) ?_ | exact Sub.nil _ | apply Sub.drop | apply Sub.dropE))⟩
      · refine sr_nil ?_
        refine aw_keep (keep_cons (t := 6) rfl (keep_cons (t := 7) rfl (keep_cons (t := 8) rfl (keep_cons (t := 14) rfl (keep_cons (t := 15) rfl (keep_cons (t := 104) rfl (keep_cons (t := 105) rfl (keep_cons (t := 106) rfl (keep_cons (t := 107) rfl keep_nil))))))))) ?_
        refine aw_false rfl ?_
        refine aw_exit ?_
        show AW _ _ _ _ _ _ _
        refine aw_seq_region ?_
        refine sr_x rfl (wtd_none rfl) rfl (Rd.x (x_move rfl)) ?_
        refine sr_d rfl (wtd_none rfl) rfl (opS_call rfl rfl rfl rfl cl78 (copy_s p aT cT jobs (aliveN jobs) _ (cells_ext (by repeat (first | exact List.mem_cons_self | apply List.mem_cons_of_mem | apply List.mem_append_right)) (by repeat (first | exact Ext.all _ | exact Ext.done | apply Ext.take | apply Ext.skip))) (VT.slv' (fun _ => rfl) rfl (Sub.takeE0 (by repeat (first | exact TakeE.here | apply TakeE.there | apply TakeE.app)))) (by omega))) ?_
        rintro _ _ ⟨rc, a7, c7, E7, rfl, V7, rfl⟩
        refine sr_x rfl (wtd_none rfl) rfl (Rd.x (x_assign rfl)) ?_
        refine sr_nil ?_
        refine aw_keep (keep_cons (t := 6) rfl (keep_cons (t := 7) rfl (keep_cons (t := 8) rfl (keep_cons (t := 18) rfl keep_nil)))) ?_
        refine aw_seq_region ?_
        refine sr_x rfl (wtd_none rfl) rfl (Rd.x (x_move rfl)) ?_
        refine sr_x rfl (wtd_none rfl) rfl (Rd.x (x_build zr36 rfl fl36 (by repeat (first | exact Parts.nil | (apply Parts.cons; rfl))) (by repeat (first | exact Fill.done | (apply Fill.part; rfl; rfl; rfl; focus (repeat (first | exact Spl.done | exact Spl.all rfl | apply Spl.put | apply Spl.skip))))))) ?_
        refine sr_d rfl (wtd_none rfl) rfl (opS_call rfl rfl rfl rfl cl34 (AC.sub (by repeat (first | exact Sub.refl _ | refine Sub.take (by repeat (first | exact Take.here | apply Take.there | apply Take.app)) ?_ | refine Sub.takeE (by repeat (first | exact TakeE.here | apply TakeE.there | apply TakeE.app)) ?_ | exact Sub.nil _ | apply Sub.drop | apply Sub.dropE)) (submit_f (p := rc) (G := tab p (.slice aT jobs.length cT) (aliveN jobs) :: (ET ++ (pl q (.slice aP jobs.length cP) :: (EP ++ [])))) (⟨0, 0, 0, 1, 1, 0, false, 0, 0⟩ : Request) V7 (by omega)))) ?_
        rintro _ _ ⟨a8, e8, js8, sl8, E8, hT8, VT8, rfl, rfl⟩
        obtain ⟨aT8, cT8, rfl⟩ := VT8.isSl
        refine sr_nil ?_
        refine aw_keep (keep_cons (t := 6) rfl (keep_cons (t := 7) rfl (keep_cons (t := 8) rfl (keep_cons (t := 18) rfl keep_nil)))) ?_
        refine aw_seq_region ?_
        refine sr_x rfl (wtd_none rfl) rfl (Rd.x (x_move rfl)) ?_
        refine sr_d rfl (wtd_none rfl) rfl (opS_call rfl rfl rfl rfl cl79 (AC.sub (by repeat (first | exact Sub.refl _ | refine Sub.take (by repeat (first | exact Take.here | apply Take.there | apply Take.app)) ?_ | refine Sub.takeE (by repeat (first | exact TakeE.here | apply TakeE.there | apply TakeE.app)) ?_ | exact Sub.nil _ | apply Sub.drop | apply Sub.dropE)) (hold_f (p := rc) (o := (⟨3, (⟨0, 0, 0, 1, 1, 0, false, 0, 0⟩ : Request), 1, 0, 0, 0⟩ : Op)) (G := tab p (.slice aT jobs.length cT) (aliveN jobs) :: (ET ++ (pl q (.slice aP jobs.length cP) :: (EP ++ [])))) VT8 rfl))) ?_
        rintro _ _ ⟨e9, js9, E9, hT9, rfl, VT9, rfl⟩
        refine sr_nil ?_
        refine aw_keep (keep_cons (t := 6) rfl (keep_cons (t := 7) rfl (keep_cons (t := 8) rfl keep_nil))) ?_
        refine aw_seq_dr ⟨_, 11, 189, [[], [0], [], [2], [2, 3], [2, 3, 4], [0, 1, 2, 3, 4, 5], [0, 1, 2, 3, 4, 5, 6], [0, 1, 2, 3, 4, 5, 6, 7], [0, 1, 2, 3, 4, 5, 6, 7, 8], [0, 1, 2, 3, 4, 5, 6, 7, 8, 9]], [.light, .call, .light, .light, .light, .mem, .call, .light, .call, .light, .light]⟩ (by kernel_rfl) rfl rfl mix ?_
        refine dr_light rfl rfl (wtd_none rfl) (x_move rfl) ?_
        refine dr_call rfl (V := []) rfl rfl (wtd_none rfl) (opS_F rfl rfl rfl rfl cl40 (all_s p aT cT jobs (aliveN jobs) _ (cells_ext (by repeat (first | exact List.mem_cons_self | apply List.mem_cons_of_mem | apply List.mem_append_right)) (by repeat (first | exact Ext.all _ | exact Ext.done | apply Ext.take | apply Ext.skip))) (VT.slv' (fun _ => rfl) rfl (Sub.takeE0 (by repeat (first | exact TakeE.here | apply TakeE.there | apply TakeE.app)))) (by omega))) (ownvec_freshE (by rw [flat_len (n := 10) (fun _ => rfl)]) (by omega)) ?_
        rintro _ EC ⟨aC, cC, VC, rfl⟩
        refine dr_light rfl rfl (wtd_none rfl) (x_move rfl) ?_
        refine dr_light rfl rfl (wtd_none rfl) (x_nilCheck rfl) ?_
        refine dr_light rfl rfl (wtd_none rfl) (x_fieldAddr fd50_0 rfl) ?_
        refine dr_mem rfl (V := []) rfl rfl (wtd_none rfl) (x_load ag22 rfl (cells_ext (by repeat (first | exact List.mem_cons_self | apply List.mem_cons_of_mem | apply List.mem_append_right)) (by repeat (first | exact Ext.all _ | exact Ext.done | apply Ext.take | apply Ext.skip)))) ?_
        refine dr_callq rfl (V := (EC ++ [])) rfl rfl rfl (wtd_none rfl) (opS_F rfl rfl rfl rfl cl39 (same_s aC aP cC cP jobs _ (VC.slv' (fun _ => rfl) rfl sub_news) ((VP.slv' (fun _ => rfl) rfl (Sub.takeE0 (by repeat (first | exact TakeE.here | apply TakeE.there | apply TakeE.app)))).mono (sub_right _ _)))) (⟨_, rfl⟩) ?_
        rintro _ rfl
        refine dr_light rfl rfl (wtd_none rfl) (x_move rfl) ?_
        refine dr_callq rfl (V := (EC ++ [])) rfl rfl rfl (wtd_yes rfl rfl rfl) (opS_F rfl rfl rfl rfl cl32 ((awake08_s _))) (⟨_, rfl⟩) ?_
        rintro _ rfl
        refine dr_light rfl rfl (wtd_none rfl) (x_pick_t rfl rfl rfl) ?_
        refine dr_light rfl rfl (wtd_none rfl) (x_assign rfl) ?_
        refine dr_drop ?_
        refine aw_keep (keep_cons (t := 6) rfl keep_nil) ?_
        refine aw_ret ?_
        show ∃ v H2, ResV _ _ _ _ _ _ v ∧ Sub H2 _ ∧ _
        exact ⟨_, [], resV rfl (.cons rfl .nil), (Sub.nil _), rfl⟩
  · refine sr_x rfl (wtd_none rfl) rfl (Rd.x (x_move rfl)) ?_
    refine sr_skip rfl (wtd_no rfl rfl rfl rfl) rfl ?_
    refine sr_skip rfl (wtd_no rfl rfl rfl rfl) rfl ?_
    refine sr_x rfl (wtd_none rfl) rfl (Rd.x (x_pick_f rfl rfl rfl)) ?_
    refine sr_nil ?_
    refine aw_keep (keep_cons (t := 0) rfl (keep_cons (t := 1) rfl (keep_cons (t := 2) rfl (keep_cons (t := 6) rfl (keep_cons (t := 7) rfl (keep_cons (t := 8) rfl (keep_cons (t := 9) rfl (keep_cons (t := 22) rfl (keep_cons (t := 23) rfl (keep_cons (t := 24) rfl (keep_cons (t := 25) rfl (keep_cons (t := 26) rfl (keep_cons (t := 27) rfl (keep_cons (t := 28) rfl (keep_cons (t := 29) rfl keep_nil))))))))))))))) ?_
    refine aw_false rfl ?_
    refine aw_exit ?_
    show AW _ _ _ _ _ _ _
    refine aw_seq_region ?_
    refine sr_x rfl (wtd_none rfl) rfl (Rd.x (x_move rfl)) ?_
    refine sr_d rfl (wtd_none rfl) rfl (opS_call rfl rfl rfl rfl cl73 (counts_s p aT cT jobs (aliveN jobs) _ (cells_ext (by repeat (first | exact List.mem_cons_self | apply List.mem_cons_of_mem | apply List.mem_append_right)) (by repeat (first | exact Ext.all _ | exact Ext.done | apply Ext.take | apply Ext.skip))) (VT.slv' (fun _ => rfl) rfl (Sub.takeE0 (by repeat (first | exact TakeE.here | apply TakeE.there | apply TakeE.app)))) (by omega))) ?_
    rintro _ _ ⟨rfl, rfl⟩
    refine sr_x rfl (wtd_none rfl) rfl (Rd.x (x_move rfl)) ?_
    refine sr_x rfl (wtd_none rfl) rfl (Rd.x (x_extract rfl rfl)) ?_
    refine sr_x rfl (wtd_none rfl) rfl (Rd.x (x_extract rfl rfl)) ?_
    refine sr_x rfl (wtd_none rfl) rfl (Rd.x (x_extract rfl rfl)) ?_
    refine sr_x rfl (wtd_none rfl) rfl (Rd.x (x_assign rfl)) ?_
    refine sr_x rfl (wtd_none rfl) rfl (Rd.x (x_assign rfl)) ?_
    refine sr_x rfl (wtd_none rfl) rfl (Rd.x (x_assign rfl)) ?_
    refine sr_nil ?_
    refine aw_keep (keep_cons (t := 1) rfl (keep_cons (t := 2) rfl (keep_cons (t := 6) rfl (keep_cons (t := 7) rfl (keep_cons (t := 8) rfl (keep_cons (t := 11) rfl (keep_cons (t := 12) rfl (keep_cons (t := 13) rfl keep_nil)))))))) ?_
    refine aw_seq ?_
    refine aw_seq_region ?_
    refine sr_x rfl (wtd_none rfl) rfl (Rd.x (x_move rfl)) ?_
    refine sr_x rfl (wtd_none rfl) rfl (Rd.x (x_move rfl)) ?_
    refine sr_x rfl (wtd_none rfl) rfl (Rd.x (x_move rfl)) ?_
    refine sr_new rfl (wtd_none rfl) rfl (x_buildSlice Try.underlying134 sz3 zr3 rfl rfl rfl rfl (by repeat (first | exact Parts.nil | (apply Parts.cons; rfl))) (by repeat (first | exact Fill.done | (apply Fill.part; rfl; rfl; rfl; focus (repeat (first | exact Spl.done | exact Spl.all rfl | apply Spl.put | apply Spl.skip)))))) ?_
    intro r13_3 hr13_3 gr13_3
    refine sr_d rfl (wtd_none rfl) rfl (opS_call rfl rfl rfl rfl cl74 (in_s p aT cT jobs (aliveN jobs) _ (cells_ext (by repeat (first | exact List.mem_cons_self | apply List.mem_cons_of_mem | apply List.mem_append_right)) (by repeat (first | exact Ext.all _ | exact Ext.done | apply Ext.take | apply Ext.skip))) (VT.slv' (fun _ => rfl) rfl (Sub.takeE0 (by repeat (first | exact TakeE.here | apply TakeE.there | apply TakeE.app)))) (by omega) r13_3 2 2 [x0, y0] (inP x0 y0) (inP_two x0 y0) rfl (by omega) (cells_ext (by repeat (first | exact List.mem_cons_self | apply List.mem_cons_of_mem | apply List.mem_append_right)) (by repeat (first | exact Ext.all _ | exact Ext.done | apply Ext.take | apply Ext.skip))))) ?_
    rintro _ _ ⟨a68, c68, E68, rfl, V68, rfl⟩
    refine sr_x rfl (wtd_none rfl) rfl (Rd.x (x_move rfl)) ?_
    refine sr_x rfl (wtd_none rfl) rfl (Rd.x (x_move rfl)) ?_
    refine sr_x rfl (wtd_none rfl) rfl (Rd.x (x_move rfl)) ?_
    refine sr_d rfl (wtd_none rfl) rfl (opS_call rfl rfl rfl rfl cl75 (pin_s q aP cP jobs _ (cells_ext (by repeat (first | exact List.mem_cons_self | apply List.mem_cons_of_mem | apply List.mem_append_right)) (by repeat (first | exact Ext.all _ | exact Ext.done | apply Ext.take | apply Ext.skip))) (VP.slv' (fun _ => rfl) rfl (Sub.takeE0 (by repeat (first | exact TakeE.here | apply TakeE.there | apply TakeE.app)))) (by omega) x0 y0)) ?_
    rintro _ _ ⟨a72, c72, E72, rfl, V72, rfl⟩
    refine sr_d rfl (wtd_none rfl) rfl (opS_call rfl rfl rfl rfl cl39 (same_s a68 a72 c68 c72 (jobs.filter (inP x0 y0)) _ (V68.slv' (fun _ => rfl) rfl (Sub.takeE0 (by repeat (first | exact TakeE.here | apply TakeE.there | apply TakeE.app)))) (V72.slv' (fun _ => rfl) rfl (Sub.takeE0 (by repeat (first | exact TakeE.here | apply TakeE.there | apply TakeE.app)))))) ?_
    rintro _ _ ⟨rfl, rfl⟩
    refine sr_x rfl (wtd_none rfl) rfl (Rd.x (x_not rfl)) ?_
    refine sr_x rfl (wtd_none rfl) rfl (Rd.x (x_move rfl)) ?_
    refine sr_x rfl (wtd_yes rfl rfl rfl) rfl (Rd.x (x_move rfl)) ?_
    refine sr_x rfl (wtd_yes rfl rfl rfl) rfl (Rd.x (x_move rfl)) ?_
    refine sr_d rfl (wtd_yes rfl rfl rfl) rfl (opS_call rfl rfl rfl rfl cl75 (pin_s q aP cP jobs _ (cells_ext (by repeat (first | exact List.mem_cons_self | apply List.mem_cons_of_mem | apply List.mem_append_right)) (by repeat (first | exact Ext.all _ | exact Ext.done | apply Ext.take | apply Ext.skip))) (VP.slv' (fun _ => rfl) rfl (Sub.takeE0 (by repeat (first | exact TakeE.here | apply TakeE.there | apply TakeE.app)))) (by omega) 1 1)) ?_
    rintro _ _ ⟨a78, c78, E78, rfl, V78, rfl⟩
    refine sr_x rfl (wtd_yes rfl rfl rfl) rfl (Rd.x (x_lenSlice Try.underlying22 rfl)) ?_
    refine sr_cmp rfl (wtd_yes rfl rfl rfl) rfl (Rd.x (x_ne rfl rfl)) (fun h17 => absurd h17 (by first | omega | decide)) (fun h17 => ?_)
    refine sr_x rfl (wtd_none rfl) rfl (Rd.x (x_pick_f rfl rfl rfl)) ?_
    refine sr_x rfl (wtd_none rfl) rfl (Rd.x (x_move rfl)) ?_
    refine sr_x rfl (wtd_yes rfl rfl rfl) rfl (Rd.x (x_move rfl)) ?_
    refine sr_x rfl (wtd_yes rfl rfl rfl) rfl (Rd.x (x_move rfl)) ?_
    refine sr_d rfl (wtd_yes rfl rfl rfl) rfl (opS_call rfl rfl rfl rfl cl75 (pin_s q aP cP jobs _ (cells_ext (by repeat (first | exact List.mem_cons_self | apply List.mem_cons_of_mem | apply List.mem_append_right)) (by repeat (first | exact Ext.all _ | exact Ext.done | apply Ext.take | apply Ext.skip))) (VP.slv' (fun _ => rfl) rfl (Sub.takeE0 (by repeat (first | exact TakeE.here | apply TakeE.there | apply TakeE.app)))) (by omega) 2 2)) ?_
    rintro _ _ ⟨a85, c85, E85, rfl, V85, rfl⟩
    refine sr_x rfl (wtd_yes rfl rfl rfl) rfl (Rd.x (x_lenSlice Try.underlying22 rfl)) ?_
    refine sr_cmp rfl (wtd_yes rfl rfl rfl) rfl (Rd.x (x_ne rfl rfl)) (fun h18 => absurd h18 (by first | omega | decide)) (fun h18 => ?_)
    refine sr_x rfl (wtd_none rfl) rfl (Rd.x (x_pick_f rfl rfl rfl)) ?_
    refine sr_x rfl (wtd_none rfl) rfl (Rd.x (x_move rfl)) ?_
    refine sr_x rfl (wtd_yes rfl rfl rfl) rfl (Rd.x (x_move rfl)) ?_
    refine sr_x rfl (wtd_yes rfl rfl rfl) rfl (Rd.x (x_move rfl)) ?_
    refine sr_d rfl (wtd_yes rfl rfl rfl) rfl (opS_call rfl rfl rfl rfl cl75 (pin_s q aP cP jobs _ (cells_ext (by repeat (first | exact List.mem_cons_self | apply List.mem_cons_of_mem | apply List.mem_append_right)) (by repeat (first | exact Ext.all _ | exact Ext.done | apply Ext.take | apply Ext.skip))) (VP.slv' (fun _ => rfl) rfl (Sub.takeE0 (by repeat (first | exact TakeE.here | apply TakeE.there | apply TakeE.app)))) (by omega) 3 3)) ?_
    rintro _ _ ⟨a92, c92, E92, rfl, V92, rfl⟩
    refine sr_x rfl (wtd_yes rfl rfl rfl) rfl (Rd.x (x_lenSlice Try.underlying22 rfl)) ?_
    refine sr_cmp rfl (wtd_yes rfl rfl rfl) rfl (Rd.x (x_ne rfl rfl)) (fun h19 => absurd h19 (by first | omega | decide)) (fun h19 => ?_)
    refine sr_x rfl (wtd_none rfl) rfl (Rd.x (x_pick_f rfl rfl rfl)) ?_
    refine sr_nil ?_
    refine aw_keep (keep_cons (t := 6) rfl (keep_cons (t := 7) rfl (keep_cons (t := 8) rfl (keep_cons (t := 95) rfl keep_nil)))) ?_
    refine aw_false rfl ?_
    refine aw_skip ?_
    show AW _ _ _ _ _ _ _
    refine aw_seq_region ?_
    refine sr_x rfl (wtd_none rfl) rfl (Rd.x (x_move rfl)) ?_
    refine sr_d rfl (wtd_none rfl) rfl (opS_call rfl rfl rfl rfl cl76 (waiting_s p aT cT jobs (aliveN jobs) _ (cells_ext (by repeat (first | exact List.mem_cons_self | apply List.mem_cons_of_mem | apply List.mem_append_right)) (by repeat (first | exact Ext.all _ | exact Ext.done | apply Ext.take | apply Ext.skip))) (VT.slv' (fun _ => rfl) rfl (Sub.takeE0 (by repeat (first | exact TakeE.here | apply TakeE.there | apply TakeE.app)))) (by omega) (by omega))) ?_
    rintro _ _ ⟨W, a6, c6, E6, rfl, hst, hsr, V6, rfl⟩
    have hWl : W.length = (jobs.filter (inP 1 1)).length := hst.1.length_eq
    obtain ⟨hwm, hwo⟩ := wait_ok hids hst hsr
    have hfl := List.length_filter_le (inP 1 1) jobs
    refine sr_x rfl (wtd_none rfl) rfl (Rd.x (x_assign rfl)) ?_
    refine sr_nil ?_
    refine aw_keep (keep_cons (t := 6) rfl (keep_cons (t := 7) rfl (keep_cons (t := 8) rfl (keep_cons (t := 14) rfl keep_nil)))) ?_
    refine aw_seq ?_
    refine aw_seq_region ?_
    refine sr_x rfl (wtd_none rfl) rfl (Rd.x (x_move rfl)) ?_
    refine sr_x rfl (wtd_none rfl) rfl (Rd.x (x_lenSlice Try.underlying22 rfl)) ?_
    refine sr_x rfl (wtd_none rfl) rfl (Rd.x (x_move rfl)) ?_
    refine sr_d rfl (wtd_none rfl) rfl (opS_call rfl rfl rfl rfl cl75 (pin_s q aP cP jobs _ (cells_ext (by repeat (first | exact List.mem_cons_self | apply List.mem_cons_of_mem | apply List.mem_append_right)) (by repeat (first | exact Ext.all _ | exact Ext.done | apply Ext.take | apply Ext.skip))) (VP.slv' (fun _ => rfl) rfl (Sub.takeE0 (by repeat (first | exact TakeE.here | apply TakeE.there | apply TakeE.app)))) (by omega) 1 1)) ?_
    rintro _ _ ⟨a101, c101, E101, rfl, V101, rfl⟩
    refine sr_x rfl (wtd_none rfl) rfl (Rd.x (x_lenSlice Try.underlying22 rfl)) ?_
    refine sr_cmp rfl (wtd_none rfl) rfl (Rd.x (x_ne rfl rfl)) (fun h20 => absurd h20 (by first | omega | decide)) (fun h20 => ?_)
    refine sr_nil ?_
    refine aw_keep (keep_cons (t := 6) rfl (keep_cons (t := 7) rfl (keep_cons (t := 8) rfl (keep_cons (t := 14) rfl (keep_cons (t := 103) rfl keep_nil))))) ?_
    refine aw_false rfl ?_
    refine aw_skip ?_
    show AW _ _ _ _ _ _ _
    refine aw_seq ?_
    refine aw_seq_region ?_
    refine sr_x rfl (wtd_none rfl) rfl (Rd.x (x_assign rfl)) ?_
    refine sr_nil ?_
    refine aw_keep (keep_cons (t := 6) rfl (keep_cons (t := 7) rfl (keep_cons (t := 8) rfl (keep_cons (t := 14) rfl (keep_cons (t := 15) rfl keep_nil))))) ?_
    refine aw_block ?_
    refine aw_loop (ι := Nat) (fun m => m ≤ W.length) (fun m => [(6, .bool false), (7, .pointer (some ⟨p, 0, none⟩)), (8, .pointer (some ⟨q, 0, none⟩)), (14, .slice a6 (jobs.filter (inP 1 1)).length c6), (15, .int .i64 m)]) (fun _ => E6 ++ (tab p (.slice aT jobs.length cT) (aliveN jobs) :: (ET ++ (pl q (.slice aP jobs.length cP) :: (EP ++ []))))) (fun m => W.length - m) 0 (Nat.zero_le _) (by (repeat (first | exact keep_nil | refine keep_cons rfl ?_)); first | done | fail) (by repeat (first | exact Sub.refl _ | refine Sub.take (by repeat (first | exact Take.here | apply Take.there | apply Take.app)) ?_ | refine Sub.takeE (by repeat (first | exact TakeE.here | apply TakeE.there | apply TakeE.app)) ?_ | exact Sub.nil _ | apply Sub.drop | apply Sub.dropE)) ?_
    intro m hm
    refine aw_seq ?_
    refine aw_seq_region ?_
    refine sr_x rfl (wtd_none rfl) rfl (Rd.x (x_move rfl)) ?_
    refine sr_x rfl (wtd_none rfl) rfl (Rd.x (x_move rfl)) ?_
    refine sr_x rfl (wtd_none rfl) rfl (Rd.x (x_lenSlice Try.underlying22 rfl)) ?_
    refine sr_cmp rfl (wtd_none rfl) rfl (Rd.x (x_lt rfl rfl)) (fun h21 => ?_) (fun h21 => ?_)
    · refine sr_nil ?_
      refine aw_keep (keep_cons (t := 6) rfl (keep_cons (t := 7) rfl (keep_cons (t := 8) rfl (keep_cons (t := 14) rfl (keep_cons (t := 15) rfl (keep_cons (t := 104) rfl (keep_cons (t := 105) rfl (keep_cons (t := 106) rfl (keep_cons (t := 107) rfl keep_nil))))))))) ?_
      refine aw_true rfl ?_
      refine aw_skip ?_
      show AW _ _ _ _ _ _ _
      refine aw_seq ?_
      refine aw_block ?_
      refine aw_seq_region ?_
      obtain ⟨x, hx⟩ := get_ex (show m < W.length by omega)
      obtain ⟨bx, ox, hax, hcx⟩ := (V6.slv' (W0 := W0) (xs := W) (fun _ => rfl) hWl.symm (Sub.refl _)).at_ m _ hx
      have hle6 := (V6.slv' (W0 := W0) (xs := W) (fun _ => rfl) hWl.symm (Sub.refl _)).le
      have hcb6 := (V6.slv' (W0 := W0) (xs := W) (fun _ => rfl) hWl.symm (Sub.refl _)).capb
      have hxs := (hwm x (List.mem_of_getElem? hx)).2
      refine sr_x rfl (wtd_none rfl) rfl (Rd.x (x_move rfl)) ?_
      refine sr_x rfl (wtd_none rfl) rfl (Rd.x (x_move rfl)) ?_
      refine sr_x rfl (wtd_none rfl) rfl (Rd.x (x_move rfl)) ?_
      refine sr_x rfl (wtd_none rfl) rfl (Rd.x (x_indexAddrN (m) Try.underlying22 sz91 rfl hax rfl (by omega) (by omega))) ?_
      refine sr_x rfl (wtd_none rfl) rfl (Rd.x (x_fieldAddr fd91_0 rfl)) ?_
      refine sr_x rfl (wtd_none rfl) rfl (Rd.x (x_load ag3 rfl (cells_get (Cells.mono hcx (Sub.takeE0 (by repeat (first | exact TakeE.here | apply TakeE.there | apply TakeE.app)))) 0 rfl))) ?_
      refine sr_d rfl (wtd_none rfl) rfl (opS_call rfl rfl rfl rfl cl77 (getX_s p aT cT jobs (aliveN jobs) _ (cells_ext (by repeat (first | exact List.mem_cons_self | apply List.mem_cons_of_mem | apply List.mem_append_right)) (by repeat (first | exact Ext.all _ | exact Ext.done | apply Ext.take | apply Ext.skip))) (VT.slv' (fun _ => rfl) rfl (Sub.takeE0 (by repeat (first | exact TakeE.here | apply TakeE.there | apply TakeE.app)))) hids x (hwm x (List.mem_of_getElem? hx)).1)) ?_
      rintro _ H9 ⟨rfl, rfl⟩
      refine sr_x rfl (wtd_none rfl) rfl (Rd.x (x_move rfl)) ?_
      refine sr_x rfl (wtd_none rfl) rfl (Rd.x (x_extract rfl rfl)) ?_
      refine sr_x rfl (wtd_none rfl) rfl (Rd.x (x_extract rfl rfl)) ?_
      refine sr_new rfl (wtd_none rfl) rfl (x_alloc zr91 rfl) ?_
      intro r21_10 hr21_10 gr21_10
      refine sr_x0 rfl (wtd_none rfl) (x_store sz91 rfl rfl rfl rfl rfl (by repeat (first | exact Repl.here | apply Repl.there | apply Repl.app)) (by repeat (first | exact Spl.done | exact Spl.all rfl | apply Spl.put | apply Spl.skip))) ?_
      refine sr_x rfl (wtd_none rfl) rfl (Rd.x (x_assign rfl)) ?_
      refine sr_nil ?_
      refine aw_keep (keep_cons (t := 6) rfl (keep_cons (t := 7) rfl (keep_cons (t := 8) rfl (keep_cons (t := 14) rfl (keep_cons (t := 15) rfl (keep_cons (t := 16) rfl (keep_cons (t := 17) rfl (keep_cons (t := 104) rfl (keep_cons (t := 105) rfl (keep_cons (t := 106) rfl (keep_cons (t := 107) rfl (keep_cons (t := 110) rfl (keep_cons (t := 111) rfl (keep_cons (t := 112) rfl (keep_cons (t := 113) rfl (keep_cons (t := 114) rfl (keep_cons (t := 115) rfl (keep_cons (t := 116) rfl (keep_cons (t := 117) rfl (keep_cons (t := 118) rfl (keep_cons (t := 119) rfl keep_nil))))))))))))))))))))) ?_
      refine aw_seq_dr ⟨_, 52, 189, [[], [0], [0, 1], [0, 1, 2], [0, 1, 2], [0, 1, 2], [0, 1, 2, 4, 5], [0, 1, 2, 4, 5, 6], [0, 1, 2, 3, 4, 5, 6, 7], [0, 1, 2, 3, 4, 5, 6, 7, 8], [0, 1, 2, 3, 4, 5, 6, 7, 8, 9], [0, 1, 2, 3, 4, 5, 6, 7, 8, 9, 10], [0, 1, 2, 3, 4, 5, 6, 7, 8, 9, 10, 11], [0, 1, 2, 3, 4, 5, 6, 7, 8, 9, 10, 11, 12], [0, 1, 2, 3, 4, 5, 6, 7, 8, 9, 10, 11, 12, 13], [0, 1, 2, 3, 4, 5, 6, 7, 8, 9, 10, 11, 12, 13, 14], [0, 1, 2, 3, 4, 5, 6, 7, 8, 9, 10, 11, 12, 13, 14, 15], [0, 1, 2, 3, 4, 5, 6, 7, 8, 9, 10, 11, 12, 13, 14, 15, 16], [0, 1, 2, 3, 4, 5, 6, 7, 8, 9, 10, 11, 12, 13, 14, 15, 16, 17], [0, 1, 2, 3, 4, 5, 6, 7, 8, 9, 10, 11, 12, 13, 14, 15, 16, 17, 18], [0, 1, 2, 3, 4, 5, 6, 7, 8, 9, 10, 11, 12, 13, 14, 15, 16, 17, 18], [0, 1, 2, 3, 4, 5, 6, 7, 8, 9, 10, 11, 12, 13, 14, 15, 16, 17, 18, 20], [0, 1, 2, 3, 4, 5, 6, 7, 8, 9, 10, 11, 12, 13, 14, 15, 16, 17, 18, 19, 20, 21], [0, 1, 2, 3, 4, 5, 6, 7, 8, 9, 10, 11, 12, 13, 14, 15, 16, 17, 18, 19, 20, 21, 22], [0, 1, 2, 3, 4, 5, 6, 7, 8, 9, 10, 11, 12, 13, 14, 15, 16, 17, 18, 19, 20, 21, 22, 23], [0, 1, 2, 3, 4, 5, 6, 7, 8, 9, 10, 11, 12, 13, 14, 15, 16, 17, 18], [0, 1, 2, 3, 4, 5, 6, 7, 8, 9, 10, 11, 12, 13, 14, 15, 16, 17, 18, 25], [0, 1, 2, 3, 4, 5, 6, 7, 8, 9, 10, 11, 12, 13, 14, 15, 16, 17, 18, 19, 20, 21, 22, 23, 24, 25, 26], [0, 1, 2, 3, 4, 5, 6, 7, 8, 9, 10, 11, 12, 13, 14, 15, 16, 17, 18, 19, 20, 21, 22, 23, 24, 25, 26, 27], [0, 1, 2, 3, 4, 5, 6, 7, 8, 9, 10, 11, 12, 13, 14, 15, 16, 17, 18, 19, 20, 21, 22, 23, 24, 25, 26, 27, 28], [0, 1, 2, 3, 4, 5, 6, 7, 8, 9, 10, 11, 12, 13, 14, 15, 16, 17, 18, 19, 20, 21, 22, 23, 24, 25, 26, 27, 28], [0, 1, 2, 3, 4, 5, 6, 7, 8, 9, 10, 11, 12, 13, 14, 15, 16, 17, 18, 19, 20, 21, 22, 23, 24, 25, 26, 27, 28, 30], [0, 1, 2, 3, 4, 5, 6, 7, 8, 9, 10, 11, 12, 13, 14, 15, 16, 17, 18, 19, 20, 21, 22, 23, 24, 25, 26, 27, 28, 29, 30, 31], [0, 1, 2, 3, 4, 5, 6, 7, 8, 9, 10, 11, 12, 13, 14, 15, 16, 17, 18, 19, 20, 21, 22, 23, 24, 25, 26, 27, 28, 29, 30, 31, 32], [0, 1, 2, 3, 4, 5, 6, 7, 8, 9, 10, 11, 12, 13, 14, 15, 16, 17, 18, 19, 20, 21, 22, 23, 24, 25, 26, 27, 28, 29, 30, 31, 32, 33], [0, 1, 2, 3, 4, 5, 6, 7, 8, 9, 10, 11, 12, 13, 14, 15, 16, 17, 18, 19, 20, 21, 22, 23, 24, 25, 26, 27, 28], [0, 1, 2, 3, 4, 5, 6, 7, 8, 9, 10, 11, 12, 13, 14, 15, 16, 17, 18, 19, 20, 21, 22, 23, 24, 25, 26, 27, 28, 35], [0, 1, 2, 3, 4, 5, 6, 7, 8, 9, 10, 11, 12, 13, 14, 15, 16, 17, 18, 19, 20, 21, 22, 23, 24, 25, 26, 27, 28, 29, 30, 31, 32, 33, 34, 35, 36], [0, 1, 2, 3, 4, 5, 6, 7, 8, 9, 10, 11, 12, 13, 14, 15, 16, 17, 18, 19, 20, 21, 22, 23, 24, 25, 26, 27, 28, 29, 30, 31, 32, 33, 34, 35, 36, 37], [0, 1, 2, 3, 4, 5, 6, 7, 8, 9, 10, 11, 12, 13, 14, 15, 16, 17, 18, 19, 20, 21, 22, 23, 24, 25, 26, 27, 28, 29, 30, 31, 32, 33, 34, 35, 36, 37, 38], [0, 1, 2, 3, 4, 5, 6, 7, 8, 9, 10, 11, 12, 13, 14, 15, 16, 17, 18, 19, 20, 21, 22, 23, 24, 25, 26, 27, 28, 29, 30, 31, 32, 33, 34, 35, 36, 37, 38], [0, 1, 2, 3, 4, 5, 6, 7, 8, 9, 10, 11, 12, 13, 14, 15, 16, 17, 18, 19, 20, 21, 22, 23, 24, 25, 26, 27, 28, 29, 30, 31, 32, 33, 34, 35, 36, 37, 38, 40], [0, 1, 2, 3, 4, 5, 6, 7, 8, 9, 10, 11, 12, 13, 14, 15, 16, 17, 18, 19, 20, 21, 22, 23, 24, 25, 26, 27, 28, 29, 30, 31, 32, 33, 34, 35, 36, 37, 38, 39, 40, 41], [0, 1, 2, 3, 4, 5, 6, 7, 8, 9, 10, 11, 12, 13, 14, 15, 16, 17, 18, 19, 20, 21, 22, 23, 24, 25, 26, 27, 28, 29, 30, 31, 32, 33, 34, 35, 36, 37, 38, 39, 40, 41, 42], [0, 1, 2, 3, 4, 5, 6, 7, 8, 9, 10, 11, 12, 13, 14, 15, 16, 17, 18, 19, 20, 21, 22, 23, 24, 25, 26, 27, 28, 29, 30, 31, 32, 33, 34, 35, 36, 37, 38, 39, 40, 41, 42, 43], [0, 1, 2, 3, 4, 5, 6, 7, 8, 9, 10, 11, 12, 13, 14, 15, 16, 17, 18, 19, 20, 21, 22, 23, 24, 25, 26, 27, 28, 29, 30, 31, 32, 33, 34, 35, 36, 37, 38], [0, 1, 2, 3, 4, 5, 6, 7, 8, 9, 10, 11, 12, 13, 14, 15, 16, 17, 18, 19, 20, 21, 22, 23, 24, 25, 26, 27, 28, 29, 30, 31, 32, 33, 34, 35, 36, 37, 38, 45], [0, 1, 2, 3, 4, 5, 6, 7, 8, 9, 10, 11, 12, 13, 14, 15, 16, 17, 18, 19, 20, 21, 22, 23, 24, 25, 26, 27, 28, 29, 30, 31, 32, 33, 34, 35, 36, 37, 38, 39, 40, 41, 42, 43, 44, 45, 46], [0, 1, 2, 3, 4, 5, 6, 7, 8, 9, 10, 11, 12, 13, 14, 15, 16, 17, 18, 19, 20, 21, 22, 23, 24, 25, 26, 27, 28, 29, 30, 31, 32, 33, 34, 35, 36, 37, 38, 39, 40, 41, 42, 43, 44, 45, 46, 47], [0, 1, 2, 3, 4, 5, 6, 7, 8, 9, 10, 11, 12, 13, 14, 15, 16, 17, 18, 19, 20, 21, 22, 23, 24, 25, 26, 27, 28, 29, 30, 31, 32, 33, 34, 35, 36, 37, 38, 39, 40, 41, 42, 43, 44, 45, 46, 47, 48], [0, 1, 2, 3, 4, 5, 6, 7, 8, 9, 10, 11, 12, 13, 14, 15, 16, 17, 18, 19, 20, 21, 22, 23, 24, 25, 26, 27, 28, 29, 30, 31, 32, 33, 34, 35, 36, 37, 38, 39, 40, 41, 42, 43, 44, 45, 46, 47, 48, 49], [0, 1, 2, 3, 4, 5, 6, 7, 8, 9, 10, 11, 12, 13, 14, 15, 16, 17, 18, 19, 20, 21, 22, 23, 24, 25, 26, 27, 28, 29, 30, 31, 32, 33, 34, 35, 36, 37, 38, 39, 40, 41, 42, 43, 44, 45, 46, 47, 48, 49, 50]], [.light, .light, .light, .mem, .light, .light, .light, .mem, .light, .light, .light, .light, .mem, .light, .light, .light, .light, .light, .light, .light, .light, .light, .light, .light, .mem, .light, .mem, .light, .light, .light, .light, .light, .light, .light, .mem, .light, .mem, .light, .light, .light, .light, .light, .light, .light, .mem, .light, .mem, .light, .light, .light, .light, .light]⟩ (by kernel_rfl) rfl rfl mix ?_
      refine dr_light rfl rfl (wtd_none rfl) (x_move rfl) ?_
      refine dr_cmp rfl rfl (wtd_none rfl) (x_ne rfl rfl) (fun h22 => absurd h22 (by first | omega | decide)) (fun h22 => ?_)
      refine dr_light rfl rfl (wtd_none rfl) (x_move rfl) ?_
      refine dr_mem0 rfl rfl (wtd_yes rfl rfl rfl) (x_loadN ag91 sz91 rfl (cells_ext (by repeat (first | exact List.mem_cons_self | apply List.mem_cons_of_mem | apply List.mem_append_right)) (by repeat (first | exact Ext.all _ | exact Ext.done | apply Ext.take | apply Ext.skip))) rfl) ?_
      refine dr_light rfl rfl (wtd_yes rfl rfl rfl) (x_move rfl) ?_
      refine dr_light rfl rfl (wtd_yes rfl rfl rfl) (x_move rfl) ?_
      refine dr_light rfl rfl (wtd_yes rfl rfl rfl) (x_indexAddrN (m) Try.underlying22 sz91 rfl hax rfl (by omega) (by omega)) ?_
      refine dr_mem0 rfl rfl (wtd_yes rfl rfl rfl) (x_loadN ag91 sz91 rfl (Cells.mono hcx (Sub.takeE0 (by repeat (first | exact TakeE.here | apply TakeE.there | apply TakeE.app)))) rfl) ?_
      refine dr_cmp rfl rfl (wtd_yes rfl rfl rfl) (x_neStruct Try.underlying91 ks91 rfl rfl rfl rfl rfl) (fun h23 => absurd h23 (by exact fun h => by rw [eqC_job] at h; cases h)) (fun h23 => ?_)
      refine dr_light rfl rfl (wtd_none rfl) (x_pick_f rfl rfl rfl) ?_
      refine dr_light rfl rfl (wtd_none rfl) (x_move rfl) ?_
      refine dr_light rfl rfl (wtd_yes rfl rfl rfl) (x_fieldAddr fd91_5 rfl) ?_
      refine dr_mem0 rfl rfl (wtd_yes rfl rfl rfl) (x_load ag3 rfl (cells_ext (by repeat (first | exact List.mem_cons_self | apply List.mem_cons_of_mem | apply List.mem_append_right)) (by repeat (first | exact Ext.all _ | exact Ext.done | apply Ext.take | apply Ext.skip)))) ?_
      refine dr_cmp rfl rfl (wtd_yes rfl rfl rfl) (x_ne rfl rfl) (fun h24 => absurd h24 (by first | omega | decide)) (fun h24 => ?_)
      refine dr_light rfl rfl (wtd_none rfl) (x_pick_f rfl rfl rfl) ?_
      refine dr_light rfl rfl (wtd_none rfl) (x_move rfl) ?_
      refine dr_light rfl rfl (wtd_yes rfl rfl rfl) (x_move rfl) ?_
      refine dr_cmp rfl rfl (wtd_yes rfl rfl rfl) (x_gt rfl rfl) (fun h25 => ?_) (fun h25 => ?_)
      · refine dr_light rfl rfl (wtd_yes rfl rfl rfl) (x_move rfl) ?_
        refine dr_light rfl rfl (wtd_yes rfl rfl rfl) (x_move rfl) ?_
        refine dr_light rfl rfl (wtd_yes rfl rfl rfl) (x_move rfl) ?_
        obtain ⟨y, hy⟩ := get_ex (show m - 1 < W.length by omega)
        obtain ⟨by_, oy, hay, hcy⟩ := (V6.slv' (W0 := W0) (xs := W) (fun _ => rfl) hWl.symm (Sub.refl _)).at_ (m - 1) _ hy
        have hxy := hwo (m - 1) x y (by rw [show m - 1 + 1 = m by omega]; exact hx) hy
        refine dr_light rfl rfl (wtd_yes rfl rfl rfl) (x_cast (u := .int .i64 ((m - 1 : Nat) : Int)) (x_sub' rfl rfl (i64w (by omega) (by omega))) (by congr 1; omega)) ?_
        refine dr_light rfl rfl (wtd_yes rfl rfl rfl) (x_indexAddrN (m - 1) Try.underlying22 sz91 rfl hay rfl (by omega) (by omega)) ?_
        refine dr_light rfl rfl (wtd_yes rfl rfl rfl) (x_fieldAddr fd91_4 rfl) ?_
        refine dr_mem0 rfl rfl (wtd_yes rfl rfl rfl) (x_load ag3 rfl (cells_get (Cells.mono hcy (Sub.takeE0 (by repeat (first | exact TakeE.here | apply TakeE.there | apply TakeE.app)))) 4 rfl)) ?_
        refine dr_light rfl rfl (wtd_yes rfl rfl rfl) (x_fieldAddr fd91_4 rfl) ?_
        refine dr_mem0 rfl rfl (wtd_yes rfl rfl rfl) (x_load ag3 rfl (cells_ext (by repeat (first | exact List.mem_cons_self | apply List.mem_cons_of_mem | apply List.mem_append_right)) (by repeat (first | exact Ext.all _ | exact Ext.done | apply Ext.take | apply Ext.skip)))) ?_
        refine dr_cmp rfl rfl (wtd_yes rfl rfl rfl) (x_lt rfl rfl) (fun h26 => absurd h26 (by first | omega | decide)) (fun h26 => ?_)
        refine dr_light rfl rfl (wtd_yes rfl rfl rfl) (x_move rfl) ?_
        refine dr_light rfl rfl (wtd_yes rfl rfl rfl) (x_move rfl) ?_
        refine dr_light rfl rfl (wtd_yes rfl rfl rfl) (x_move rfl) ?_
        refine dr_light rfl rfl (wtd_yes rfl rfl rfl) (x_cast (u := .int .i64 ((m - 1 : Nat) : Int)) (x_sub' rfl rfl (i64w (by omega) (by omega))) (by congr 1; omega)) ?_
        refine dr_light rfl rfl (wtd_yes rfl rfl rfl) (x_indexAddrN (m - 1) Try.underlying22 sz91 rfl hay rfl (by omega) (by omega)) ?_
        refine dr_light rfl rfl (wtd_yes rfl rfl rfl) (x_fieldAddr fd91_4 rfl) ?_
        refine dr_mem0 rfl rfl (wtd_yes rfl rfl rfl) (x_load ag3 rfl (cells_get (Cells.mono hcy (Sub.takeE0 (by repeat (first | exact TakeE.here | apply TakeE.there | apply TakeE.app)))) 4 rfl)) ?_
        refine dr_light rfl rfl (wtd_yes rfl rfl rfl) (x_fieldAddr fd91_4 rfl) ?_
        refine dr_mem0 rfl rfl (wtd_yes rfl rfl rfl) (x_load ag3 rfl (cells_ext (by repeat (first | exact List.mem_cons_self | apply List.mem_cons_of_mem | apply List.mem_append_right)) (by repeat (first | exact Ext.all _ | exact Ext.done | apply Ext.take | apply Ext.skip)))) ?_
        refine dr_cmp rfl rfl (wtd_yes rfl rfl rfl) (x_eq rfl rfl) (fun h27 => ?_) (fun h27 => ?_)
        · refine dr_light rfl rfl (wtd_yes rfl rfl rfl) (x_move rfl) ?_
          refine dr_light rfl rfl (wtd_yes rfl rfl rfl) (x_move rfl) ?_
          refine dr_light rfl rfl (wtd_yes rfl rfl rfl) (x_move rfl) ?_
          refine dr_light rfl rfl (wtd_yes rfl rfl rfl) (x_cast (u := .int .i64 ((m - 1 : Nat) : Int)) (x_sub' rfl rfl (i64w (by omega) (by omega))) (by congr 1; omega)) ?_
          refine dr_light rfl rfl (wtd_yes rfl rfl rfl) (x_indexAddrN (m - 1) Try.underlying22 sz91 rfl hay rfl (by omega) (by omega)) ?_
          refine dr_light rfl rfl (wtd_yes rfl rfl rfl) (x_fieldAddr fd91_0 rfl) ?_
          refine dr_mem0 rfl rfl (wtd_yes rfl rfl rfl) (x_load ag3 rfl (cells_get (Cells.mono hcy (Sub.takeE0 (by repeat (first | exact TakeE.here | apply TakeE.there | apply TakeE.app)))) 0 rfl)) ?_
          refine dr_light rfl rfl (wtd_yes rfl rfl rfl) (x_fieldAddr fd91_0 rfl) ?_
          refine dr_mem0 rfl rfl (wtd_yes rfl rfl rfl) (x_load ag3 rfl (cells_ext (by repeat (first | exact List.mem_cons_self | apply List.mem_cons_of_mem | apply List.mem_append_right)) (by repeat (first | exact Ext.all _ | exact Ext.done | apply Ext.take | apply Ext.skip)))) ?_
          refine dr_cmp rfl rfl (wtd_yes rfl rfl rfl) (x_ge rfl rfl) (fun h28 => absurd h28 (by first | omega | decide)) (fun h28 => ?_)
          refine dr_light rfl rfl (wtd_yes rfl rfl rfl) (x_pick_t rfl rfl rfl) ?_
          refine dr_light rfl rfl (wtd_yes rfl rfl rfl) (x_pick_f rfl rfl rfl) ?_
          refine dr_light rfl rfl (wtd_yes rfl rfl rfl) (x_pick_t rfl rfl rfl) ?_
          refine dr_light rfl rfl (wtd_none rfl) (x_pick_f rfl rfl rfl) ?_
          refine dr_nil0 ?_
          refine aw_keep (keep_cons (t := 6) rfl (keep_cons (t := 7) rfl (keep_cons (t := 8) rfl (keep_cons (t := 14) rfl (keep_cons (t := 15) rfl (keep_cons (t := 16) rfl (keep_cons (t := 17) rfl (keep_cons (t := 104) rfl (keep_cons (t := 105) rfl (keep_cons (t := 106) rfl (keep_cons (t := 107) rfl (keep_cons (t := 110) rfl (keep_cons (t := 111) rfl (keep_cons (t := 112) rfl (keep_cons (t := 113) rfl (keep_cons (t := 114) rfl (keep_cons (t := 115) rfl (keep_cons (t := 116) rfl (keep_cons (t := 117) rfl (keep_cons (t := 118) rfl (keep_cons (t := 119) rfl (keep_cons (t := 120) rfl (keep_cons (t := 121) rfl (keep_cons (t := 122) rfl (keep_cons (t := 123) rfl (keep_cons (t := 124) rfl (keep_cons (t := 125) rfl (keep_cons (t := 126) rfl (keep_cons (t := 127) rfl (keep_cons (t := 128) rfl (keep_cons (t := 129) rfl (keep_cons (t := 130) rfl (keep_cons (t := 131) rfl (keep_cons (t := 132) rfl (keep_cons (t := 133) rfl (keep_cons (t := 134) rfl (keep_cons (t := 135) rfl (keep_cons (t := 136) rfl (keep_cons (t := 137) rfl (keep_cons (t := 138) rfl (keep_cons (t := 139) rfl (keep_cons (t := 140) rfl (keep_cons (t := 141) rfl (keep_cons (t := 142) rfl (keep_cons (t := 143) rfl (keep_cons (t := 144) rfl (keep_cons (t := 145) rfl (keep_cons (t := 146) rfl (keep_cons (t := 147) rfl (keep_cons (t := 148) rfl (keep_cons (t := 149) rfl (keep_cons (t := 150) rfl (keep_cons (t := 151) rfl (keep_cons (t := 152) rfl (keep_cons (t := 153) rfl (keep_cons (t := 154) rfl (keep_cons (t := 155) rfl (keep_cons (t := 156) rfl (keep_cons (t := 157) rfl (keep_cons (t := 158) rfl (keep_cons (t := 159) rfl (keep_cons (t := 160) rfl (keep_cons (t := 161) rfl (keep_cons (t := 162) rfl (keep_cons (t := 163) rfl (keep_cons (t := 164) rfl (keep_cons (t := 165) rfl (keep_cons (t := 166) rfl (keep_cons (t := 167) rfl (keep_cons (t := 168) rfl (keep_cons (t := 169) rfl (keep_cons (t := 170) rfl (keep_cons (t := 171) rfl keep_nil))))))))))))))))))))))))))))))))))))))))))))))))))))))))))))))))))))))))) ?_
          refine aw_false rfl ?_
          refine aw_skip ?_
          show AW _ _ _ _ _ _ _
          refine aw_region ?_
          refine sr_x rfl (wtd_none rfl) rfl (Rd.x (x_move rfl)) ?_
          refine sr_x rfl (wtd_none rfl) rfl (Rd.x (x_add' rfl rfl (i64w (by omega) (by omega)))) ?_
          refine sr_x rfl (wtd_none rfl) rfl (Rd.x (x_assign rfl)) ?_
          refine sr_nil ?_
          show ∃ s', _ ∧ _ ∧ _ ∧ _
          exact ⟨m + 1, by omega, by omega, (by (repeat (first | exact keep_nil | refine keep_cons rfl ?_)); first | done | fail), (by repeat (first | exact Sub.refl _ | refine Sub.take (by repeat (first | exact Take.here | apply Take.there | apply Take.app)) ?_ | refine Sub.takeE (by repeat (first | exact TakeE.here | apply TakeE.there | apply TakeE.app)) ?_ | exact Sub.nil _ | apply Sub.drop | apply Sub.dropE))⟩
        · refine dr_light rfl rfl (wtd_yes rfl rfl rfl) (x_move rfl) ?_
          refine dr_skip rfl (wtd_no rfl rfl rfl rfl) ?_
          refine dr_skip rfl (wtd_no rfl rfl rfl rfl) ?_
          refine dr_skip rfl (wtd_no rfl rfl rfl rfl) ?_
          refine dr_skip rfl (wtd_no rfl rfl rfl rfl) ?_
          refine dr_skip rfl (wtd_no rfl rfl rfl rfl) ?_
          refine dr_skip rfl (wtd_no rfl rfl rfl rfl) ?_
          refine dr_skip rfl (wtd_no rfl rfl rfl rfl) ?_
          refine dr_skip rfl (wtd_no rfl rfl rfl rfl) ?_
          refine dr_skip rfl (wtd_no rfl rfl rfl rfl) ?_
          refine dr_light rfl rfl (wtd_yes rfl rfl rfl) (x_pick_f rfl rfl rfl) ?_
          refine dr_light rfl rfl (wtd_yes rfl rfl rfl) (x_pick_f rfl rfl rfl) ?_
          refine dr_light rfl rfl (wtd_yes rfl rfl rfl) (x_pick_t rfl rfl rfl) ?_
          refine dr_light rfl rfl (wtd_none rfl) (x_pick_f rfl rfl rfl) ?_
          refine dr_nil0 ?_
          refine aw_keep (keep_cons (t := 6) rfl (keep_cons (t := 7) rfl (keep_cons (t := 8) rfl (keep_cons (t := 14) rfl (keep_cons (t := 15) rfl (keep_cons (t := 16) rfl (keep_cons (t := 17) rfl (keep_cons (t := 104) rfl (keep_cons (t := 105) rfl (keep_cons (t := 106) rfl (keep_cons (t := 107) rfl (keep_cons (t := 110) rfl (keep_cons (t := 111) rfl (keep_cons (t := 112) rfl (keep_cons (t := 113) rfl (keep_cons (t := 114) rfl (keep_cons (t := 115) rfl (keep_cons (t := 116) rfl (keep_cons (t := 117) rfl (keep_cons (t := 118) rfl (keep_cons (t := 119) rfl (keep_cons (t := 120) rfl (keep_cons (t := 121) rfl (keep_cons (t := 122) rfl (keep_cons (t := 123) rfl (keep_cons (t := 124) rfl (keep_cons (t := 125) rfl (keep_cons (t := 126) rfl (keep_cons (t := 127) rfl (keep_cons (t := 128) rfl (keep_cons (t := 129) rfl (keep_cons (t := 130) rfl (keep_cons (t := 131) rfl (keep_cons (t := 132) rfl (keep_cons (t := 133) rfl (keep_cons (t := 134) rfl (keep_cons (t := 135) rfl (keep_cons (t := 136) rfl (keep_cons (t := 137) rfl (keep_cons (t := 138) rfl (keep_cons (t := 139) rfl (keep_cons (t := 140) rfl (keep_cons (t := 141) rfl (keep_cons (t := 142) rfl (keep_cons (t := 143) rfl (keep_cons (t := 144) rfl (keep_cons (t := 145) rfl (keep_cons (t := 146) rfl (keep_cons (t := 147) rfl (keep_cons (t := 148) rfl (keep_cons (t := 149) rfl (keep_cons (t := 150) rfl (keep_cons (t := 151) rfl (keep_cons (t := 152) rfl (keep_cons (t := 153) rfl (keep_cons (t := 154) rfl (keep_cons (t := 155) rfl (keep_cons (t := 156) rfl (keep_cons (t := 157) rfl (keep_cons (t := 158) rfl (keep_cons (t := 159) rfl (keep_cons (t := 160) rfl (keep_cons (t := 161) rfl (keep_cons (t := 162) rfl (keep_cons (t := 163) rfl (keep_cons (t := 164) rfl (keep_cons (t := 165) rfl (keep_cons (t := 166) rfl (keep_cons (t := 167) rfl (keep_cons (t := 168) rfl (keep_cons (t := 169) rfl (keep_cons (t := 170) rfl (keep_cons (t := 171) rfl keep_nil))))))))))))))))))))))))))))))))))))))))))))))))))))))))))))))))))))))))) ?_
          refine aw_false rfl ?_
          refine aw_skip ?_
          show AW _ _ _ _ _ _ _
          refine aw_region ?_
          refine sr_x rfl (wtd_none rfl) rfl (Rd.x (x_move rfl)) ?_
          refine sr_x rfl (wtd_none rfl) rfl (Rd.x (x_add' rfl rfl (i64w (by omega) (by omega)))) ?_
          refine sr_x rfl (wtd_none rfl) rfl (Rd.x (x_assign rfl)) ?_
          refine sr_nil ?_
          show ∃ s', _ ∧ _ ∧ _ ∧ _
          exact ⟨m + 1, by omega, by omega, (by (repeat (first | exact keep_nil | refine keep_cons rfl ?_)); first | done | fail), (by repeat (first | exact Sub.refl _ | refine Sub.take (by repeat (first | exact Take.here | apply Take.there | apply Take.app)) ?_ | refine Sub.takeE (by repeat (first | exact TakeE.here | apply TakeE.there | apply TakeE.app)) ?_ | exact Sub.nil _ | apply Sub.drop | apply Sub.dropE))⟩
      · refine dr_light rfl rfl (wtd_yes rfl rfl rfl) (x_move rfl) ?_
        refine dr_skip rfl (wtd_no rfl rfl rfl rfl) ?_
        refine dr_skip rfl (wtd_no rfl rfl rfl rfl) ?_
        refine dr_skip rfl (wtd_no rfl rfl rfl rfl) ?_
        refine dr_skip rfl (wtd_no rfl rfl rfl rfl) ?_
        refine dr_skip rfl (wtd_no rfl rfl rfl rfl) ?_
        refine dr_skip rfl (wtd_no rfl rfl rfl rfl) ?_
        refine dr_skip rfl (wtd_no rfl rfl rfl rfl) ?_
        refine dr_skip rfl (wtd_no rfl rfl rfl rfl) ?_
        refine dr_skip rfl (wtd_no rfl rfl rfl rfl) ?_
        refine dr_skip rfl (wtd_no rfl rfl rfl rfl) ?_
        refine dr_skip rfl (wtd_un rfl rfl rfl) ?_
        refine dr_skip rfl (wtd_un rfl rfl rfl) ?_
        refine dr_skip rfl (wtd_un rfl rfl rfl) ?_
        refine dr_skip rfl (wtd_un rfl rfl rfl) ?_
        refine dr_skip rfl (wtd_un rfl rfl rfl) ?_
        refine dr_skip rfl (wtd_un rfl rfl rfl) ?_
        refine dr_skip rfl (wtd_un rfl rfl rfl) ?_
        refine dr_skip rfl (wtd_un rfl rfl rfl) ?_
        refine dr_skip rfl (wtd_un rfl rfl rfl) ?_
        refine dr_skip rfl (wtd_un rfl rfl rfl) ?_
        refine dr_skip rfl (wtd_un rfl rfl rfl) ?_
        refine dr_skip rfl (wtd_un rfl rfl rfl) ?_
        refine dr_skip rfl (wtd_un rfl rfl rfl) ?_
        refine dr_skip rfl (wtd_un rfl rfl rfl) ?_
        refine dr_skip rfl (wtd_un rfl rfl rfl) ?_
        refine dr_skip rfl (wtd_un rfl rfl rfl) ?_
        refine dr_skip rfl (wtd_un rfl rfl rfl) ?_
        refine dr_skip rfl (wtd_un rfl rfl rfl) ?_
        refine dr_skip rfl (wtd_un rfl rfl rfl) ?_
        refine dr_skip rfl (wtd_un rfl rfl rfl) ?_
        refine dr_skip rfl (wtd_no rfl rfl rfl rfl) ?_
        refine dr_light rfl rfl (wtd_yes rfl rfl rfl) (x_pick_f rfl rfl rfl) ?_
        refine dr_light rfl rfl (wtd_none rfl) (x_pick_f rfl rfl rfl) ?_
        refine dr_nil0 ?_
        refine aw_keep (keep_cons (t := 6) rfl (keep_cons (t := 7) rfl (keep_cons (t := 8) rfl (keep_cons (t := 14) rfl (keep_cons (t := 15) rfl (keep_cons (t := 16) rfl (keep_cons (t := 17) rfl (keep_cons (t := 104) rfl (keep_cons (t := 105) rfl (keep_cons (t := 106) rfl (keep_cons (t := 107) rfl (keep_cons (t := 110) rfl (keep_cons (t := 111) rfl (keep_cons (t := 112) rfl (keep_cons (t := 113) rfl (keep_cons (t := 114) rfl (keep_cons (t := 115) rfl (keep_cons (t := 116) rfl (keep_cons (t := 117) rfl (keep_cons (t := 118) rfl (keep_cons (t := 119) rfl (keep_cons (t := 120) rfl (keep_cons (t := 121) rfl (keep_cons (t := 122) rfl (keep_cons (t := 123) rfl (keep_cons (t := 124) rfl (keep_cons (t := 125) rfl (keep_cons (t := 126) rfl (keep_cons (t := 127) rfl (keep_cons (t := 128) rfl (keep_cons (t := 129) rfl (keep_cons (t := 130) rfl (keep_cons (t := 131) rfl (keep_cons (t := 132) rfl (keep_cons (t := 133) rfl (keep_cons (t := 134) rfl (keep_cons (t := 135) rfl (keep_cons (t := 136) rfl (keep_cons (t := 137) rfl (keep_cons (t := 138) rfl (keep_cons (t := 139) rfl (keep_cons (t := 140) rfl (keep_cons (t := 141) rfl (keep_cons (t := 142) rfl (keep_cons (t := 143) rfl (keep_cons (t := 144) rfl (keep_cons (t := 145) rfl (keep_cons (t := 146) rfl (keep_cons (t := 147) rfl (keep_cons (t := 148) rfl (keep_cons (t := 149) rfl (keep_cons (t := 150) rfl (keep_cons (t := 151) rfl (keep_cons (t := 152) rfl (keep_cons (t := 153) rfl (keep_cons (t := 154) rfl (keep_cons (t := 155) rfl (keep_cons (t := 156) rfl (keep_cons (t := 157) rfl (keep_cons (t := 158) rfl (keep_cons (t := 159) rfl (keep_cons (t := 160) rfl (keep_cons (t := 161) rfl (keep_cons (t := 162) rfl (keep_cons (t := 163) rfl (keep_cons (t := 164) rfl (keep_cons (t := 165) rfl (keep_cons (t := 166) rfl (keep_cons (t := 167) rfl (keep_cons (t := 168) rfl (keep_cons (t := 169) rfl (keep_cons (t := 170) rfl (keep_cons (t := 171) rfl keep_nil))))))))))))))))))))))))))))))))))))))))))))))))))))))))))))))))))))))))) ?_
        refine aw_false rfl ?_
        refine aw_skip ?_
        show AW _ _ _ _ _ _ _
        refine aw_region ?_
        refine sr_x rfl (wtd_none rfl) rfl (Rd.x (x_move rfl)) ?_
        refine sr_x rfl (wtd_none rfl) rfl (Rd.x (x_add' rfl rfl (i64w (by omega) (by omega)))) ?_
        refine sr_x rfl (wtd_none rfl) rfl (Rd.x (x_assign rfl)) ?_
        refine sr_nil ?_
        show ∃ s', _ ∧ _ ∧ _ ∧ _
        exact ⟨m + 1, by omega, by omega, (by (repeat (first | exact keep_nil | refine keep_cons rfl ?_)); first | done | fail), (by repeat (first | exact Sub.refl _ | refine Sub.take (by repeat (first | exact Take.here | apply Take.there | apply Take.app)) ?_ | refine Sub.takeE (by repeat (first | exact TakeE.here | apply TakeE.there | apply TakeE.app)) ?_ | exact Sub.nil _ | apply Sub.drop | apply Sub.dropE))⟩
    · refine sr_nil ?_
      refine aw_keep (keep_cons (t := 6) rfl (keep_cons (t := 7) rfl (keep_cons (t := 8) rfl (keep_cons (t := 14) rfl (keep_cons (t := 15) rfl (keep_cons (t := 104) rfl (keep_cons (t := 105) rfl (keep_cons (t := 106) rfl (keep_cons (t := 107) rfl keep_nil))))))))) ?_
      refine aw_false rfl ?_
      refine aw_exit ?_
      show AW _ _ _ _ _ _ _
      refine aw_seq_region ?_
      refine sr_x rfl (wtd_none rfl) rfl (Rd.x (x_move rfl)) ?_
      refine sr_d rfl (wtd_none rfl) rfl (opS_call rfl rfl rfl rfl cl78 (copy_s p aT cT jobs (aliveN jobs) _ (cells_ext (by repeat (first | exact List.mem_cons_self | apply List.mem_cons_of_mem | apply List.mem_append_right)) (by repeat (first | exact Ext.all _ | exact Ext.done | apply Ext.take | apply Ext.skip))) (VT.slv' (fun _ => rfl) rfl (Sub.takeE0 (by repeat (first | exact TakeE.here | apply TakeE.there | apply TakeE.app)))) (by omega))) ?_
      rintro _ _ ⟨rc, a7, c7, E7, rfl, V7, rfl⟩
      refine sr_x rfl (wtd_none rfl) rfl (Rd.x (x_assign rfl)) ?_
      refine sr_nil ?_
      refine aw_keep (keep_cons (t := 6) rfl (keep_cons (t := 7) rfl (keep_cons (t := 8) rfl (keep_cons (t := 18) rfl keep_nil)))) ?_
      refine aw_seq_region ?_
      refine sr_x rfl (wtd_none rfl) rfl (Rd.x (x_move rfl)) ?_
      refine sr_x rfl (wtd_none rfl) rfl (Rd.x (x_build zr36 rfl fl36 (by repeat (first | exact Parts.nil | (apply Parts.cons; rfl))) (by repeat (first | exact Fill.done | (apply Fill.part; rfl; rfl; rfl; focus (repeat (first | exact Spl.done | exact Spl.all rfl | apply Spl.put | apply Spl.skip))))))) ?_
      refine sr_d rfl (wtd_none rfl) rfl (opS_call rfl rfl rfl rfl cl34 (AC.sub (by repeat (first | exact Sub.refl _ | refine Sub.take (by repeat (first | exact Take.here | apply Take.there | apply Take.app)) ?_ | refine Sub.takeE (by repeat (first | exact TakeE.here | apply TakeE.there | apply TakeE.app)) ?_ | exact Sub.nil _ | apply Sub.drop | apply Sub.dropE)) (submit_f (p := rc) (G := tab p (.slice aT jobs.length cT) (aliveN jobs) :: (ET ++ (pl q (.slice aP jobs.length cP) :: (EP ++ [])))) (⟨0, 0, 0, 1, 1, 0, false, 0, 0⟩ : Request) V7 (by omega)))) ?_
      rintro _ _ ⟨a8, e8, js8, sl8, E8, hT8, VT8, rfl, rfl⟩
      obtain ⟨aT8, cT8, rfl⟩ := VT8.isSl
      refine sr_nil ?_
      refine aw_keep (keep_cons (t := 6) rfl (keep_cons (t := 7) rfl (keep_cons (t := 8) rfl (keep_cons (t := 18) rfl keep_nil)))) ?_
      refine aw_seq_region ?_
      refine sr_x rfl (wtd_none rfl) rfl (Rd.x (x_move rfl)) ?_
      refine sr_d rfl (wtd_none rfl) rfl (opS_call rfl rfl rfl rfl cl79 (AC.sub (by repeat (first | exact Sub.refl _ | refine Sub.take (by repeat (first | exact Take.here | apply Take.there | apply Take.app)) ?_ | refine Sub.takeE (by repeat (first | exact TakeE.here | apply TakeE.there | apply TakeE.app)) ?_ | exact Sub.nil _ | apply Sub.drop | apply Sub.dropE)) (hold_f (p := rc) (o := (⟨3, (⟨0, 0, 0, 1, 1, 0, false, 0, 0⟩ : Request), 1, 0, 0, 0⟩ : Op)) (G := tab p (.slice aT jobs.length cT) (aliveN jobs) :: (ET ++ (pl q (.slice aP jobs.length cP) :: (EP ++ [])))) VT8 rfl))) ?_
      rintro _ _ ⟨e9, js9, E9, hT9, rfl, VT9, rfl⟩
      refine sr_nil ?_
      refine aw_keep (keep_cons (t := 6) rfl (keep_cons (t := 7) rfl (keep_cons (t := 8) rfl keep_nil))) ?_
      refine aw_seq_dr ⟨_, 11, 189, [[], [0], [], [2], [2, 3], [2, 3, 4], [0, 1, 2, 3, 4, 5], [0, 1, 2, 3, 4, 5, 6], [0, 1, 2, 3, 4, 5, 6, 7], [0, 1, 2, 3, 4, 5, 6, 7, 8], [0, 1, 2, 3, 4, 5, 6, 7, 8, 9]], [.light, .call, .light, .light, .light, .mem, .call, .light, .call, .light, .light]⟩ (by kernel_rfl) rfl rfl mix ?_
      refine dr_light rfl rfl (wtd_none rfl) (x_move rfl) ?_
      refine dr_call rfl (V := []) rfl rfl (wtd_none rfl) (opS_F rfl rfl rfl rfl cl40 (all_s p aT cT jobs (aliveN jobs) _ (cells_ext (by repeat (first | exact List.mem_cons_self | apply List.mem_cons_of_mem | apply List.mem_append_right)) (by repeat (first | exact Ext.all _ | exact Ext.done | apply Ext.take | apply Ext.skip))) (VT.slv' (fun _ => rfl) rfl (Sub.takeE0 (by repeat (first | exact TakeE.here | apply TakeE.there | apply TakeE.app)))) (by omega))) (ownvec_freshE (by rw [flat_len (n := 10) (fun _ => rfl)]) (by omega)) ?_
      rintro _ EC ⟨aC, cC, VC, rfl⟩
      refine dr_light rfl rfl (wtd_none rfl) (x_move rfl) ?_
      refine dr_light rfl rfl (wtd_none rfl) (x_nilCheck rfl) ?_
      refine dr_light rfl rfl (wtd_none rfl) (x_fieldAddr fd50_0 rfl) ?_
      refine dr_mem rfl (V := []) rfl rfl (wtd_none rfl) (x_load ag22 rfl (cells_ext (by repeat (first | exact List.mem_cons_self | apply List.mem_cons_of_mem | apply List.mem_append_right)) (by repeat (first | exact Ext.all _ | exact Ext.done | apply Ext.take | apply Ext.skip)))) ?_
      refine dr_callq rfl (V := (EC ++ [])) rfl rfl rfl (wtd_none rfl) (opS_F rfl rfl rfl rfl cl39 (same_s aC aP cC cP jobs _ (VC.slv' (fun _ => rfl) rfl sub_news) ((VP.slv' (fun _ => rfl) rfl (Sub.takeE0 (by repeat (first | exact TakeE.here | apply TakeE.there | apply TakeE.app)))).mono (sub_right _ _)))) (⟨_, rfl⟩) ?_
      rintro _ rfl
      refine dr_light rfl rfl (wtd_none rfl) (x_move rfl) ?_
      refine dr_callq rfl (V := (EC ++ [])) rfl rfl rfl (wtd_yes rfl rfl rfl) (opS_F rfl rfl rfl rfl cl32 ((awake08_s _))) (⟨_, rfl⟩) ?_
      rintro _ rfl
      refine dr_light rfl rfl (wtd_none rfl) (x_pick_t rfl rfl rfl) ?_
      refine dr_light rfl rfl (wtd_none rfl) (x_assign rfl) ?_
      refine dr_drop ?_
      refine aw_keep (keep_cons (t := 6) rfl keep_nil) ?_
      refine aw_ret ?_
      show ∃ v H2, ResV _ _ _ _ _ _ v ∧ Sub H2 _ ∧ _
      exact ⟨_, [], resV rfl (.cons rfl .nil), (Sub.nil _), rfl⟩
end
namespace JobListsRow
open Go.ChangeShapes Go.WideShapes Go.ChangeAt Go.RowKit
theorem own : ownKnob Try.prog.godebug = none := by kernel_rfl
theorem laid : laidOutB Try.prog = true := by kernel_rfl
set_option maxRecDepth 100000 in
theorem lifted (os : Os) (started : os.Started) (H : Type) (enc : TypeId × Value → H) :
    ReturnsInHanded {} Try.checked os 13 .any (Rows.jobListsSpec.pre6 enc Try.prog Try.f13 Rows.jobListsRow.domain false) (Rows.jobListsSpec.post enc Try.prog Try.f13 false true false false) := by
  refine law_lifted (C := Try.checked) (tb := 4) own started (by kernel_rfl) Try.func13 (ChangeSpec.witness6 (enc := enc) (C := Try.checked) false ⟨#[], #[.slice none 0 0, .int .i64 0, .int .i64 0], []⟩ 8 (by kernel_rfl) (by kernel_rfl) (by kernel_rfl) (by kernel_rfl)) rfl Try.underlying4 rfl laid (by kernel_rfl) ?_ ?_
  · intro ds h
    match ds, h with
    | [a0, a1, a2], _ => rfl
  · intro W base args ds ps hval hA hlt hsz
    have hA' : DataW.TrodAll enc Try.prog W 0 (fun _ => true) true [47, 3, 3] args ds ps := hA
    clear hA
    obtain ⟨v0, vs0, d0, ds0, p0, q0, rfl, rfl, rfl, h0, r0⟩ := trodAll_cons hA'
    obtain ⟨v1, vs1, d1, ds1, p1, q1, rfl, rfl, rfl, h1, r1⟩ := trodAll_cons r0
    obtain ⟨v2, vs2, d2, ds2, p2, q2, rfl, rfl, rfl, h2, r2⟩ := trodAll_cons r1
    obtain ⟨rfl, rfl, rfl⟩ := trodAll_nil r2
    obtain ⟨a, cap, xs, rfl, hs, _⟩ := opn_slice Try.underlying47 cells53 (by decide) (fun fuel cs x h => read_Op h) (hval 0 47 v0 rfl rfl) h0
    obtain ⟨x0, rfl, _⟩ := opn_int Try.underlying3 (hval 1 3 v1 rfl rfl) h1
    obtain ⟨y0, rfl, _⟩ := opn_int Try.underlying3 (hval 2 3 v2 rfl rfl) h2
    exact jobLists_s a cap xs hs x0 y0
theorem joined : joinedFacts Try.prog 13 Try.f13 Rows.jobListsSpec Rows.jobListsRow = true := by
  unfold joinedFacts
  rw [cutMay, cutLif, cutMk]
  kernel_rfl
theorem over : Rows.jobListsRow.holds Try.pinned (OpenSpec.ofChange Rows.jobListsSpec) :=
  OpenClaim.holds_of_wide 13 Try.f13 rfl rfl rfl rfl rfl rfl rfl ⟨rfl, rfl, rfl, rfl, rfl⟩ rfl rfl rfl rfl rfl (by kernel_rfl) Try.func13 joined
    (of_decide_eq_true (by kernel_rfl)) (by unfold Func.isWrapper; first | (rw [if_pos (by decide +kernel)]; kernel_rfl) | (rw [if_neg (by decide +kernel)]; exact ⟨rfl, rfl⟩))
    (fun os started H enc _ => lifted os started H enc)
theorem proved : Rows.JobListsSaid := over
#print axioms proved
end JobListsRow
end Go.Proofs.Yteilocpjikmmdaa
