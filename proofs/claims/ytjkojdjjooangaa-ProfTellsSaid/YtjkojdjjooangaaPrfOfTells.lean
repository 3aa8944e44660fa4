/- How many nodes are free at any time, and at least between any two, behind any calls, is what the document's profile tells; a copy is one's own; no condition. -/
import Derived.Test.YtjkojdjjooangaaPrfHelp
import Derived.Test.YtjkojdjjooangaaCut
import Derived.Test.YtjkojdjjooangaaRows
namespace Go.Proofs.Ytjkojdjjooangaa
open Go.Proofs.Ytjkojdjjooangaa.Sym
open Go.RowKit (Below)
set_option linter.unusedVariables false
set_option linter.unusedSimpArgs false
theorem cl22 : Callable Try.prog 22 := ⟨Try.f22, Try.func22, by kernel_rfl, by kernel_rfl⟩
theorem cl23 : Callable Try.prog 23 := ⟨Try.f23, Try.func23, by kernel_rfl, by kernel_rfl⟩
theorem cl30 : Callable Try.prog 30 := ⟨Try.f30, Try.func30, by kernel_rfl, by kernel_rfl⟩
theorem cl32 : Callable Try.prog 32 := ⟨Try.f32, Try.func32, by kernel_rfl, by kernel_rfl⟩
theorem cl37 : Callable Try.prog 37 := ⟨Try.f37, Try.func37, by kernel_rfl, by kernel_rfl⟩
section
variable {W0 : World}
set_option maxRecDepth 100000 in
set_option maxHeartbeats 400000 in
theorem profTells_bad (n : Int) (sa : Option Addr) (scap : Nat) (script : List POp) (hs0 : ∀ G, SlV W0 G 4 POp.cells sa scap script) (t from_ to_ : Int) (hn : ¬ (0 ≤ n ∧ n ≤ 64)) : AC Try.prog W0 5 [.int .i64 n, .slice sa script.length scap, .int .i64 t, .int .i64 from_, .int .i64 to_] [] (fun v _ => v = .bool true) := by
  refine ac_of Try.func5 rfl rfl rfl ?_
  refine aw_seq_region ?_
  refine sr_x rfl (wtd_none rfl) rfl (Rd.x (x_assign rfl)) ?_
  refine sr_nil ?_
  refine aw_keep (keep_cons (t := 0) rfl (keep_cons (t := 1) rfl (keep_cons (t := 2) rfl (keep_cons (t := 3) rfl (keep_cons (t := 4) rfl (keep_cons (t := 10) rfl keep_nil)))))) ?_
  refine aw_seq_region ?_
  refine sr_x rfl (wtd_none rfl) rfl (Rd.x (x_move rfl)) ?_
  refine sr_x rfl (wtd_none rfl) rfl (Rd.x (x_move rfl)) ?_
  refine sr_d rfl (wtd_none rfl) rfl (opS_call rfl rfl rfl rfl cl22 (made05N_s n sa scap script hs0 _ hn)) ?_
  rintro _ H9 ⟨rfl, rfl⟩
  refine sr_x rfl (wtd_none rfl) rfl (Rd.x (x_move rfl)) ?_
  refine sr_x rfl (wtd_none rfl) rfl (Rd.x (x_extract rfl rfl)) ?_
  refine sr_x rfl (wtd_none rfl) rfl (Rd.x (x_extract rfl rfl)) ?_
  refine sr_x rfl (wtd_none rfl) rfl (Rd.x (x_assign rfl)) ?_
  refine sr_x rfl (wtd_none rfl) rfl (Rd.x (x_assign rfl)) ?_
  refine sr_nil ?_
  refine aw_keep (keep_cons (t := 0) rfl (keep_cons (t := 2) rfl (keep_cons (t := 3) rfl (keep_cons (t := 4) rfl (keep_cons (t := 10) rfl (keep_cons (t := 11) rfl (keep_cons (t := 12) rfl keep_nil))))))) ?_
  refine aw_seq ?_
  refine aw_seq_region ?_
  refine sr_x rfl (wtd_none rfl) rfl (Rd.x (x_move rfl)) ?_
  refine sr_x rfl (wtd_none rfl) rfl (Rd.x (x_eqnil Try.underlying23 rfl rfl)) ?_
  refine sr_x rfl (wtd_none rfl) rfl (Rd.x (x_move rfl)) ?_
  refine sr_skip rfl (wtd_no rfl rfl rfl rfl) rfl ?_
  refine sr_skip rfl (wtd_no rfl rfl rfl rfl) rfl ?_
  refine sr_x rfl (wtd_none rfl) rfl (Rd.x (x_pick_t rfl rfl rfl)) ?_
  refine sr_nil ?_
  refine aw_keep (keep_cons (t := 0) rfl (keep_cons (t := 2) rfl (keep_cons (t := 3) rfl (keep_cons (t := 4) rfl (keep_cons (t := 10) rfl (keep_cons (t := 11) rfl (keep_cons (t := 12) rfl (keep_cons (t := 27) rfl keep_nil)))))))) ?_
  refine aw_true rfl ?_
  refine aw_seq_region ?_
  refine sr_x rfl (wtd_none rfl) rfl (Rd.x (x_move rfl)) ?_
  refine sr_cmp rfl (wtd_none rfl) rfl (Rd.x (x_lt rfl rfl)) (fun h1 => ?_) (fun h1 => ?_)
  · refine sr_x rfl (wtd_none rfl) rfl (Rd.x (x_move rfl)) ?_
    refine sr_skip rfl (wtd_no rfl rfl rfl rfl) rfl ?_
    refine sr_skip rfl (wtd_no rfl rfl rfl rfl) rfl ?_
    refine sr_x rfl (wtd_none rfl) rfl (Rd.x (x_pick_t rfl rfl rfl)) ?_
    refine sr_x rfl (wtd_none rfl) rfl (Rd.x (x_move rfl)) ?_
    refine sr_d rfl (wtd_yes rfl rfl rfl) rfl (opS_call rfl rfl rfl rfl cl23 (awake05_s _)) ?_
    rintro _ H9 ⟨rfl, rfl⟩
    refine sr_x rfl (wtd_none rfl) rfl (Rd.x (x_pick_t rfl rfl rfl)) ?_
    refine sr_x rfl (wtd_none rfl) rfl (Rd.x (x_assign rfl)) ?_
    refine sr_nil ?_
    refine aw_keep (keep_cons (t := 2) rfl (keep_cons (t := 3) rfl (keep_cons (t := 4) rfl (keep_cons (t := 10) rfl (keep_cons (t := 11) rfl (keep_cons (t := 12) rfl keep_nil)))))) ?_
    refine aw_ret ?_
    show ∃ v H2, ResV _ _ _ _ _ _ v ∧ Sub H2 _ ∧ _
    exact ⟨_, [], resV rfl (.cons rfl .nil), (Sub.nil _), rfl⟩
  · refine sr_x rfl (wtd_none rfl) rfl (Rd.x (x_move rfl)) ?_
    refine sr_x rfl (wtd_yes rfl rfl rfl) rfl (Rd.x (x_move rfl)) ?_
    refine sr_cmp rfl (wtd_yes rfl rfl rfl) rfl (Rd.x (x_gt rfl rfl)) (fun h2 => ?_) (fun h2 => absurd (by first | omega | decide) h2)
    refine sr_x rfl (wtd_none rfl) rfl (Rd.x (x_pick_f rfl rfl rfl)) ?_
    refine sr_x rfl (wtd_none rfl) rfl (Rd.x (x_move rfl)) ?_
    refine sr_d rfl (wtd_yes rfl rfl rfl) rfl (opS_call rfl rfl rfl rfl cl23 (awake05_s _)) ?_
    rintro _ H9 ⟨rfl, rfl⟩
    refine sr_x rfl (wtd_none rfl) rfl (Rd.x (x_pick_t rfl rfl rfl)) ?_
    refine sr_x rfl (wtd_none rfl) rfl (Rd.x (x_assign rfl)) ?_
    refine sr_nil ?_
    refine aw_keep (keep_cons (t := 2) rfl (keep_cons (t := 3) rfl (keep_cons (t := 4) rfl (keep_cons (t := 10) rfl (keep_cons (t := 11) rfl (keep_cons (t := 12) rfl keep_nil)))))) ?_
    refine aw_ret ?_
    show ∃ v H2, ResV _ _ _ _ _ _ v ∧ Sub H2 _ ∧ _
    exact ⟨_, [], resV rfl (.cons rfl .nil), (Sub.nil _), rfl⟩
set_option maxRecDepth 100000 in
set_option maxHeartbeats 8000000 in
theorem profTells_ok (n : Int) (sa : Option Addr) (scap : Nat) (script : List POp) (hs0 : ∀ G, SlV W0 G 4 POp.cells sa scap script) (t from_ to_ : Int) (hn : 0 ≤ n ∧ n ≤ 64) : AC Try.prog W0 5 [.int .i64 n, .slice sa script.length scap, .int .i64 t, .int .i64 from_, .int .i64 to_] [] (fun v _ => v = .bool true) := by
  refine ac_of Try.func5 rfl rfl rfl ?_
  refine aw_seq_region ?_
  refine sr_x rfl (wtd_none rfl) rfl (Rd.x (x_assign rfl)) ?_
  refine sr_nil ?_
  refine aw_keep (keep_cons (t := 0) rfl (keep_cons (t := 1) rfl (keep_cons (t := 2) rfl (keep_cons (t := 3) rfl (keep_cons (t := 4) rfl (keep_cons (t := 10) rfl keep_nil)))))) ?_
  refine aw_seq_region ?_
  refine sr_x rfl (wtd_none rfl) rfl (Rd.x (x_move rfl)) ?_
  refine sr_x rfl (wtd_none rfl) rfl (Rd.x (x_move rfl)) ?_
  refine sr_d rfl (wtd_none rfl) rfl (opS_call rfl rfl rfl rfl cl22 (made05_s n sa scap script hs0 _ hn)) ?_
  rintro _ _ ⟨p, q, S, now, L, ver, a, cap, E, b, d, EL, rfl, hst, V, VL, rfl⟩
  have hsS := V.slv' (W0 := W0) (fun _ => rfl) rfl (Sub.refl _)
  have hsL := VL.slv' (W0 := W0) (fun _ => rfl) rfl (Sub.refl _)
  have hrep := hst.rep
  have hvr := hst.vr
  have hln := hst.ln
  have hsl := hst.sl
  have hps := rep_pos hrep
  have hnw := hst.nw
  refine sr_x rfl (wtd_none rfl) rfl (Rd.x (x_move rfl)) ?_
  refine sr_x rfl (wtd_none rfl) rfl (Rd.x (x_extract rfl rfl)) ?_
  refine sr_x rfl (wtd_none rfl) rfl (Rd.x (x_extract rfl rfl)) ?_
  refine sr_x rfl (wtd_none rfl) rfl (Rd.x (x_assign rfl)) ?_
  refine sr_x rfl (wtd_none rfl) rfl (Rd.x (x_assign rfl)) ?_
  refine sr_nil ?_
  refine aw_keep (keep_cons (t := 0) rfl (keep_cons (t := 2) rfl (keep_cons (t := 3) rfl (keep_cons (t := 4) rfl (keep_cons (t := 10) rfl (keep_cons (t := 11) rfl (keep_cons (t := 12) rfl keep_nil))))))) ?_
  refine aw_seq ?_
  refine aw_seq_region ?_
  refine sr_x rfl (wtd_none rfl) rfl (Rd.x (x_move rfl)) ?_
  refine sr_x rfl (wtd_none rfl) rfl (Rd.x (x_eqnil Try.underlying23 rfl rfl)) ?_
  refine sr_x rfl (wtd_none rfl) rfl (Rd.x (x_move rfl)) ?_
  refine sr_x rfl (wtd_yes rfl rfl rfl) rfl (Rd.x (x_move rfl)) ?_
  refine sr_x rfl (wtd_yes rfl rfl rfl) rfl (Rd.x (x_eqnil Try.underlying24 rfl rfl)) ?_
  refine sr_x rfl (wtd_none rfl) rfl (Rd.x (x_pick_f rfl rfl rfl)) ?_
  refine sr_nil ?_
  refine aw_keep (keep_cons (t := 0) rfl (keep_cons (t := 2) rfl (keep_cons (t := 3) rfl (keep_cons (t := 4) rfl (keep_cons (t := 10) rfl (keep_cons (t := 11) rfl (keep_cons (t := 12) rfl (keep_cons (t := 27) rfl keep_nil)))))))) ?_
  refine aw_false rfl ?_
  refine aw_skip ?_
  show AW _ _ _ _ _ _ _
  refine aw_seq_region ?_
  refine sr_x rfl (wtd_none rfl) rfl (Rd.x (x_move rfl)) ?_
  refine sr_x rfl (wtd_none rfl) rfl (Rd.x (x_move rfl)) ?_
  refine sr_x rfl (wtd_none rfl) rfl (Rd.x (x_move rfl)) ?_
  refine sr_d rfl (wtd_none rfl) rfl (opS_call rfl rfl rfl rfl cl33 (qbounds_s q n now b d L ver _ (cells_ext (by repeat (first | exact List.mem_cons_self | apply List.mem_cons_of_mem | apply List.mem_append_right)) (by repeat (first | exact Ext.all _ | exact Ext.done | apply Ext.take | apply Ext.skip))) (hsL.mono (Sub.takeE0 (by repeat (first | exact TakeE.here | apply TakeE.there | apply TakeE.app)))) hst.ok hst.fr (by omega) hnw from_ to_)) ?_
  rintro _ H9 ⟨⟨m, M, rfl, hB, hB0⟩, rfl⟩
  refine sr_x rfl (wtd_none rfl) rfl (Rd.x (x_move rfl)) ?_
  refine sr_x rfl (wtd_none rfl) rfl (Rd.x (x_extract rfl rfl)) ?_
  refine sr_x rfl (wtd_none rfl) rfl (Rd.x (x_extract rfl rfl)) ?_
  refine sr_x rfl (wtd_none rfl) rfl (Rd.x (x_assign rfl)) ?_
  refine sr_x rfl (wtd_none rfl) rfl (Rd.x (x_assign rfl)) ?_
  refine sr_nil ?_
  refine aw_keep (keep_cons (t := 2) rfl (keep_cons (t := 3) rfl (keep_cons (t := 4) rfl (keep_cons (t := 10) rfl (keep_cons (t := 11) rfl (keep_cons (t := 12) rfl (keep_cons (t := 13) rfl keep_nil))))))) ?_
  refine aw_seq ?_
  refine aw_seq_region ?_
  refine sr_x rfl (wtd_none rfl) rfl (Rd.x (x_move rfl)) ?_
  refine sr_x rfl (wtd_none rfl) rfl (Rd.x (x_move rfl)) ?_
  refine sr_d rfl (wtd_none rfl) rfl (opS_call rfl rfl rfl rfl cl34 (pfree_s p a cap S ver _ (cells_ext (by repeat (first | exact List.mem_cons_self | apply List.mem_cons_of_mem | apply List.mem_append_right)) (by repeat (first | exact Ext.all _ | exact Ext.done | apply Ext.take | apply Ext.skip))) (hsS.mono (Sub.takeE0 (by repeat (first | exact TakeE.here | apply TakeE.there | apply TakeE.app)))) t hrep.ris hps (by omega))) ?_
  rintro _ H9 ⟨rfl, rfl⟩
  refine sr_x rfl (wtd_none rfl) rfl (Rd.x (x_move rfl)) ?_
  refine sr_x rfl (wtd_none rfl) rfl (Rd.x (x_move rfl)) ?_
  refine sr_d rfl (wtd_none rfl) rfl (opS_call rfl rfl rfl rfl cl35 (qat_s q n now b d L ver _ (cells_ext (by repeat (first | exact List.mem_cons_self | apply List.mem_cons_of_mem | apply List.mem_append_right)) (by repeat (first | exact Ext.all _ | exact Ext.done | apply Ext.take | apply Ext.skip))) (hsL.mono (Sub.takeE0 (by repeat (first | exact TakeE.here | apply TakeE.there | apply TakeE.app)))) hst.ok hst.fr (by omega) t)) ?_
  rintro _ H9 ⟨rfl, rfl⟩
  have hft := rep_at hrep t
  refine sr_cmp rfl (wtd_none rfl) rfl (Rd.x (x_ne rfl rfl)) (fun h1 => absurd h1 (by exact fun h => h hft)) (fun h1 => ?_)
  refine sr_x rfl (wtd_none rfl) rfl (Rd.x (x_move rfl)) ?_
  refine sr_x rfl (wtd_yes rfl rfl rfl) rfl (Rd.x (x_move rfl)) ?_
  refine sr_x rfl (wtd_yes rfl rfl rfl) rfl (Rd.x (x_move rfl)) ?_
  refine sr_x rfl (wtd_yes rfl rfl rfl) rfl (Rd.x (x_move rfl)) ?_
  refine sr_d rfl (wtd_yes rfl rfl rfl) rfl (opS_call rfl rfl rfl rfl cl36 (pleast_s p a cap S ver _ (cells_ext (by repeat (first | exact List.mem_cons_self | apply List.mem_cons_of_mem | apply List.mem_append_right)) (by repeat (first | exact Ext.all _ | exact Ext.done | apply Ext.take | apply Ext.skip))) (hsS.mono (Sub.takeE0 (by repeat (first | exact TakeE.here | apply TakeE.there | apply TakeE.app)))) now (atP n L) hrep (by omega) from_ to_)) ?_
  rintro _ H9 ⟨⟨m2, rfl, hm1, hm2⟩, rfl⟩
  have hmm := least_eq hB hB0 hm1 hm2
  refine sr_x rfl (wtd_yes rfl rfl rfl) rfl (Rd.x (x_move rfl)) ?_
  refine sr_cmp rfl (wtd_yes rfl rfl rfl) rfl (Rd.x (x_ne rfl rfl)) (fun h2 => absurd h2 (by first | omega | decide)) (fun h2 => ?_)
  refine sr_x rfl (wtd_none rfl) rfl (Rd.x (x_pick_f rfl rfl rfl)) ?_
  refine sr_nil ?_
  refine aw_keep (keep_cons (t := 10) rfl (keep_cons (t := 11) rfl (keep_cons (t := 12) rfl (keep_cons (t := 58) rfl keep_nil)))) ?_
  refine aw_false rfl ?_
  refine aw_skip ?_
  show AW _ _ _ _ _ _ _
  refine aw_seq_region ?_
  refine sr_x rfl (wtd_none rfl) rfl (Rd.x (x_move rfl)) ?_
  refine sr_d rfl (wtd_none rfl) rfl (opS_call rfl rfl rfl rfl cl37 (pcopy_s p a cap S ver _ (cells_ext (by repeat (first | exact List.mem_cons_self | apply List.mem_cons_of_mem | apply List.mem_append_right)) (by repeat (first | exact Ext.all _ | exact Ext.done | apply Ext.take | apply Ext.skip))) (hsS.mono (Sub.takeE0 (by repeat (first | exact TakeE.here | apply TakeE.there | apply TakeE.app)))) hps (by omega))) ?_
  rintro _ _ ⟨y, a2, c2, E2, rfl, V2, rfl⟩
  refine sr_x rfl (wtd_none rfl) rfl (Rd.x (x_assign rfl)) ?_
  refine sr_nil ?_
  refine aw_keep (keep_cons (t := 10) rfl (keep_cons (t := 11) rfl (keep_cons (t := 12) rfl (keep_cons (t := 15) rfl keep_nil)))) ?_
  refine aw_seq_region ?_
  refine sr_x rfl (wtd_none rfl) rfl (Rd.x (x_move rfl)) ?_
  refine sr_d rfl (wtd_none rfl) rfl (opS_call rfl rfl rfl rfl cl38 (AC.sub (by repeat (first | exact Sub.refl _ | refine Sub.take (by repeat (first | exact Take.here | apply Take.there | apply Take.app)) ?_ | refine Sub.takeE (by repeat (first | exact TakeE.here | apply TakeE.there | apply TakeE.app)) ?_ | exact Sub.nil _ | apply Sub.drop | apply Sub.dropE)) (padd_s y a2 c2 S.length S ver E2 (prB p (.slice a S.length cap) ver :: (E ++ (plB q n now (.slice b L.length d) ver :: (EL ++ [])))) V2.off rfl (by omega) now (atP n L) hrep hst.rng (by omega) (by omega) 0 1152921504606846976 (-1)))) ?_
  rintro _ _ ⟨e3, ch3, S3, a3, c3, E3, rfl, hC3, hR3, hl3, V3, rfl⟩
  have hrng3 := addC_rng hrep hnw hst.rng hC3
  refine sr_nil ?_
  refine aw_keep (keep_cons (t := 10) rfl (keep_cons (t := 11) rfl (keep_cons (t := 12) rfl (keep_cons (t := 15) rfl keep_nil)))) ?_
  refine aw_seq_region ?_
  refine sr_x rfl (wtd_none rfl) rfl (Rd.x (x_move rfl)) ?_
  refine sr_d rfl (wtd_none rfl) rfl (opS_call rfl rfl rfl rfl cl39 (AC.sub (by repeat (first | exact Sub.refl _ | refine Sub.take (by repeat (first | exact Take.here | apply Take.there | apply Take.app)) ?_ | refine Sub.takeE (by repeat (first | exact TakeE.here | apply TakeE.there | apply TakeE.app)) ?_ | exact Sub.nil _ | apply Sub.drop | apply Sub.dropE)) (padv_s y a3 c3 S3.length S3 (if ch3 = true then ver + 1 else ver) E3 (prB p (.slice a S.length cap) ver :: (E ++ (plB q n now (.slice b L.length d) ver :: (EL ++ [])))) V3 rfl (by omega) now _ hR3 hrng3 (by split <;> omega) (by omega) 1099511627776))) ?_
  rintro _ _ ⟨e4, ch4, S4, a4, c4, E4, rfl, hC4, hR4, hl4, V4, rfl⟩
  have hn4 := adv_now hC4 hnw.2
  rw [hn4] at hR4
  have hsS4 := V4.slv' (W0 := W0) (fun _ => rfl) rfl (Sub.refl _)
  refine sr_nil ?_
  refine aw_keep (keep_cons (t := 10) rfl (keep_cons (t := 11) rfl (keep_cons (t := 12) rfl (keep_cons (t := 15) rfl keep_nil)))) ?_
  refine aw_seq_dr ⟨_, 23, 87, [[], [0], [], [0, 1, 2], [0, 1, 2, 3], [0, 1, 2, 3, 4], [0, 1, 2, 3, 4, 5], [0, 1, 2, 3, 4, 5, 6], [0, 1, 2, 3, 4, 5], [0, 1, 2, 3, 4, 5, 8], [0, 1, 2, 3, 4, 5, 8, 9], [0, 1, 2, 3, 4, 5, 8, 9, 10], [0, 1, 2, 3, 4, 5, 6, 7, 8, 9, 10, 11], [0, 1, 2, 3, 4, 5, 6, 7, 8, 9, 10, 11, 12], [0, 1, 2, 3, 4, 5, 6, 7, 8, 9, 10, 11, 12, 13], [0, 1, 2, 3, 4, 5, 6, 7, 8, 9, 10, 11, 12, 13, 14], [0, 1, 2, 3, 4, 5, 6, 7, 8, 9, 10, 11, 12, 13, 14, 15], [0, 1, 2, 3, 4, 5, 6, 7, 8, 9, 10, 11, 12, 13, 14, 15, 16], [0, 1, 2, 3, 4, 5, 6, 7, 8, 9, 10, 11, 12, 13, 14, 15, 16, 17], [0, 1, 2, 3, 4, 5, 6, 7, 8, 9, 10, 11, 12, 13, 14, 15, 16, 17, 18], [0, 1, 2, 3, 4, 5, 6, 7, 8, 9, 10, 11, 12, 13, 14, 15, 16, 17, 18, 19], [0, 1, 2, 3, 4, 5, 6, 7, 8, 9, 10, 11, 12, 13, 14, 15, 16, 17, 18, 19, 20], [0, 1, 2, 3, 4, 5, 6, 7, 8, 9, 10, 11, 12, 13, 14, 15, 16, 17, 18, 19, 20, 21]], [.light, .call, .light, .call, .call, .light, .light, .call, .light, .light, .light, .mem, .light, .light, .light, .light, .call, .light, .light, .light, .call, .light, .light]⟩ (by kernel_rfl) rfl rfl mix ?_
  refine dr_light rfl rfl (wtd_none rfl) (x_move rfl) ?_
  refine dr_call rfl (V := []) rfl rfl (wtd_none rfl) (opS_F rfl rfl rfl rfl cl31 (psteps_s p a cap S ver _ (cells_ext (by repeat (first | exact List.mem_cons_self | apply List.mem_cons_of_mem | apply List.mem_append_right)) (by repeat (first | exact Ext.all _ | exact Ext.done | apply Ext.take | apply Ext.skip))) (hsS.mono (Sub.takeE0 (by repeat (first | exact TakeE.here | apply TakeE.there | apply TakeE.app)))) hps (by omega))) (ownvec_freshE (by rw [flat_len (n := 2) (fun _ => rfl)]) (by omega)) ?_
  rintro _ EC ⟨aC, cC, VC, rfl⟩
  refine dr_light rfl rfl (wtd_none rfl) (x_move rfl) ?_
  refine dr_call rfl (V := (EC ++ [])) rfl rfl (wtd_none rfl) (opS_F rfl rfl rfl rfl cl32 (qsteps_s q n now b d L ver _ (cells_ext (by repeat (first | exact List.mem_cons_self | apply List.mem_cons_of_mem | apply List.mem_append_right)) (by repeat (first | exact Ext.all _ | exact Ext.done | apply Ext.take | apply Ext.skip))) (hsL.mono (Sub.takeE0 (by repeat (first | exact TakeE.here | apply TakeE.there | apply TakeE.app)))) hst.ok hst.fr (by omega) hnw S hrep)) (ownvec_freshE (by rw [flat_len (n := 2) (fun _ => rfl)]) (by omega)) ?_
  rintro _ ED ⟨aD, cD, VD, rfl⟩
  refine dr_callq rfl (V := (EC ++ (ED ++ []))) rfl rfl rfl (wtd_none rfl) (opS_F rfl rfl rfl rfl cl30 ((same05_s aC aD cC cD S _ (VC.slv' (fun _ => rfl) rfl (by first | exact sub_n1 | exact sub_n2 | exact sub_news | exact (Sub.takeE0 (by repeat (first | exact TakeE.here | apply TakeE.there | apply TakeE.app))))) (VD.slv' (fun _ => rfl) rfl (by first | exact sub_n1 | exact sub_n2 | exact sub_news | exact (Sub.takeE0 (by repeat (first | exact TakeE.here | apply TakeE.there | apply TakeE.app)))))))) (⟨_, rfl⟩) ?_
  rintro _ rfl
  refine dr_light rfl rfl (wtd_none rfl) (x_move rfl) ?_
  refine dr_light rfl rfl (wtd_yes rfl rfl rfl) (x_move rfl) ?_
  refine dr_callq rfl (V := (EC ++ (ED ++ []))) rfl rfl rfl (wtd_yes rfl rfl rfl) (opS_F rfl rfl rfl rfl cl28 ((pnowR_s p a cap S ver _ (cells_ext (by repeat (first | exact List.mem_cons_self | apply List.mem_cons_of_mem | apply List.mem_append_right)) (by repeat (first | exact Ext.all _ | exact Ext.done | apply Ext.take | apply Ext.skip))) (hsS.mono (Sub.takeE0 (by repeat (first | exact TakeE.here | apply TakeE.there | apply TakeE.app)))) now (atP n L) hrep))) (⟨_, rfl⟩) ?_
  rintro _ rfl
  refine dr_light rfl rfl (wtd_yes rfl rfl rfl) (x_move rfl) ?_
  refine dr_light rfl rfl (wtd_yes rfl rfl rfl) (x_nilCheck rfl) ?_
  refine dr_light rfl rfl (wtd_yes rfl rfl rfl) (x_fieldAddr fd36_1 rfl) ?_
  refine dr_mem rfl (V := (EC ++ (ED ++ []))) rfl rfl (wtd_yes rfl rfl rfl) (x_load ag2 rfl (cells_ext (by repeat (first | exact List.mem_cons_self | apply List.mem_cons_of_mem | apply List.mem_append_right)) (by repeat (first | exact Ext.all _ | exact Ext.done | apply Ext.take | apply Ext.skip)))) ?_
  refine dr_cmp rfl rfl (wtd_yes rfl rfl rfl) (x_eq rfl rfl) (fun h3 => ?_) (fun h3 => absurd (by first | omega | decide) h3)
  refine dr_light rfl rfl (wtd_none rfl) (x_pick_t rfl rfl rfl) ?_
  refine dr_light rfl rfl (wtd_none rfl) (x_move rfl) ?_
  refine dr_light rfl rfl (wtd_yes rfl rfl rfl) (x_move rfl) ?_
  refine dr_callq rfl (V := (EC ++ (ED ++ []))) rfl rfl rfl (wtd_yes rfl rfl rfl) (opS_F rfl rfl rfl rfl cl28 ((pnowR_s y a4 c4 S4 _ _ (cells_ext (by repeat (first | exact List.mem_cons_self | apply List.mem_cons_of_mem | apply List.mem_append_right)) (by repeat (first | exact Ext.all _ | exact Ext.done | apply Ext.take | apply Ext.skip))) (hsS4.mono (Sub.takeE0 (by repeat (first | exact TakeE.here | apply TakeE.there | apply TakeE.app)))) 1099511627776 _ hR4))) (⟨_, rfl⟩) ?_
  rintro _ rfl
  refine dr_cmp rfl rfl (wtd_yes rfl rfl rfl) (x_eq rfl rfl) (fun h4 => ?_) (fun h4 => absurd (by first | omega | decide) h4)
  refine dr_light rfl rfl (wtd_none rfl) (x_pick_t rfl rfl rfl) ?_
  refine dr_light rfl rfl (wtd_none rfl) (x_move rfl) ?_
  refine dr_callq rfl (V := (EC ++ (ED ++ []))) rfl rfl rfl (wtd_yes rfl rfl rfl) (opS_F rfl rfl rfl rfl cl23 ((awake05_s _))) (⟨_, rfl⟩) ?_
  rintro _ rfl
  refine dr_light rfl rfl (wtd_none rfl) (x_pick_t rfl rfl rfl) ?_
  refine dr_light rfl rfl (wtd_none rfl) (x_assign rfl) ?_
  refine dr_drop ?_
  refine aw_keep (keep_cons (t := 10) rfl keep_nil) ?_
  refine aw_ret ?_
  show ∃ v H2, ResV _ _ _ _ _ _ v ∧ Sub H2 _ ∧ _
  exact ⟨_, [], resV rfl (.cons rfl .nil), (Sub.nil _), rfl⟩
end
namespace ProfTellsRow
open Go.ChangeShapes Go.WideShapes Go.ChangeAt Go.RowKit
theorem own : ownKnob Try.prog.godebug = none := by kernel_rfl
theorem laid : laidOutB Try.prog = true := by kernel_rfl
set_option maxRecDepth 100000 in
theorem lifted (os : Os) (started : os.Started) (H : Type) (enc : TypeId × Value → H) :
    ReturnsInHanded {} Try.checked os 5 .any (Rows.profTellsSpec.pre6 enc Try.prog Try.f5 Rows.profTellsRow.domain false) (Rows.profTellsSpec.post enc Try.prog Try.f5 false true false false) := by
  refine law_lifted (C := Try.checked) (tb := 4) own started (by kernel_rfl) Try.func5 (ChangeSpec.witness6 (enc := enc) (C := Try.checked) false ⟨#[], #[.int .i64 0, .slice none 0 0, .int .i64 0, .int .i64 0, .int .i64 0], []⟩ 8 (by kernel_rfl) (by kernel_rfl) (by kernel_rfl) (by kernel_rfl)) rfl Try.underlying4 rfl laid (by kernel_rfl) ?_ ?_
  · intro ds h
    match ds, h with
    | [a0, a1, a2, a3, a4], _ => rfl
  · intro W base args ds ps hval hA hlt hsz
    have hA' : DataW.TrodAll enc Try.prog W 0 (fun _ => true) true [3, 22, 2, 2, 2] args ds ps := hA
    clear hA
    obtain ⟨v0, vs0, d0, ds0, p0, q0, rfl, rfl, rfl, h0, r0⟩ := trodAll_cons hA'
    obtain ⟨v1, vs1, d1, ds1, p1, q1, rfl, rfl, rfl, h1, r1⟩ := trodAll_cons r0
    obtain ⟨v2, vs2, d2, ds2, p2, q2, rfl, rfl, rfl, h2, r2⟩ := trodAll_cons r1
    obtain ⟨v3, vs3, d3, ds3, p3, q3, rfl, rfl, rfl, h3, r3⟩ := trodAll_cons r2
    obtain ⟨v4, vs4, d4, ds4, p4, q4, rfl, rfl, rfl, h4, r4⟩ := trodAll_cons r3
    obtain ⟨rfl, rfl, rfl⟩ := trodAll_nil r4
    obtain ⟨n, rfl, _⟩ := opn_int Try.underlying3 (hval 0 3 v0 rfl rfl) h0
    obtain ⟨a, cap, xs, rfl, hs, _⟩ := opn_slice (en := POp.cells) (Ok := fun j => j.Wf) Try.underlying22 cells39 (by decide) (fun fuel cs x h => read_POp h) (hval 1 22 v1 rfl rfl) h1
    obtain ⟨ti, rfl, _⟩ := opn_int Try.underlying2 (hval 2 2 v2 rfl rfl) h2
    obtain ⟨fr, rfl, _⟩ := opn_int Try.underlying2 (hval 3 2 v3 rfl rfl) h3
    obtain ⟨to, rfl, _⟩ := opn_int Try.underlying2 (hval 4 2 v4 rfl rfl) h4
    by_cases hn : 0 ≤ n ∧ n ≤ 64
    · exact profTells_ok n a cap xs hs ti fr to hn
    · exact profTells_bad n a cap xs hs ti fr to hn
theorem joined : joinedFacts Try.prog 5 Try.f5 Rows.profTellsSpec Rows.profTellsRow = true := by
  unfold joinedFacts
  rw [cutMay, cutLif, cutMk]
  kernel_rfl
theorem over : Rows.profTellsRow.holds Try.pinned (OpenSpec.ofChange Rows.profTellsSpec) :=
  OpenClaim.holds_of_wide 5 Try.f5 rfl rfl rfl rfl rfl rfl rfl ⟨rfl, rfl, rfl, rfl, rfl⟩ rfl rfl rfl rfl rfl (by kernel_rfl) Try.func5 joined
    (of_decide_eq_true (by kernel_rfl)) (by unfold Func.isWrapper; first | (rw [if_pos (by decide +kernel)]; kernel_rfl) | (rw [if_neg (by decide +kernel)]; exact ⟨rfl, rfl⟩))
    (fun os started H enc _ => lifted os started H enc)
theorem proved : Rows.ProfTellsSaid := over
#print axioms proved
end ProfTellsRow
end Go.Proofs.Ytjkojdjjooangaa
