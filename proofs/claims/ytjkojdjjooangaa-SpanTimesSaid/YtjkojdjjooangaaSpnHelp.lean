/- Spans: the example. -/
import Derived.Test.YtjkojdjjooangaaSpn
namespace Go.Proofs.Ytjkojdjjooangaa
open Go.Proofs.Ytjkojdjjooangaa.Sym
open Go.RowKit (Below)
set_option linter.unusedVariables false
set_option linter.unusedSimpArgs false
theorem aw4_X : Tms (tmL [⟨0, 10, 2⟩, ⟨5, 8, 3⟩]) [0, 5, 8, 10] := by
  refine ⟨by simp, fun t => ?_⟩
  rw [show tmL [⟨0, 10, 2⟩, ⟨5, 8, 3⟩] = [0, 10, 5, 8] from rfl]
  simp
  omega
theorem ag76 : aggOf Try.prog 76 = some true := by kernel_rfl
theorem cl57 : Callable Try.prog 57 := ⟨Try.f57, Try.func57, by kernel_rfl, by kernel_rfl⟩
theorem cl64 : Callable Try.prog 64 := ⟨Try.f64, Try.func64, by kernel_rfl, by kernel_rfl⟩
theorem fl55 : flds Try.prog 55 = some [(0, 1), (1, 1), (2, 1)] := by kernel_rfl
theorem ks76 : kindsOf Try.prog 76 = some [.int, .int] := by kernel_rfl
section
variable {W0 : World}
set_option maxRecDepth 100000 in
set_option maxHeartbeats 2000000 in
theorem awake04_s (H : SHeap) : AC Try.prog W0 58 [] H (fun v H' => v = .bool true ∧ H' = H) := by
  refine ac_of Try.func58 rfl rfl rfl ?_
  refine aw_seq_region ?_
  refine sr_x rfl (wtd_none rfl) rfl (Rd.x (x_assign rfl)) ?_
  refine sr_nil ?_
  refine aw_keep (keep_cons (t := 0) rfl keep_nil) ?_
  refine aw_seq_region ?_
  refine sr_x rfl (wtd_none rfl) rfl (Rd.x (x_build zr55 rfl fl55 (by repeat (first | exact Parts.nil | (apply Parts.cons; rfl))) (by repeat (first | exact Fill.done | (apply Fill.part; rfl; rfl; rfl; focus (repeat (first | exact Spl.done | exact Spl.all rfl | apply Spl.put | apply Spl.skip))))))) ?_
  refine sr_x rfl (wtd_none rfl) rfl (Rd.x (x_build zr55 rfl fl55 (by repeat (first | exact Parts.nil | (apply Parts.cons; rfl))) (by repeat (first | exact Fill.done | (apply Fill.part; rfl; rfl; rfl; focus (repeat (first | exact Spl.done | exact Spl.all rfl | apply Spl.put | apply Spl.skip))))))) ?_
  refine sr_new rfl (wtd_none rfl) rfl (x_buildSlice Try.underlying34 sz55 zr55 rfl rfl rfl rfl (by repeat (first | exact Parts.nil | (apply Parts.cons; rfl))) (by repeat (first | exact Fill.done | (apply Fill.part; rfl; rfl; rfl; focus (repeat (first | exact Spl.done | exact Spl.all rfl | apply Spl.put | apply Spl.skip)))))) ?_
  intro r1_2 hr1_2 gr1_2
  refine sr_x rfl (wtd_none rfl) rfl (Rd.x (x_assign rfl)) ?_
  refine sr_nil ?_
  refine aw_keep (keep_cons (t := 0) rfl (keep_cons (t := 1) rfl keep_nil)) ?_
  refine aw_seq_region ?_
  refine sr_x rfl (wtd_none rfl) rfl (Rd.x (x_move rfl)) ?_
  refine sr_d rfl (wtd_none rfl) rfl (opS_call rfl rfl rfl rfl cl64 (ssteps_s (some ⟨r1_2, 0, none⟩) 2 [⟨0, 10, 2⟩, ⟨5, 8, 3⟩] _ (slv_own (n := 3) (enc := PSpan.cells) (xs := [⟨0, 10, 2⟩, ⟨5, 8, 3⟩]) (post := []) (fun _ => rfl) (by repeat (first | exact List.mem_cons_self | apply List.mem_cons_of_mem | apply List.mem_append_right))) (by decide) 6 0 (by decide))) ?_
  rintro _ _ ⟨X, S, a2, c2, E2, hX, hS, rfl, V2, rfl⟩
  obtain rfl : X = [0, 5, 8, 10] := hX.uniq aw4_X
  obtain rfl : S = [⟨0, 4⟩, ⟨5, 1⟩, ⟨8, 4⟩, ⟨10, 6⟩] := hS.trans rfl
  have hss := V2.slv' (W0 := W0) (fun _ => rfl) rfl (Sub.refl _)
  obtain ⟨b1, o1, ha1, hc1⟩ := hss.at_ 1 ⟨5, 1⟩ rfl
  obtain ⟨b3, o3, ha3, hc3⟩ := hss.at_ 3 ⟨10, 6⟩ rfl
  have hcc := hss.le
  have hcb := hss.capb
  dsimp only [List.length_cons, List.length_nil] at hcc
  refine sr_x rfl (wtd_none rfl) rfl (Rd.x (x_assign rfl)) ?_
  refine sr_nil ?_
  refine aw_keep (keep_cons (t := 0) rfl (keep_cons (t := 1) rfl (keep_cons (t := 2) rfl keep_nil))) ?_
  refine aw_seq_region ?_
  refine sr_x rfl (wtd_none rfl) rfl (Rd.x (x_move rfl)) ?_
  refine sr_d rfl (wtd_none rfl) rfl (opS_call rfl rfl rfl rfl cl57 (speak_s (some ⟨r1_2, 0, none⟩) 2 [⟨0, 10, 2⟩, ⟨5, 8, 3⟩] _ (slv_own (n := 3) (enc := PSpan.cells) (xs := [⟨0, 10, 2⟩, ⟨5, 8, 3⟩]) (post := []) (fun _ => rfl) (by repeat (first | exact List.mem_cons_self | apply List.mem_cons_of_mem | apply List.mem_append_right))) (by decide) 0 20)) ?_
  rintro _ _ ⟨⟨m, rfl, -, hm⟩, rfl⟩
  obtain rfl : m = 5 := (hm _ aw4_X).trans rfl
  refine sr_cmp rfl (wtd_none rfl) rfl (Rd.x (x_eq rfl rfl)) (fun h1 => ?_) (fun h1 => absurd (by first | omega | decide) h1)
  refine sr_x rfl (wtd_none rfl) rfl (Rd.x (x_move rfl)) ?_
  refine sr_x rfl (wtd_yes rfl rfl rfl) rfl (Rd.x (x_move rfl)) ?_
  refine sr_x rfl (wtd_yes rfl rfl rfl) rfl (Rd.x (x_lenSlice Try.underlying43 rfl)) ?_
  refine sr_cmp rfl (wtd_yes rfl rfl rfl) rfl (Rd.x (x_eq rfl rfl)) (fun h2 => ?_) (fun h2 => absurd (by rfl) h2)
  refine sr_x rfl (wtd_none rfl) rfl (Rd.x (x_pick_t rfl rfl rfl)) ?_
  refine sr_x rfl (wtd_none rfl) rfl (Rd.x (x_move rfl)) ?_
  refine sr_x rfl (wtd_yes rfl rfl rfl) rfl (Rd.x (x_move rfl)) ?_
  refine sr_x rfl (wtd_yes rfl rfl rfl) rfl (Rd.x (x_indexAddrN 1 Try.underlying43 sz76 rfl ha1 rfl (by decide) (by omega))) ?_
  refine sr_x rfl (wtd_yes rfl rfl rfl) rfl (Rd.x (x_loadN ag76 sz76 rfl (Cells.mono hc1 (Sub.takeE0 (by repeat (first | exact TakeE.here | apply TakeE.there | apply TakeE.app)))) rfl)) ?_
  refine sr_x rfl (wtd_yes rfl rfl rfl) rfl (Rd.x (x_build zr76 rfl fl76 (by repeat (first | exact Parts.nil | (apply Parts.cons; rfl))) (by repeat (first | exact Fill.done | (apply Fill.part; rfl; rfl; rfl; focus (repeat (first | exact Spl.done | exact Spl.all rfl | apply Spl.put | apply Spl.skip))))))) ?_
  refine sr_cmp rfl (wtd_yes rfl rfl rfl) rfl (Rd.x (x_eqStruct Try.underlying76 ks76 rfl rfl rfl rfl rfl)) (fun h3 => ?_) (fun h3 => absurd (by rfl) h3)
  refine sr_x rfl (wtd_none rfl) rfl (Rd.x (x_pick_t rfl rfl rfl)) ?_
  refine sr_x rfl (wtd_none rfl) rfl (Rd.x (x_move rfl)) ?_
  refine sr_x rfl (wtd_yes rfl rfl rfl) rfl (Rd.x (x_move rfl)) ?_
  refine sr_x rfl (wtd_yes rfl rfl rfl) rfl (Rd.x (x_indexAddrN 3 Try.underlying43 sz76 rfl ha3 rfl (by decide) (by omega))) ?_
  refine sr_x rfl (wtd_yes rfl rfl rfl) rfl (Rd.x (x_loadN ag76 sz76 rfl (Cells.mono hc3 (Sub.takeE0 (by repeat (first | exact TakeE.here | apply TakeE.there | apply TakeE.app)))) rfl)) ?_
  refine sr_x rfl (wtd_yes rfl rfl rfl) rfl (Rd.x (x_build zr76 rfl fl76 (by repeat (first | exact Parts.nil | (apply Parts.cons; rfl))) (by repeat (first | exact Fill.done | (apply Fill.part; rfl; rfl; rfl; focus (repeat (first | exact Spl.done | exact Spl.all rfl | apply Spl.put | apply Spl.skip))))))) ?_
  refine sr_cmp rfl (wtd_yes rfl rfl rfl) rfl (Rd.x (x_eqStruct Try.underlying76 ks76 rfl rfl rfl rfl rfl)) (fun h4 => ?_) (fun h4 => absurd (by rfl) h4)
  refine sr_x rfl (wtd_none rfl) rfl (Rd.x (x_pick_t rfl rfl rfl)) ?_
  refine sr_x rfl (wtd_none rfl) rfl (Rd.x (x_assign rfl)) ?_
  refine sr_nil ?_
  refine aw_keep (keep_cons (t := 0) rfl keep_nil) ?_
  refine aw_ret ?_
  show ∃ v H2, ResV _ _ _ _ _ _ v ∧ Sub H2 _ ∧ _
  exact ⟨_, H, resV rfl (.cons rfl .nil), (by repeat (first | exact Sub.refl _ | apply Sub.drop | apply Sub.dropE)), ⟨rfl, rfl⟩⟩
end
end Go.Proofs.Ytjkojdjjooangaa
