/- The charts' example comes out. -/
import Derived.Test.YtlhmoojffopheaaGan
import Derived.Test.YtlhmoojffopheaaSymStr
namespace Go.Proofs.Ytlhmoojffopheaa
open Go.Proofs.Ytlhmoojffopheaa.Sym
open Go.RowKit (Below)
set_option linter.unusedVariables false
set_option linter.unusedSimpArgs false
theorem cl34 : Callable Try.prog 34 := ⟨Try.f34, Try.func34, by kernel_rfl, by kernel_rfl⟩
theorem fl36 : flds Try.prog 36 = some [(0, 1), (1, 1), (2, 1)] := by kernel_rfl
theorem zr36 : zeroOf Try.prog 36 = some (.agg #[.int .i64 0, .int .i64 0, .int .i64 0]) := by kernel_rfl
section
variable {W0 : World}
set_option maxRecDepth 100000 in
set_option maxHeartbeats 400000 in
theorem awake30_s (H : SHeap) : AC Try.prog W0 16 [] H (fun v H' => v = .bool true ∧ H' = H) := by
  refine ac_of Try.func16 rfl rfl rfl ?_
  refine aw_seq_region ?_
  refine sr_x rfl (wtd_none rfl) rfl (Rd.x (x_assign rfl)) ?_
  refine sr_nil ?_
  refine aw_keep (keep_cons (t := 0) rfl keep_nil) ?_
  refine aw_seq_region ?_
  refine sr_x rfl (wtd_none rfl) rfl (Rd.x (x_build zr36 rfl fl36 (by repeat (first | exact Parts.nil | (apply Parts.cons; rfl))) (by repeat (first | exact Fill.done | (apply Fill.part; rfl; rfl; rfl; focus (repeat (first | exact Spl.done | exact Spl.all rfl | apply Spl.put | apply Spl.skip))))))) ?_
  refine sr_new rfl (wtd_none rfl) rfl (x_alloc zr36 rfl) ?_
  intro r1_1 hr1_1 gr1_1
  refine sr_x0 rfl (wtd_none rfl) (x_store sz36 rfl rfl rfl rfl rfl (by repeat (first | exact Repl.here | apply Repl.there)) (by repeat (first | exact Spl.done | exact Spl.all rfl | apply Spl.put | apply Spl.skip))) ?_
  refine sr_nil ?_
  refine aw_keep (keep_cons (t := 0) rfl (keep_cons (t := 1) rfl keep_nil)) ?_
  refine aw_seq_region ?_
  refine sr_x rfl (wtd_none rfl) rfl (Rd.x (x_loadN ag36 sz36 rfl (cells_ext (by repeat (first | exact List.mem_cons_self | apply List.mem_cons_of_mem)) (by repeat (first | exact Ext.all _ | exact Ext.done | apply Ext.take | apply Ext.skip))) rfl)) ?_
  refine sr_x rfl (wtd_none rfl) rfl (Rd.x (x_build zr28 rfl fl28 (by repeat (first | exact Parts.nil | (apply Parts.cons; rfl))) (by repeat (first | exact Fill.done | (apply Fill.part; rfl; rfl; rfl; focus (repeat (first | exact Spl.done | exact Spl.all rfl | apply Spl.put | apply Spl.skip))))))) ?_
  refine sr_new rfl (wtd_none rfl) rfl (x_buildSlice Try.underlying22 sz28 zr28 rfl rfl rfl rfl (by repeat (first | exact Parts.nil | (apply Parts.cons; rfl))) (by repeat (first | exact Fill.done | (apply Fill.part; rfl; rfl; rfl; focus (repeat (first | exact Spl.done | exact Spl.all rfl | apply Spl.put | apply Spl.skip)))))) ?_
  intro r2_2 hr2_2 gr2_2
  refine sr_d rfl (wtd_none rfl) rfl (opS_call rfl rfl rfl rfl cl34 (row_s ⟨0, 1, 5⟩ 0 _ 1 [⟨1, 0, 0, 0, 0, 0, 2, 4, 0, 1⟩] _ (slv_own (post := []) (fun _ => rfl) (by repeat (first | exact List.mem_cons_self | apply List.mem_cons_of_mem))) (by intro j hj; simp at hj; subst hj; unfold Job.Wf; decide))) ?_
  rintro _ _ ⟨hv1, hv2, rfl⟩
  obtain rfl := hv1 (by unfold Chart.Right; decide)
  clear hv1 hv2
  rw [show (⟨(rowB ⟨0, 1, 5⟩ 0 [⟨1, 0, 0, 0, 0, 0, 2, 4, 0, 1⟩] (5 : Int).toNat).toArray⟩ : ByteArray) = ⟨#[46, 46, 98, 98, 46]⟩ from by decide +kernel]
  refine sr_cmp rfl (wtd_none rfl) rfl (Rd.x (x_eqS rfl rfl)) (fun h1 => ?_) (fun h1 => ?_)
  · refine sr_x rfl (wtd_none rfl) rfl (Rd.x (x_assign rfl)) ?_
    refine sr_nil ?_
    refine aw_keep (keep_cons (t := 0) rfl keep_nil) ?_
    refine aw_ret ?_
    show ∃ v H2, ResV _ _ _ _ _ _ v ∧ Sub H2 _ ∧ _
    exact ⟨_, H, resV rfl (.cons rfl .nil), (by repeat (first | exact Sub.refl _ | apply Sub.drop)), (by first | exact ⟨rfl, rfl⟩ | (exfalso; apply h1; rfl))⟩
  · refine sr_x rfl (wtd_none rfl) rfl (Rd.x (x_assign rfl)) ?_
    refine sr_nil ?_
    refine aw_keep (keep_cons (t := 0) rfl keep_nil) ?_
    refine aw_ret ?_
    show ∃ v H2, ResV _ _ _ _ _ _ v ∧ Sub H2 _ ∧ _
    exact ⟨_, H, resV rfl (.cons rfl .nil), (by repeat (first | exact Sub.refl _ | apply Sub.drop)), (by first | exact ⟨rfl, rfl⟩ | (exfalso; apply h1; rfl))⟩
end
end Go.Proofs.Ytlhmoojffopheaa
