/- Planning: the example. -/
import Derived.Test.YtjkojdjjooangaaPlnRef
namespace Go.Proofs.Ytjkojdjjooangaa
open Go.Proofs.Ytjkojdjjooangaa.Sym
open Go.RowKit (Below)
set_option linter.unusedVariables false
set_option linter.unusedSimpArgs false
theorem aw_ok : ∀ x ∈ ([⟨1, 3, 10, -1⟩, ⟨2, 3, 10, -1⟩, ⟨3, 1, 10, -1⟩] : List Item).take (9 : Int).toNat, RightI x := by
  intro x hx
  have hx2 : x ∈ ([⟨1, 3, 10, -1⟩, ⟨2, 3, 10, -1⟩, ⟨3, 1, 10, -1⟩] : List Item) := hx
  simp at hx2
  rcases hx2 with rfl | rfl | rfl <;> (unfold RightI; decide)
theorem aw_cs {cs : List Choice} {g : Int → Int} (h : PlanK 0 (([⟨1, 3, 10, -1⟩, ⟨2, 3, 10, -1⟩, ⟨3, 1, 10, -1⟩] : List Item).take (9 : Int).toNat) (([⟨1, 3, 10, -1⟩, ⟨2, 3, 10, -1⟩, ⟨3, 1, 10, -1⟩] : List Item).take (9 : Int).toNat).length (fun _ => 4) cs g) : [⟨1, 0⟩, ⟨2, 10⟩, ⟨3, 0⟩] = cs := by
  obtain ⟨g2, h2⟩ := awP
  have h3 : PlanK 0 [⟨1, 3, 10, -1⟩, ⟨2, 3, 10, -1⟩, ⟨3, 1, 10, -1⟩] 3 (fun _ => 4) cs g := h
  exact (h2.uniq h3).1
theorem StP.rfs {S : List PStep} {now free ver : Int} {L : List PSpan} {k : Nat} (h : StP S now free L ver k) (hk : k ≤ 100) : RfS now free (atP free L) L ver 100 := ⟨fun _ _ => rfl, h.ok, h.rng, h.nw, h.fr, ⟨h.vr.1, by have := h.vr.2; omega⟩, by have := h.ln; omega⟩
theorem cl45 : Callable Try.prog 45 := ⟨Try.f45, Try.func45, by kernel_rfl, by kernel_rfl⟩
theorem fd80_1 : fldOf Try.prog 80 1 = some (1, 2, 1) := by kernel_rfl
theorem fl66 : flds Try.prog 66 = some [(0, 1), (1, 1), (2, 1), (3, 1)] := by kernel_rfl
section
variable {W0 : World}
set_option maxRecDepth 100000 in
set_option maxHeartbeats 2000000 in
theorem awake14_s (H : SHeap) : AC Try.prog W0 44 [] H (fun v H' => v = .bool true ∧ H' = H) := by
  refine ac_of Try.func44 rfl rfl rfl ?_
  refine aw_seq_region ?_
  refine sr_x rfl (wtd_none rfl) rfl (Rd.x (x_assign rfl)) ?_
  refine sr_nil ?_
  refine aw_keep (keep_cons (t := 0) rfl keep_nil) ?_
  refine aw_seq_region ?_
  refine sr_d rfl (wtd_none rfl) rfl (opS_call rfl rfl rfl rfl cl26 (pnew_s 4 _ (by decide))) ?_
  rintro _ _ ⟨p, r, rfl, V0, rfl⟩
  have hsS := V0.slv' (W0 := W0) (xs := [(⟨0, 4⟩ : PStep)]) (fun _ => rfl) rfl (Sub.refl _)
  refine sr_x rfl (wtd_none rfl) rfl (Rd.x (x_move rfl)) ?_
  refine sr_x rfl (wtd_none rfl) rfl (Rd.x (x_extract rfl rfl)) ?_
  refine sr_x rfl (wtd_none rfl) rfl (Rd.x (x_extract rfl rfl)) ?_
  refine sr_x rfl (wtd_none rfl) rfl (Rd.x (x_assign rfl)) ?_
  refine sr_x rfl (wtd_none rfl) rfl (Rd.x (x_assign rfl)) ?_
  refine sr_nil ?_
  refine aw_keep (keep_cons (t := 0) rfl (keep_cons (t := 1) rfl (keep_cons (t := 2) rfl keep_nil))) ?_
  refine aw_seq_region ?_
  refine sr_x rfl (wtd_none rfl) rfl (Rd.x (x_move rfl)) ?_
  refine sr_x rfl (wtd_none rfl) rfl (Rd.x (x_build zr66 rfl fl66 (by repeat (first | exact Parts.nil | (apply Parts.cons; rfl))) (by repeat (first | exact Fill.done | (apply Fill.part; rfl; rfl; rfl; focus (repeat (first | exact Spl.done | exact Spl.all rfl | apply Spl.put | apply Spl.skip))))))) ?_
  refine sr_x rfl (wtd_none rfl) rfl (Rd.x (x_build zr66 rfl fl66 (by repeat (first | exact Parts.nil | (apply Parts.cons; rfl))) (by repeat (first | exact Fill.done | (apply Fill.part; rfl; rfl; rfl; focus (repeat (first | exact Spl.done | exact Spl.all rfl | apply Spl.put | apply Spl.skip))))))) ?_
  refine sr_x rfl (wtd_none rfl) rfl (Rd.x (x_build zr66 rfl fl66 (by repeat (first | exact Parts.nil | (apply Parts.cons; rfl))) (by repeat (first | exact Fill.done | (apply Fill.part; rfl; rfl; rfl; focus (repeat (first | exact Spl.done | exact Spl.all rfl | apply Spl.put | apply Spl.skip))))))) ?_
  refine sr_new rfl (wtd_none rfl) rfl (x_buildSlice Try.underlying58 sz66 zr66 rfl rfl rfl rfl (by repeat (first | exact Parts.nil | (apply Parts.cons; rfl))) (by repeat (first | exact Fill.done | (apply Fill.part; rfl; rfl; rfl; focus (repeat (first | exact Spl.done | exact Spl.all rfl | apply Spl.put | apply Spl.skip)))))) ?_
  intro r2_4 hr2_4 gr2_4
  refine sr_d rfl (wtd_none rfl) rfl (opS_call rfl rfl rfl rfl cl45 (yall_s p (some ⟨r, 0, none⟩) 1 [⟨0, 4⟩] 0 _ (cells_ext (by repeat (first | exact List.mem_cons_self | apply List.mem_cons_of_mem | apply List.mem_append_right)) (by repeat (first | exact Ext.all _ | exact Ext.done | apply Ext.take | apply Ext.skip))) (hsS.mono (by first | exact Sub.drop (Sub.drop (Sub.keep (Sub.nil _))) | exact Sub.drop (Sub.drop (Sub.refl _)) | exact (Sub.takeE0 (by repeat (first | exact TakeE.here | apply TakeE.there | apply TakeE.app))))) (by decide) (by decide) 9 (some ⟨r2_4, 0, none⟩) 3 [⟨1, 3, 10, -1⟩, ⟨2, 3, 10, -1⟩, ⟨3, 1, 10, -1⟩] (slv_own (n := 4) (enc := Item.cells) (xs := [⟨1, 3, 10, -1⟩, ⟨2, 3, 10, -1⟩, ⟨3, 1, 10, -1⟩]) (post := []) (fun _ => rfl) (by repeat (first | exact List.mem_cons_self | apply List.mem_cons_of_mem | apply List.mem_append_right))) (by decide) aw_ok 0 (fun _ => 4) (rep_new 4) (fun t _ => by show 0 ≤ (4 : Int) ∧ (4 : Int) ≤ 64; decide) (by decide) (by decide) (by decide))) ?_
  rintro _ _ ⟨cs, f', E2, a2, c2, rfl, hpl, V2, hcl, rfl⟩
  obtain rfl := aw_cs hpl
  have hsc := V2.slv' (W0 := W0) (fun _ => rfl) rfl (Sub.refl _)
  obtain ⟨b0, o0, ha0, hc0⟩ := hsc.at_ 0 ⟨1, 0⟩ rfl
  obtain ⟨b1, o1, ha1, hc1⟩ := hsc.at_ 1 ⟨2, 10⟩ rfl
  obtain ⟨b2, o2, ha2, hc2⟩ := hsc.at_ 2 ⟨3, 0⟩ rfl
  have hcc := hsc.le
  have hcb := hsc.capb
  dsimp only [List.length_cons, List.length_nil] at hcc
  refine sr_x rfl (wtd_none rfl) rfl (Rd.x (x_move rfl)) ?_
  refine sr_x rfl (wtd_none rfl) rfl (Rd.x (x_extract rfl rfl)) ?_
  refine sr_x rfl (wtd_none rfl) rfl (Rd.x (x_extract rfl rfl)) ?_
  refine sr_x rfl (wtd_none rfl) rfl (Rd.x (x_assign rfl)) ?_
  refine sr_x rfl (wtd_none rfl) rfl (Rd.x (x_assign rfl)) ?_
  refine sr_nil ?_
  refine aw_keep (keep_cons (t := 0) rfl (keep_cons (t := 2) rfl (keep_cons (t := 3) rfl (keep_cons (t := 4) rfl keep_nil)))) ?_
  refine aw_seq_region ?_
  refine sr_x rfl (wtd_none rfl) rfl (Rd.x (x_move rfl)) ?_
  refine sr_cmp rfl (wtd_none rfl) rfl (Rd.x (x_eq rfl rfl)) (fun h1 => ?_) (fun h1 => absurd (by first | omega | decide) h1)
  refine sr_x rfl (wtd_none rfl) rfl (Rd.x (x_move rfl)) ?_
  refine sr_x rfl (wtd_yes rfl rfl rfl) rfl (Rd.x (x_move rfl)) ?_
  refine sr_cmp rfl (wtd_yes rfl rfl rfl) rfl (Rd.x (x_eq rfl rfl)) (fun h2 => ?_) (fun h2 => absurd (by first | omega | decide) h2)
  refine sr_x rfl (wtd_none rfl) rfl (Rd.x (x_pick_t rfl rfl rfl)) ?_
  refine sr_x rfl (wtd_none rfl) rfl (Rd.x (x_move rfl)) ?_
  refine sr_x rfl (wtd_yes rfl rfl rfl) rfl (Rd.x (x_move rfl)) ?_
  refine sr_x rfl (wtd_yes rfl rfl rfl) rfl (Rd.x (x_lenSlice Try.underlying61 rfl)) ?_
  refine sr_cmp rfl (wtd_yes rfl rfl rfl) rfl (Rd.x (x_eq rfl rfl)) (fun h3 => ?_) (fun h3 => absurd (by rfl) h3)
  refine sr_x rfl (wtd_none rfl) rfl (Rd.x (x_pick_t rfl rfl rfl)) ?_
  refine sr_x rfl (wtd_none rfl) rfl (Rd.x (x_move rfl)) ?_
  refine sr_x rfl (wtd_yes rfl rfl rfl) rfl (Rd.x (x_move rfl)) ?_
  refine sr_x rfl (wtd_yes rfl rfl rfl) rfl (Rd.x (x_indexAddrN 0 Try.underlying61 sz80 rfl ha0 rfl (by decide) (by omega))) ?_
  refine sr_x rfl (wtd_yes rfl rfl rfl) rfl (Rd.x (x_fieldAddr fd80_1 rfl)) ?_
  refine sr_x rfl (wtd_yes rfl rfl rfl) rfl (Rd.x (x_load ag2 rfl (cells_get (Cells.mono hc0 (Sub.takeE0 (by repeat (first | exact TakeE.here | apply TakeE.there | apply TakeE.app)))) 1 rfl))) ?_
  refine sr_cmp rfl (wtd_yes rfl rfl rfl) rfl (Rd.x (x_eq rfl rfl)) (fun h4 => ?_) (fun h4 => absurd (by first | omega | decide) h4)
  refine sr_x rfl (wtd_none rfl) rfl (Rd.x (x_pick_t rfl rfl rfl)) ?_
  refine sr_x rfl (wtd_none rfl) rfl (Rd.x (x_move rfl)) ?_
  refine sr_x rfl (wtd_yes rfl rfl rfl) rfl (Rd.x (x_move rfl)) ?_
  refine sr_x rfl (wtd_yes rfl rfl rfl) rfl (Rd.x (x_indexAddrN 1 Try.underlying61 sz80 rfl ha1 rfl (by decide) (by omega))) ?_
  refine sr_x rfl (wtd_yes rfl rfl rfl) rfl (Rd.x (x_fieldAddr fd80_1 rfl)) ?_
  refine sr_x rfl (wtd_yes rfl rfl rfl) rfl (Rd.x (x_load ag2 rfl (cells_get (Cells.mono hc1 (Sub.takeE0 (by repeat (first | exact TakeE.here | apply TakeE.there | apply TakeE.app)))) 1 rfl))) ?_
  refine sr_cmp rfl (wtd_yes rfl rfl rfl) rfl (Rd.x (x_eq rfl rfl)) (fun h5 => ?_) (fun h5 => absurd (by first | omega | decide) h5)
  refine sr_x rfl (wtd_none rfl) rfl (Rd.x (x_pick_t rfl rfl rfl)) ?_
  refine sr_x rfl (wtd_none rfl) rfl (Rd.x (x_move rfl)) ?_
  refine sr_x rfl (wtd_yes rfl rfl rfl) rfl (Rd.x (x_move rfl)) ?_
  refine sr_x rfl (wtd_yes rfl rfl rfl) rfl (Rd.x (x_indexAddrN 2 Try.underlying61 sz80 rfl ha2 rfl (by decide) (by omega))) ?_
  refine sr_x rfl (wtd_yes rfl rfl rfl) rfl (Rd.x (x_loadN ag80 sz80 rfl (Cells.mono hc2 (Sub.takeE0 (by repeat (first | exact TakeE.here | apply TakeE.there | apply TakeE.app)))) rfl)) ?_
  refine sr_x rfl (wtd_yes rfl rfl rfl) rfl (Rd.x (x_build zr80 rfl fl80 (by repeat (first | exact Parts.nil | (apply Parts.cons; rfl))) (by repeat (first | exact Fill.done | (apply Fill.part; rfl; rfl; rfl; focus (repeat (first | exact Spl.done | exact Spl.all rfl | apply Spl.put | apply Spl.skip))))))) ?_
  refine sr_cmp rfl (wtd_yes rfl rfl rfl) rfl (Rd.x (x_eqStruct Try.underlying80 ks80 rfl rfl rfl rfl rfl)) (fun h6 => ?_) (fun h6 => absurd (by rfl) h6)
  refine sr_x rfl (wtd_none rfl) rfl (Rd.x (x_pick_t rfl rfl rfl)) ?_
  refine sr_x rfl (wtd_none rfl) rfl (Rd.x (x_assign rfl)) ?_
  refine sr_nil ?_
  refine aw_keep (keep_cons (t := 0) rfl keep_nil) ?_
  refine aw_ret ?_
  show ∃ v H2, ResV _ _ _ _ _ _ v ∧ Sub H2 _ ∧ _
  exact ⟨_, H, resV rfl (.cons rfl .nil), (by repeat (first | exact Sub.refl _ | apply Sub.drop | apply Sub.dropE)), ⟨rfl, rfl⟩⟩
end
end Go.Proofs.Ytjkojdjjooangaa
