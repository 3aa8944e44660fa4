/- Graphs: Add, Waits, the law's made. -/
import Derived.Test.YtonpnkekcipmlaaDpb
namespace Go.Proofs.Ytonpnkekcipmlaa
open Go.Proofs.Ytonpnkekcipmlaa.Sym
open Go.RowKit (Below)
set_option linter.unusedVariables false
set_option linter.unusedSimpArgs false
structure MdG where
  k : Nat
  E : List DEdge
  a1 : Option Addr
  c1 : Nat
  E1 : SHeap
  a2 : Option Addr
  c2 : Nat
  E2 : SHeap
theorem awk1 : AddD [] ⟨2, 1, 1⟩ 0 [⟨2, 1, 1⟩] := .ok (by decide) (fun x h => by cases h) fun h => by
  rcases rch_mem h with q | ⟨e, he, _⟩
  · revert q; decide
  · cases he
theorem awk2 : AddD [⟨2, 1, 1⟩] ⟨3, 2, 2⟩ 0 [⟨2, 1, 1⟩, ⟨3, 2, 2⟩] := .ok (by decide) (fun x h => by simp at h; subst h; simp) fun h => by
  rcases rch_mem h with q | ⟨e, he, q⟩
  · revert q; decide
  · simp at he; subst he; revert q; decide
theorem awk3 : AddD [⟨2, 1, 1⟩, ⟨3, 2, 2⟩] ⟨1, 3, 3⟩ 15 [⟨2, 1, 1⟩, ⟨3, 2, 2⟩] := .cyc (by decide) (fun x h => by simp at h; rcases h with rfl | rfl <;> simp) (Rch.step (e := ⟨3, 2, 2⟩) (by simp) (Rch.step (e := ⟨2, 1, 1⟩) (by simp) (.refl _)))
theorem own_none {s : Nat} {t : TypeId} {n c m : Nat} {L : List Value} {E : SHeap} (h : OwnVec s t (.slice none n c) m L E) : E = [] := by cases h; rfl
theorem cl11 : Callable Try.prog 11 := ⟨Try.f11, Try.func11, by kernel_rfl, by kernel_rfl⟩
theorem cl12 : Callable Try.prog 12 := ⟨Try.f12, Try.func12, by kernel_rfl, by kernel_rfl⟩
theorem cl13 : Callable Try.prog 13 := ⟨Try.f13, Try.func13, by kernel_rfl, by kernel_rfl⟩
theorem cl14 : Callable Try.prog 14 := ⟨Try.f14, Try.func14, by kernel_rfl, by kernel_rfl⟩
theorem cl15 : Callable Try.prog 15 := ⟨Try.f15, Try.func15, by kernel_rfl, by kernel_rfl⟩
theorem cl30 : Callable Try.prog 30 := ⟨Try.f30, Try.func30, by kernel_rfl, by kernel_rfl⟩
theorem cl32 : Callable Try.prog 32 := ⟨Try.f32, Try.func32, by kernel_rfl, by kernel_rfl⟩
theorem cl34 : Callable Try.prog 34 := ⟨Try.f34, Try.func34, by kernel_rfl, by kernel_rfl⟩
theorem fl46 : flds Try.prog 46 = some [(0, 1), (1, 1), (2, 1)] := by kernel_rfl
theorem sz39 : szOf Try.prog 39 = some 1 := by kernel_rfl
section
variable {W0 : World}
set_option maxRecDepth 100000 in
set_option maxHeartbeats 2000000 in
theorem gadd_s (p : Nat) (a : Option Addr) (cap : Nat) (E : List DEdge) (Ei G : SHeap) (V : OwnVec 3 46 (.slice a E.length cap) E.length (E.flatMap DEdge.cells) Ei) (hl : E.length ≤ 500) (e : DEdge) : AC Try.prog W0 14 [.pointer (some ⟨p, 0, none⟩), DEdge.v e] (gB p a E.length cap :: (Ei ++ G)) (fun v H' => ∃ (r : Int) (E2 : List DEdge) (a' : Option Addr) (c' : Nat) (Eo : SHeap), v = .int .i64 r ∧ AddD E e r E2 ∧ OwnVec 3 46 (.slice a' E2.length c') E2.length (E2.flatMap DEdge.cells) Eo ∧ H' = gB p a' E2.length c' :: (Eo ++ G)) := by
  have hc : Cells W0 (gB p a E.length cap :: (Ei ++ G)) p 0 [.slice a E.length cap, .bool true] := cells_ext (H := gB p a E.length cap :: (Ei ++ G)) List.mem_cons_self (Ext.all _)
  have hs := V.slv' (W0 := W0) (fun _ => rfl) rfl (Sub.refl _)
  have hle := hs.le
  have hcb := hs.capb
  refine ac_of Try.func14 rfl rfl rfl ?_
  refine aw_seq_region ?_
  refine sr_new rfl (wtd_none rfl) rfl (x_box rfl rfl) ?_
  intro r0_0 hr0_0 gr0_0
  refine sr_as ?_
  refine sr_nil ?_
  refine aw_kp [0, 3, 4] ?_
  refine aw_seq ?_
  refine aw_block ?_
  refine aw_seq_region ?_
  refine sr_mv ?_
  refine sr_d rfl (wtd_none rfl) rfl (opS_call rfl rfl rfl rfl cl29 (gnoneT_s p _ _ (Cells.mono hc Sub.autoR))) ?_
  rintro _ H9 ⟨rfl, rfl⟩
  refine sr_as ?_
  refine sr_nil ?_
  refine aw_kp [0, 3, 4, 5] ?_
  refine aw_false rfl ?_
  refine aw_seq_region ?_
  refine sr_rd (x_fieldAddr fd46_0 rfl) ?_
  refine sr_rd (x_load ag3 rfl (cells_ext mauto Ext.auto)) ?_
  refine sr_c (x_lt rfl rfl) (fun h1 => ?_) (fun h1 => ?_)
  · refine sr_mv ?_
    refine sr_sk ?_
    refine sr_sk ?_
    refine sr_sk ?_
    refine sr_rd (x_pick_t rfl rfl rfl) ?_
    refine sr_mv ?_
    refine sr_sk ?_
    refine sr_sk ?_
    refine sr_sk ?_
    refine sr_rd (x_pick_t rfl rfl rfl) ?_
    refine sr_mv ?_
    refine sr_sk ?_
    refine sr_sk ?_
    refine sr_sk ?_
    refine sr_rd (x_pick_t rfl rfl rfl) ?_
    refine sr_as ?_
    refine sr_nil ?_
    refine aw_kp [0, 3, 4, 8] ?_
    refine aw_true rfl ?_
    refine aw_seq_region ?_
    refine sr_as ?_
    refine sr_nil ?_
    refine aw_kp [0, 3, 4] ?_
    refine aw_ret ?_
    show ∃ v H2, ResV _ _ _ _ _ _ v ∧ Sub H2 _ ∧ _
    first | exact ⟨_, gB p a E.length cap :: (Ei ++ G), resV rfl (.cons rfl .nil), Sub.autoP, 1, E, a, cap, Ei, rfl, .arg (by first | exact .inl (by omega) | exact .inr (.inl (by omega)) | exact .inr (.inr (.inl (by omega))) | exact .inr (.inr (.inr (by omega)))), V, rfl⟩ | exact ⟨_, gB p a E.length cap :: (Ei ++ G), resV rfl (.cons rfl .nil), Sub.autoP, 13, E, a, cap, Ei, rfl, .twice (fun q => by omega) (any_twE.1 hd), V, rfl⟩ | exact ⟨_, gB p a E.length cap :: (Ei ++ G), resV rfl (.cons rfl .nil), Sub.autoP, 15, E, a, cap, Ei, rfl, .cyc (fun q => by omega) (not_any_twE hd) (hb.1 rfl), V, rfl⟩ | exact ⟨_, gB p a55 (E ++ [e]).length cap55 :: (E55 ++ G), resV rfl (.cons rfl .nil), (by rw [List.length_append]; exact Sub.autoP), 0, E ++ [e], a55, cap55, E55, rfl, .ok (fun q => by omega) (not_any_twE hd) (fun q => by have := hb.2 q; cases this), OwnVec.snocS hV55, rfl⟩
  · refine sr_mv ?_
    refine sr_ry (x_fieldAddr fd46_1 rfl) ?_
    refine sr_ry (x_load ag3 rfl (cells_ext mauto Ext.auto)) ?_
    refine sr_cy (x_lt rfl rfl) (fun h2 => ?_) (fun h2 => ?_)
    · refine sr_rd (x_pick_f rfl rfl rfl) ?_
      refine sr_mv ?_
      refine sr_sk ?_
      refine sr_sk ?_
      refine sr_sk ?_
      refine sr_rd (x_pick_t rfl rfl rfl) ?_
      refine sr_mv ?_
      refine sr_sk ?_
      refine sr_sk ?_
      refine sr_sk ?_
      refine sr_rd (x_pick_t rfl rfl rfl) ?_
      refine sr_as ?_
      refine sr_nil ?_
      refine aw_kp [0, 3, 4, 8] ?_
      refine aw_true rfl ?_
      refine aw_seq_region ?_
      refine sr_as ?_
      refine sr_nil ?_
      refine aw_kp [0, 3, 4] ?_
      refine aw_ret ?_
      show ∃ v H2, ResV _ _ _ _ _ _ v ∧ Sub H2 _ ∧ _
      first | exact ⟨_, gB p a E.length cap :: (Ei ++ G), resV rfl (.cons rfl .nil), Sub.autoP, 1, E, a, cap, Ei, rfl, .arg (by first | exact .inl (by omega) | exact .inr (.inl (by omega)) | exact .inr (.inr (.inl (by omega))) | exact .inr (.inr (.inr (by omega)))), V, rfl⟩ | exact ⟨_, gB p a E.length cap :: (Ei ++ G), resV rfl (.cons rfl .nil), Sub.autoP, 13, E, a, cap, Ei, rfl, .twice (fun q => by omega) (any_twE.1 hd), V, rfl⟩ | exact ⟨_, gB p a E.length cap :: (Ei ++ G), resV rfl (.cons rfl .nil), Sub.autoP, 15, E, a, cap, Ei, rfl, .cyc (fun q => by omega) (not_any_twE hd) (hb.1 rfl), V, rfl⟩ | exact ⟨_, gB p a55 (E ++ [e]).length cap55 :: (E55 ++ G), resV rfl (.cons rfl .nil), (by rw [List.length_append]; exact Sub.autoP), 0, E ++ [e], a55, cap55, E55, rfl, .ok (fun q => by omega) (not_any_twE hd) (fun q => by have := hb.2 q; cases this), OwnVec.snocS hV55, rfl⟩
    · refine sr_rd (x_pick_f rfl rfl rfl) ?_
      refine sr_mv ?_
      refine sr_ry (x_fieldAddr fd46_2 rfl) ?_
      refine sr_ry (x_load ag3 rfl (cells_ext mauto Ext.auto)) ?_
      refine sr_cy (x_lt rfl rfl) (fun h3 => ?_) (fun h3 => ?_)
      · refine sr_rd (x_pick_f rfl rfl rfl) ?_
        refine sr_mv ?_
        refine sr_sk ?_
        refine sr_sk ?_
        refine sr_sk ?_
        refine sr_rd (x_pick_t rfl rfl rfl) ?_
        refine sr_as ?_
        refine sr_nil ?_
        refine aw_kp [0, 3, 4, 8] ?_
        refine aw_true rfl ?_
        refine aw_seq_region ?_
        refine sr_as ?_
        refine sr_nil ?_
        refine aw_kp [0, 3, 4] ?_
        refine aw_ret ?_
        show ∃ v H2, ResV _ _ _ _ _ _ v ∧ Sub H2 _ ∧ _
        first | exact ⟨_, gB p a E.length cap :: (Ei ++ G), resV rfl (.cons rfl .nil), Sub.autoP, 1, E, a, cap, Ei, rfl, .arg (by first | exact .inl (by omega) | exact .inr (.inl (by omega)) | exact .inr (.inr (.inl (by omega))) | exact .inr (.inr (.inr (by omega)))), V, rfl⟩ | exact ⟨_, gB p a E.length cap :: (Ei ++ G), resV rfl (.cons rfl .nil), Sub.autoP, 13, E, a, cap, Ei, rfl, .twice (fun q => by omega) (any_twE.1 hd), V, rfl⟩ | exact ⟨_, gB p a E.length cap :: (Ei ++ G), resV rfl (.cons rfl .nil), Sub.autoP, 15, E, a, cap, Ei, rfl, .cyc (fun q => by omega) (not_any_twE hd) (hb.1 rfl), V, rfl⟩ | exact ⟨_, gB p a55 (E ++ [e]).length cap55 :: (E55 ++ G), resV rfl (.cons rfl .nil), (by rw [List.length_append]; exact Sub.autoP), 0, E ++ [e], a55, cap55, E55, rfl, .ok (fun q => by omega) (not_any_twE hd) (fun q => by have := hb.2 q; cases this), OwnVec.snocS hV55, rfl⟩
      · refine sr_rd (x_pick_f rfl rfl rfl) ?_
        refine sr_mv ?_
        refine sr_ry (x_fieldAddr fd46_2 rfl) ?_
        refine sr_ry (x_load ag3 rfl (cells_ext mauto Ext.auto)) ?_
        refine sr_cy (x_gt rfl rfl) (fun h4 => ?_) (fun h4 => ?_)
        · refine sr_rd (x_pick_f rfl rfl rfl) ?_
          refine sr_as ?_
          refine sr_nil ?_
          refine aw_kp [0, 3, 4, 8] ?_
          refine aw_true rfl ?_
          refine aw_seq_region ?_
          refine sr_as ?_
          refine sr_nil ?_
          refine aw_kp [0, 3, 4] ?_
          refine aw_ret ?_
          show ∃ v H2, ResV _ _ _ _ _ _ v ∧ Sub H2 _ ∧ _
          first | exact ⟨_, gB p a E.length cap :: (Ei ++ G), resV rfl (.cons rfl .nil), Sub.autoP, 1, E, a, cap, Ei, rfl, .arg (by first | exact .inl (by omega) | exact .inr (.inl (by omega)) | exact .inr (.inr (.inl (by omega))) | exact .inr (.inr (.inr (by omega)))), V, rfl⟩ | exact ⟨_, gB p a E.length cap :: (Ei ++ G), resV rfl (.cons rfl .nil), Sub.autoP, 13, E, a, cap, Ei, rfl, .twice (fun q => by omega) (any_twE.1 hd), V, rfl⟩ | exact ⟨_, gB p a E.length cap :: (Ei ++ G), resV rfl (.cons rfl .nil), Sub.autoP, 15, E, a, cap, Ei, rfl, .cyc (fun q => by omega) (not_any_twE hd) (hb.1 rfl), V, rfl⟩ | exact ⟨_, gB p a55 (E ++ [e]).length cap55 :: (E55 ++ G), resV rfl (.cons rfl .nil), (by rw [List.length_append]; exact Sub.autoP), 0, E ++ [e], a55, cap55, E55, rfl, .ok (fun q => by omega) (not_any_twE hd) (fun q => by have := hb.2 q; cases this), OwnVec.snocS hV55, rfl⟩
        · refine sr_rd (x_pick_f rfl rfl rfl) ?_
          refine sr_as ?_
          refine sr_nil ?_
          refine aw_kp [0, 3, 4, 8] ?_
          refine aw_false rfl ?_
          refine aw_seq_region ?_
          refine sr_mv ?_
          refine sr_rd (x_nilCheck rfl) ?_
          refine sr_rd (x_fieldAddr fd62_0 rfl) ?_
          refine sr_rd (x_load ag39 rfl (cells_ext mauto Ext.auto)) ?_
          refine sr_rd (x_makeFunc rfl rfl) ?_
          refine sr_d rfl (wtd_none rfl) rfl (opS_call rfl rfl rfl rfl cl30 (gcon_s a cap E _ (hs.mono Sub.autoE) e r0_0 (cells_ext mauto Ext.auto))) ?_
          rintro _ H9 ⟨rfl, rfl⟩
          generalize hd : E.any (twE e) = d1
          cases d1
          · refine sr_as ?_
            refine sr_nil ?_
            refine aw_kp [0, 3, 4, 27] ?_
            refine aw_false rfl ?_
            refine aw_seq_region ?_
            refine sr_mv ?_
            refine sr_rd (x_fieldAddr fd46_1 rfl) ?_
            refine sr_rd (x_load ag3 rfl (cells_ext mauto Ext.auto)) ?_
            refine sr_rd (x_fieldAddr fd46_0 rfl) ?_
            refine sr_rd (x_load ag3 rfl (cells_ext mauto Ext.auto)) ?_
            refine sr_d rfl (wtd_none rfl) rfl (opS_call rfl rfl rfl rfl cl32 (gleads_s p a cap E _ (Cells.mono hc Sub.autoR) (hs.mono Sub.autoE) hl e.for_ e.job)) ?_
            rintro _ H9 ⟨⟨b, rfl, hb⟩, rfl⟩
            cases b
            · refine sr_as ?_
              refine sr_nil ?_
              refine aw_kp [0, 3, 4, 34] ?_
              refine aw_false rfl ?_
              refine aw_seq_region ?_
              refine sr_mv ?_
              refine sr_rd (x_nilCheck rfl) ?_
              refine sr_rd (x_fieldAddr fd62_0 rfl) ?_
              refine sr_rd (x_load ag39 rfl (cells_ext mauto Ext.auto)) ?_
              refine sr_rd (x_lenSlice Try.underlying39 rfl) ?_
              refine sr_c (x_ge rfl rfl) (fun h5 => absurd h5 (by first | omega | decide)) (fun h5 => ?_)
              refine sr_as ?_
              refine sr_nil ?_
              refine aw_kp [0, 3, 4, 41] ?_
              refine aw_false rfl ?_
              refine aw_skip ?_
              show AW _ _ _ _ _ _ _
              refine aw_seq_dr ⟨_, 11, 58, [[], [], [1], [1, 2], [1, 2, 3], [], [5], [1, 2, 3, 4, 5, 6], [0, 1, 2, 3, 4, 5, 6, 7], [0, 1, 2, 3, 4, 5, 6, 7, 8], [0, 1, 2, 3, 4, 5, 6, 7, 8, 9]], [.light, .light, .light, .light, .mem, .mem, .alloc, .eff, .light, .light, .eff]⟩ (by kernel_rfl) rfl rfl mix ?_
              refine dr_l (x_move rfl) ?_
              refine dr_l (x_move rfl) ?_
              refine dr_l (x_nilCheck rfl) ?_
              refine dr_l (x_fieldAddr fd62_0 rfl) ?_
              refine dr_mem0 rfl rfl (wtd_none rfl) (x_load ag39 rfl (cells_ext mauto Ext.auto)) ?_
              refine dr_mem0 rfl rfl (wtd_none rfl) (x_loadN ag46 sz46 rfl (cells_ext mauto Ext.auto) rfl) ?_
              refine dr_alloc rfl rfl (wtd_none rfl) (x_buildSlice Try.underlying39 sz46 zr46 rfl rfl rfl rfl Parts.auto Fill.auto) ?_
              intro r11_6 hr11_6 gr11_6
              refine dr_eff rfl (V := [(r11_6, _)]) rfl (L' := []) (clear_all rfl) rfl (wtd_none rfl) (opSF_append (G := (r11_6, .cells (DEdge.cells e).toArray 46 (0, 0)) :: (r0_0, .cells (DEdge.cells e).toArray 46 (0, 0)) :: gB p a E.length cap :: G) (N := (DEdge.cells e)) (m := 1) Try.underlying39 sz46 zr46 rfl by46 rfl rfl V Sub.autoP (.inr ⟨_, _, rfl, (cells_ext mauto Ext.auto)⟩) (rfl) rfl (by omega) (by omega)) (append_fresh (G := (r11_6, .cells (DEdge.cells e).toArray 46 (0, 0)) :: (r0_0, .cells (DEdge.cells e).toArray 46 (0, 0)) :: gB p a E.length cap :: G) (N := (DEdge.cells e)) (m := 1) V (rfl) (by omega) Sub.autoP) ?_
              rintro v55 _ ⟨E55, hV55, rfl⟩
              obtain ⟨a55, cap55, rfl⟩ := hV55.isSl
              refine dr_l (x_nilCheck rfl) ?_
              refine dr_l (x_fieldAddr fd62_0 rfl) ?_
              refine dr_store0 rfl rfl (wtd_none rfl) (x_store sz39 rfl rfl rfl rfl rfl Repl.auto Spl.auto) (by first | rfl | simp [keys_append, keys_cons]) ?_
              refine dr_nil0 ?_
              refine aw_kp [4] ?_
              refine aw_seq_region ?_
              refine sr_as ?_
              refine sr_nil ?_
              refine aw_kp [4] ?_
              refine aw_ret ?_
              show ∃ v H2, ResV _ _ _ _ _ _ v ∧ Sub H2 _ ∧ _
              first | exact ⟨_, gB p a E.length cap :: (Ei ++ G), resV rfl (.cons rfl .nil), Sub.autoP, 1, E, a, cap, Ei, rfl, .arg (by first | exact .inl (by omega) | exact .inr (.inl (by omega)) | exact .inr (.inr (.inl (by omega))) | exact .inr (.inr (.inr (by omega)))), V, rfl⟩ | exact ⟨_, gB p a E.length cap :: (Ei ++ G), resV rfl (.cons rfl .nil), Sub.autoP, 13, E, a, cap, Ei, rfl, .twice (fun q => by omega) (any_twE.1 hd), V, rfl⟩ | exact ⟨_, gB p a E.length cap :: (Ei ++ G), resV rfl (.cons rfl .nil), Sub.autoP, 15, E, a, cap, Ei, rfl, .cyc (fun q => by omega) (not_any_twE hd) (hb.1 rfl), V, rfl⟩ | exact ⟨_, gB p a55 (E ++ [e]).length cap55 :: (E55 ++ G), resV rfl (.cons rfl .nil), (by rw [List.length_append]; exact Sub.autoP), 0, E ++ [e], a55, cap55, E55, rfl, .ok (fun q => by omega) (not_any_twE hd) (fun q => by have := hb.2 q; cases this), OwnVec.snocS hV55, rfl⟩
            · refine sr_as ?_
              refine sr_nil ?_
              refine aw_kp [0, 3, 4, 34] ?_
              refine aw_true rfl ?_
              refine aw_seq_region ?_
              refine sr_as ?_
              refine sr_nil ?_
              refine aw_kp [0, 3, 4] ?_
              refine aw_ret ?_
              show ∃ v H2, ResV _ _ _ _ _ _ v ∧ Sub H2 _ ∧ _
              first | exact ⟨_, gB p a E.length cap :: (Ei ++ G), resV rfl (.cons rfl .nil), Sub.autoP, 1, E, a, cap, Ei, rfl, .arg (by first | exact .inl (by omega) | exact .inr (.inl (by omega)) | exact .inr (.inr (.inl (by omega))) | exact .inr (.inr (.inr (by omega)))), V, rfl⟩ | exact ⟨_, gB p a E.length cap :: (Ei ++ G), resV rfl (.cons rfl .nil), Sub.autoP, 13, E, a, cap, Ei, rfl, .twice (fun q => by omega) (any_twE.1 hd), V, rfl⟩ | exact ⟨_, gB p a E.length cap :: (Ei ++ G), resV rfl (.cons rfl .nil), Sub.autoP, 15, E, a, cap, Ei, rfl, .cyc (fun q => by omega) (not_any_twE hd) (hb.1 rfl), V, rfl⟩ | exact ⟨_, gB p a55 (E ++ [e]).length cap55 :: (E55 ++ G), resV rfl (.cons rfl .nil), (by rw [List.length_append]; exact Sub.autoP), 0, E ++ [e], a55, cap55, E55, rfl, .ok (fun q => by omega) (not_any_twE hd) (fun q => by have := hb.2 q; cases this), OwnVec.snocS hV55, rfl⟩
          · refine sr_as ?_
            refine sr_nil ?_
            refine aw_kp [0, 3, 4, 27] ?_
            refine aw_true rfl ?_
            refine aw_seq_region ?_
            refine sr_as ?_
            refine sr_nil ?_
            refine aw_kp [0, 3, 4] ?_
            refine aw_ret ?_
            show ∃ v H2, ResV _ _ _ _ _ _ v ∧ Sub H2 _ ∧ _
            first | exact ⟨_, gB p a E.length cap :: (Ei ++ G), resV rfl (.cons rfl .nil), Sub.autoP, 1, E, a, cap, Ei, rfl, .arg (by first | exact .inl (by omega) | exact .inr (.inl (by omega)) | exact .inr (.inr (.inl (by omega))) | exact .inr (.inr (.inr (by omega)))), V, rfl⟩ | exact ⟨_, gB p a E.length cap :: (Ei ++ G), resV rfl (.cons rfl .nil), Sub.autoP, 13, E, a, cap, Ei, rfl, .twice (fun q => by omega) (any_twE.1 hd), V, rfl⟩ | exact ⟨_, gB p a E.length cap :: (Ei ++ G), resV rfl (.cons rfl .nil), Sub.autoP, 15, E, a, cap, Ei, rfl, .cyc (fun q => by omega) (not_any_twE hd) (hb.1 rfl), V, rfl⟩ | exact ⟨_, gB p a55 (E ++ [e]).length cap55 :: (E55 ++ G), resV rfl (.cons rfl .nil), (by rw [List.length_append]; exact Sub.autoP), 0, E ++ [e], a55, cap55, E55, rfl, .ok (fun q => by omega) (not_any_twE hd) (fun q => by have := hb.2 q; cases this), OwnVec.snocS hV55, rfl⟩
set_option maxRecDepth 100000 in
set_option maxHeartbeats 1000000 in
theorem gwaits_s (p : Nat) (a : Option Addr) (cap : Nat) (E : List DEdge) (H : SHeap) (hc : Cells W0 H p 0 [.slice a E.length cap, .bool true]) (hs : SlV W0 H 3 DEdge.cells a cap E) (hl : E.length ≤ 200) (hD : DgI E) (id : Int) : AC Try.prog W0 19 [.pointer (some ⟨p, 0, none⟩), .int .i64 id] H (fun v H' => ∃ (X : List Int) (a' : Option Addr) (c' : Nat) (E' : SHeap), v = .slice a' X.length c' ∧ Tms (outs E id) X ∧ X.length ≤ 200 ∧ OwnVec 1 3 (.slice a' X.length c') X.length (X.flatMap intC) E' ∧ H' = E' ++ H) := by
  refine ac_of Try.func19 rfl rfl rfl ?_
  refine aw_seq_region ?_
  refine sr_as ?_
  refine sr_nil ?_
  refine aw_kp [0, 1, 4] ?_
  refine aw_seq_region ?_
  refine sr_as ?_
  refine sr_nil ?_
  refine aw_kp [0, 1, 4, 5] ?_
  refine aw_seq ?_
  refine aw_seq_region ?_
  refine sr_mv ?_
  refine sr_d rfl (wtd_none rfl) rfl (opS_call rfl rfl rfl rfl cl15 (gedges_s p a cap E _ hc hs (by omega))) ?_
  rintro _ _ ⟨E0, ⟨a0, c0, V0, rfl⟩, rfl⟩
  have hs3 := V0.slv' (W0 := W0) (fun _ => rfl) rfl (Sub.refl _)
  have hle := hs3.le
  have hcb := hs3.capb
  refine sr_rd (x_lenSlice Try.underlying39 rfl) ?_
  refine sr_mv ?_
  refine sr_nil ?_
  refine aw_kp [1, 4, 5, 9, 10, 11] ?_
  refine aw_block ?_
  refine aw_loop (ι := IvG) (fun s => s.k ≤ E.length ∧ s.X = outs (E.take s.k) id ∧ OwnVec 1 3 (.slice s.a s.X.length s.c) s.X.length (s.X.flatMap intC) s.E) (fun s => [(1, .int .i64 id), (5, .slice s.a s.X.length s.c), (9, .slice a0 E.length c0), (10, .int .i64 E.length), (11, .int .i64 s.k)]) (fun s => s.E ++ (E0 ++ H)) (fun s => E.length - s.k) ⟨0, [], none, 0, []⟩ (⟨Nat.zero_le _, rfl, .nil⟩) KeepF.auto Sub.autoP ?_
  intro s hs9
  obtain ⟨k, X, a1, c1, E1⟩ := s
  dsimp only at hs9 ⊢
  obtain ⟨hk, hX, V1⟩ := hs9
  have hXl : X.length ≤ k := by (rw [hX]; have := outs_len (E.take k) id; rw [List.length_take] at this; omega)
  refine aw_seq_region ?_
  refine sr_c (x_lt rfl rfl) (fun h1 => ?_) (fun h1 => ?_)
  · refine sr_nil ?_
    refine aw_kp [1, 5, 9, 10, 11, 12] ?_
    refine aw_seq ?_
    refine aw_true rfl ?_
    refine aw_skip ?_
    show AW _ _ _ _ _ _ _
    refine aw_seq ?_
    refine aw_block ?_
    refine aw_seq_region ?_
    obtain ⟨e, he⟩ := get_ex (show k < E.length by omega)
    obtain ⟨be, oe, hae, hce⟩ := hs3.at_ _ _ he
    refine sr_rd (x_indexAddrN (k) Try.underlying39 sz46 rfl hae rfl (by omega) (by omega)) ?_
    refine sr_rd (x_loadN ag46 sz46 rfl (Cells.mono hce Sub.autoE) rfl) ?_
    refine sr_new rfl (wtd_none rfl) rfl (x_alloc zr46 rfl) ?_
    intro r4_2 hr4_2 gr4_2
    refine sr_x0 rfl (wtd_none rfl) (x_store sz46 rfl rfl rfl rfl rfl Repl.auto Spl.auto) ?_
    refine sr_nil ?_
    refine aw_kp [1, 5, 7, 9, 10, 11, 12, 13, 14] ?_
    refine aw_seq_region ?_
    refine sr_rd (x_fieldAddr fd46_0 rfl) ?_
    refine sr_rd (x_load ag3 rfl (cells_ext mauto Ext.auto)) ?_
    refine sr_mv ?_
    refine sr_c (x_eq rfl rfl) (fun h2 => ?_) (fun h2 => ?_)
    · refine sr_nil ?_
      refine aw_kp [1, 5, 7, 9, 10, 11, 12, 13, 14, 15, 16, 17, 18] ?_
      refine aw_true rfl ?_
      refine aw_region ?_
      refine sr_mv ?_
      refine sr_rd (x_fieldAddr fd46_1 rfl) ?_
      refine sr_rd (x_load ag3 rfl (cells_ext mauto Ext.auto)) ?_
      refine sr_new rfl (wtd_none rfl) rfl (x_buildSlice Try.underlying50 sz3 zr3 rfl rfl rfl rfl Parts.auto Fill.auto) ?_
      intro r6_3 hr6_3 gr6_3
      refine sr_d rfl (wtd_none rfl) rfl (opS_append (G := (r6_3, .cells [.int .i64 e.for_].toArray 3 (0, 0)) :: (r4_2, .cells (DEdge.cells e).toArray 46 (0, 0)) :: (E0 ++ H)) (N := (intC e.for_)) (m := 1) Try.underlying50 sz3 zr3 rfl by3 rfl rfl V1 Sub.autoP (.inr ⟨_, _, rfl, (cells_ext mauto Ext.auto)⟩) (rfl) rfl (by omega) (by omega)) ?_
      rintro v23 _ ⟨E23, hV23, rfl⟩
      obtain ⟨a23, cap23, rfl⟩ := hV23.isSl
      refine sr_as ?_
      refine sr_nil ?_
      show AW _ _ _ _ _ _ _
      refine aw_region ?_
      refine sr_rd (x_add' rfl rfl (i64w (by omega) (by omega))) ?_
      refine sr_mv ?_
      refine sr_nil ?_
      show ∃ s', _ ∧ _ ∧ _ ∧ _
      first | exact ⟨⟨k + 1, X ++ [e.for_], a23, cap23, E23⟩, ⟨by dsimp only; omega, (by dsimp only; rw [outs_take he, if_pos (by omega), hX]), OwnVec.snocS hV23⟩, by dsimp only; omega, (by rw [List.length_append]; exact KeepF.auto), Sub.autoD⟩ | exact ⟨⟨k + 1, X, a1, c1, E1⟩, ⟨by dsimp only; omega, (by dsimp only; rw [outs_take he, if_neg (by omega), List.append_nil, hX]), V1⟩, by dsimp only; omega, KeepF.auto, Sub.autoD⟩
    · refine sr_nil ?_
      refine aw_kp [1, 5, 7, 9, 10, 11, 12, 13, 14, 15, 16, 17, 18] ?_
      refine aw_false rfl ?_
      refine aw_skip ?_
      show AW _ _ _ _ _ _ _
      refine aw_region ?_
      refine sr_rd (x_add' rfl rfl (i64w (by omega) (by omega))) ?_
      refine sr_mv ?_
      refine sr_nil ?_
      show ∃ s', _ ∧ _ ∧ _ ∧ _
      first | exact ⟨⟨k + 1, X ++ [e.for_], a23, cap23, E23⟩, ⟨by dsimp only; omega, (by dsimp only; rw [outs_take he, if_pos (by omega), hX]), OwnVec.snocS hV23⟩, by dsimp only; omega, (by rw [List.length_append]; exact KeepF.auto), Sub.autoD⟩ | exact ⟨⟨k + 1, X, a1, c1, E1⟩, ⟨by dsimp only; omega, (by dsimp only; rw [outs_take he, if_neg (by omega), List.append_nil, hX]), V1⟩, by dsimp only; omega, KeepF.auto, Sub.autoD⟩
  · refine sr_nil ?_
    refine aw_kp [1, 5, 9, 10, 11, 12] ?_
    refine aw_seq ?_
    refine aw_false rfl ?_
    refine aw_exit ?_
    show AW _ _ _ _ _ _ _
    refine aw_seq_region ?_
    rw [List.take_of_length_le (by omega)] at hX
    refine sr_mv ?_
    refine sr_d rfl (wtd_none rfl) rfl (opS_call rfl rfl rfl rfl cl34 (mV_s a1 c1 X.length X E1 (E0 ++ H) V1 rfl (by omega))) ?_
    rintro _ _ ⟨W9, E9, ⟨hp9, hs9⟩, rfl, V9, rfl⟩
    refine sr_nil ?_
    refine aw_kp [5] ?_
    refine aw_seq_region ?_
    refine sr_mv ?_
    refine sr_as ?_
    refine sr_nil ?_
    refine aw_kp [4] ?_
    refine aw_ret ?_
    show ∃ v H2, ResV _ _ _ _ _ _ v ∧ Sub H2 _ ∧ _
    (have hl9 := hp9.length_eq); (have hT := asc_sorted (outs_nodup hD id) (hX ▸ hp9) (sri_pw hs9 hl9)); exact ⟨_, E9 ++ H, resV rfl (.cons rfl .nil), Sub.autoP, W9, a1, c1, E9, (by rw [hl9]; rfl), hT, (by omega), (by rw [hl9]; exact V9), rfl⟩
set_option maxRecDepth 100000 in
set_option maxHeartbeats 400000 in
theorem gwaitsF_s (p : Nat) (sl : Value) (H : SHeap) (hc : Cells W0 H p 0 [sl, .bool false]) (id : Int) : AC Try.prog W0 19 [.pointer (some ⟨p, 0, none⟩), .int .i64 id] H (fun v H' => v = .slice none 0 0 ∧ H' = H) := by
  refine ac_of Try.func19 rfl rfl rfl ?_
  refine aw_seq_region ?_
  refine sr_as ?_
  refine sr_nil ?_
  refine aw_kp [0, 1, 4] ?_
  refine aw_seq_region ?_
  refine sr_as ?_
  refine sr_nil ?_
  refine aw_kp [0, 1, 4, 5] ?_
  refine aw_seq ?_
  refine aw_seq_region ?_
  refine sr_mv ?_
  refine sr_d rfl (wtd_none rfl) rfl (opS_call rfl rfl rfl rfl cl15 (gedgesF_s p sl _ hc)) ?_
  rintro _ H ⟨rfl, rfl⟩
  refine sr_rd (x_lenSlice Try.underlying39 rfl) ?_
  refine sr_mv ?_
  refine sr_nil ?_
  refine aw_kp [1, 4, 5, 9, 10, 11] ?_
  refine aw_block ?_
  refine aw_loop (ι := Unit) (fun _ => True) (fun _ => [(5, .slice none 0 0), (10, .int .i64 0), (11, .int .i64 0)]) (fun _ => H) (fun _ => 0) () (trivial) KeepF.auto Sub.autoP ?_
  intro _ _
  refine aw_seq_region ?_
  refine sr_c (x_lt rfl rfl) (fun h1 => absurd h1 (by first | omega | decide)) (fun h1 => ?_)
  refine sr_nil ?_
  refine aw_kp [5, 10, 11, 12] ?_
  refine aw_seq ?_
  refine aw_false rfl ?_
  refine aw_exit ?_
  show AW _ _ _ _ _ _ _
  refine aw_seq_region ?_
  refine sr_mv ?_
  refine sr_d rfl (wtd_none rfl) rfl (opS_call rfl rfl rfl rfl cl34 (mV_s none 0 0 [] [] H .nil rfl (by omega))) ?_
  rintro _ _ ⟨W9, E9, ⟨hp9, hs9⟩, rfl, V9, rfl⟩
  obtain rfl := own_none V9
  rw [List.nil_append]
  refine sr_nil ?_
  refine aw_kp [5] ?_
  refine aw_seq_region ?_
  refine sr_mv ?_
  refine sr_as ?_
  refine sr_nil ?_
  refine aw_kp [4] ?_
  refine aw_ret ?_
  show ∃ v H2, ResV _ _ _ _ _ _ v ∧ Sub H2 _ ∧ _
  exact ⟨_, H, resV rfl (.cons rfl .nil), (by repeat (first | exact Sub.refl _ | apply Sub.drop)), ⟨rfl, rfl⟩⟩
/-- What the waits of a graph come to, wherever its blocks stand. -/
def WtsK (W0 : World) (C : SHeap) (P : Value) (E : List DEdge) : Prop := ∀ (H : SHeap), Sub C H → ∀ id : Int, AC Try.prog W0 19 [P, .int .i64 id] H (fun v H' => ∃ (X : List Int) (a' : Option Addr) (c' : Nat) (E' : SHeap), v = .slice a' X.length c' ∧ Tms (outs E id) X ∧ X.length ≤ 200 ∧ OwnVec 1 3 (.slice a' X.length c') X.length (X.flatMap intC) E' ∧ H' = E' ++ H)
theorem wtsK_dep {p : Nat} {a : Option Addr} {cap : Nat} {E : List DEdge} {Ei : SHeap} (V : OwnVec 3 46 (.slice a E.length cap) E.length (E.flatMap DEdge.cells) Ei) (hl : E.length ≤ 200) (hD : DgI E) : WtsK W0 (gB p a E.length cap :: Ei) (.pointer (some ⟨p, 0, none⟩)) E := fun G hG id =>
  gwaits_s p a cap E G (Cells.mono (cells_ext (H := gB p a E.length cap :: Ei) List.mem_cons_self (Ext.all _)) hG) ((V.slv' (W0 := W0) (fun _ => rfl) rfl (Sub.drop (Sub.refl _))).mono hG) hl hD id
theorem wtsK_zero {p : Nat} {sl : Value} : WtsK W0 [(p, .cells [sl, .bool false].toArray 62 (0, 0))] (.pointer (some ⟨p, 0, none⟩)) [] := fun G hG id =>
  (gwaitsF_s p sl G (Cells.mono (cells_ext (H := [(p, .cells [sl, .bool false].toArray 62 (0, 0))]) List.mem_cons_self (Ext.all _)) hG) id).mono fun v H' ⟨h1, h2⟩ => ⟨[], none, 0, [], h1, ⟨.nil, fun t => Iff.rfl⟩, Nat.zero_le _, .nil, h2⟩
set_option maxRecDepth 100000 in
set_option maxHeartbeats 400000 in
theorem few34_s (a : Option Addr) (cap : Nat) (l : List DEdge) (H : SHeap) (hs : SlV W0 H 3 DEdge.cells a cap l) : AC Try.prog W0 11 [.slice a l.length cap] H (fun v H' => v = .slice a (l.take 40).length cap ∧ H' = H) := by
  have hle := hs.le
  have hcb := hs.capb
  have hlt : (l.take 40).length = min 40 l.length := List.length_take
  refine ac_of Try.func11 rfl rfl rfl ?_
  refine aw_seq_region ?_
  refine sr_as ?_
  refine sr_nil ?_
  refine aw_kp [0, 2] ?_
  refine aw_seq ?_
  refine aw_seq_region ?_
  refine sr_mv ?_
  refine sr_rd (x_lenSlice Try.underlying39 rfl) ?_
  refine sr_c (x_gt rfl rfl) (fun h1 => ?_) (fun h1 => ?_)
  · refine sr_nil ?_
    refine aw_kp [0, 2, 5] ?_
    refine aw_true rfl ?_
    refine aw_seq_region ?_
    refine sr_mv ?_
    refine sr_rd (x_sliceHiK 40 Try.underlying39 sz46 rfl rfl rfl (by omega)) ?_
    refine sr_as ?_
    refine sr_nil ?_
    refine aw_kp [0, 2] ?_
    refine aw_ret ?_
    show ∃ v H2, ResV _ _ _ _ _ _ v ∧ Sub H2 _ ∧ _
    exact ⟨_, H, resV rfl (.cons rfl .nil), (by repeat (first | exact Sub.refl _ | apply Sub.drop)), ⟨by first | (rw [hlt, Nat.min_eq_left (by omega)]; rfl) | (rw [hlt, Nat.min_eq_right (by omega)]; rfl), rfl⟩⟩
  · refine sr_nil ?_
    refine aw_kp [0, 2, 5] ?_
    refine aw_false rfl ?_
    refine aw_skip ?_
    show AW _ _ _ _ _ _ _
    refine aw_seq_region ?_
    refine sr_mv ?_
    refine sr_as ?_
    refine sr_nil ?_
    refine aw_kp [2] ?_
    refine aw_ret ?_
    show ∃ v H2, ResV _ _ _ _ _ _ v ∧ Sub H2 _ ∧ _
    exact ⟨_, H, resV rfl (.cons rfl .nil), (by repeat (first | exact Sub.refl _ | apply Sub.drop)), ⟨by first | (rw [hlt, Nat.min_eq_left (by omega)]; rfl) | (rw [hlt, Nat.min_eq_right (by omega)]; rfl), rfl⟩⟩
set_option maxRecDepth 100000 in
set_option maxHeartbeats 400000 in
theorem awake34_s (H : SHeap) : AC Try.prog W0 21 [] H (fun v H' => v = .bool true ∧ H' = H) := by
  refine ac_of Try.func21 rfl rfl rfl ?_
  refine aw_seq_region ?_
  refine sr_as ?_
  refine sr_nil ?_
  refine aw_kp [0] ?_
  refine aw_seq_region ?_
  refine sr_d rfl (wtd_none rfl) rfl (opS_call rfl rfl rfl rfl cl12 (gnew_s _)) ?_
  rintro _ _ ⟨p, rfl, rfl⟩
  refine sr_as ?_
  refine sr_nil ?_
  refine aw_kp [0, 1] ?_
  refine aw_seq_region ?_
  refine sr_mv ?_
  refine sr_rd (x_build zr46 rfl fl46 Parts.auto Fill.auto) ?_
  refine sr_d rfl (wtd_none rfl) rfl (opS_call rfl rfl rfl rfl cl14 (AC.sub Sub.autoP (gadd_s p none 0 [] [] H .nil (by decide) ⟨2, 1, 1⟩))) ?_
  rintro _ _ ⟨r1, X1, a1, c1, E1, rfl, hA1, V1, rfl⟩
  obtain ⟨rfl, rfl⟩ := hA1.uniq awk1
  refine sr_as ?_
  refine sr_nil ?_
  refine aw_kp [0, 1, 2] ?_
  refine aw_seq_region ?_
  refine sr_mv ?_
  refine sr_rd (x_build zr46 rfl fl46 Parts.auto Fill.auto) ?_
  refine sr_d rfl (wtd_none rfl) rfl (opS_call rfl rfl rfl rfl cl14 (AC.sub Sub.autoP (gadd_s p a1 c1 _ E1 H V1 (by decide) ⟨3, 2, 2⟩))) ?_
  rintro _ _ ⟨r2, X2, a2, c2, E2, rfl, hA2, V2, rfl⟩
  obtain ⟨rfl, rfl⟩ := hA2.uniq awk2
  refine sr_as ?_
  refine sr_nil ?_
  refine aw_kp [0, 1, 2, 3] ?_
  refine aw_seq_region ?_
  refine sr_mv ?_
  refine sr_c (x_eq rfl rfl) (fun h1 => ?_) (fun h1 => absurd (by first | omega | decide) h1)
  refine sr_mv ?_
  refine sr_ry (x_move rfl) ?_
  refine sr_cy (x_eq rfl rfl) (fun h2 => ?_) (fun h2 => absurd (by first | omega | decide) h2)
  refine sr_rd (x_pick_t rfl rfl rfl) ?_
  refine sr_mv ?_
  refine sr_ry (x_move rfl) ?_
  refine sr_ry (x_build zr46 rfl fl46 Parts.auto Fill.auto) ?_
  refine sr_d rfl (wtd_yes rfl rfl rfl) rfl (opS_call rfl rfl rfl rfl cl14 (AC.sub Sub.autoP (gadd_s p a2 c2 _ E2 H V2 (by decide) ⟨1, 3, 3⟩))) ?_
  rintro _ _ ⟨r3, X3, a3, c3, E3, rfl, hA3, V3, rfl⟩
  obtain ⟨rfl, rfl⟩ := hA3.uniq awk3
  refine sr_cy (x_eq rfl rfl) (fun h3 => ?_) (fun h3 => absurd (by first | omega | decide) h3)
  refine sr_rd (x_pick_t rfl rfl rfl) ?_
  refine sr_mv ?_
  refine sr_rd (x_pick_t rfl rfl rfl) ?_
  refine sr_as ?_
  refine sr_nil ?_
  refine aw_kp [0] ?_
  refine aw_ret ?_
  show ∃ v H2, ResV _ _ _ _ _ _ v ∧ Sub H2 _ ∧ _
  exact ⟨_, H, resV rfl (.cons rfl .nil), Sub.autoP, ⟨rfl, rfl⟩⟩
set_option maxRecDepth 100000 in
set_option maxHeartbeats 1000000 in
theorem made34_s (a : Option Addr) (cap : Nat) (l : List DEdge) (H : SHeap) (hs0 : SlV W0 H 3 DEdge.cells a cap l) : AC Try.prog W0 22 [.slice a l.length cap] H (fun v H' => ∃ (p : Nat) (E : List DEdge) (a1 : Option Addr) (c1 : Nat) (E1 : SHeap) (a2 : Option Addr) (c2 : Nat) (E2 : SHeap), v = .tuple #[.pointer (some ⟨p, 0, none⟩), .slice a2 E.length c2] ∧ DgI E ∧ E.length ≤ 40 ∧ OwnVec 3 46 (.slice a1 E.length c1) E.length (E.flatMap DEdge.cells) E1 ∧ OwnVec 3 46 (.slice a2 E.length c2) E.length (E.flatMap DEdge.cells) E2 ∧ H' = gB p a1 E.length c1 :: (E1 ++ (E2 ++ H))) := by
  obtain ⟨L, hLL⟩ : ∃ L, L = l.take 40 := ⟨_, rfl⟩
  have hs : SlV W0 H 3 DEdge.cells a cap L := hLL ▸ hs0.take 40
  have hle := hs.le
  have hcb := hs.capb
  have hL40 : L.length ≤ 40 := by (rw [hLL, List.length_take]; omega)
  refine ac_of Try.func22 rfl rfl rfl ?_
  refine aw_seq_region ?_
  refine sr_as ?_
  refine sr_as ?_
  refine sr_nil ?_
  refine aw_kp [0, 2, 3] ?_
  refine aw_seq_region ?_
  refine sr_mv ?_
  refine sr_d rfl (wtd_none rfl) rfl (opS_call rfl rfl rfl rfl cl11 (few34_s a cap l _ hs0)) ?_
  rintro _ H ⟨rfl, rfl⟩
  rw [← hLL]
  refine sr_as ?_
  refine sr_nil ?_
  refine aw_kp [0, 2, 3] ?_
  refine aw_seq_region ?_
  refine sr_d rfl (wtd_none rfl) rfl (opS_call rfl rfl rfl rfl cl12 (gnew_s _)) ?_
  rintro _ _ ⟨p, rfl, rfl⟩
  refine sr_as ?_
  refine sr_nil ?_
  refine aw_kp [0, 2, 3, 4] ?_
  refine aw_seq_region ?_
  refine sr_as ?_
  refine sr_nil ?_
  refine aw_kp [0, 2, 3, 4, 5] ?_
  refine aw_seq ?_
  refine aw_seq_region ?_
  refine sr_as ?_
  refine sr_nil ?_
  refine aw_kp [0, 2, 3, 4, 5, 6] ?_
  refine aw_block ?_
  refine aw_loop (ι := MdG) (fun s => s.k ≤ L.length ∧ DgI s.E ∧ s.E.length ≤ s.k ∧ OwnVec 3 46 (.slice s.a1 s.E.length s.c1) s.E.length (s.E.flatMap DEdge.cells) s.E1 ∧ OwnVec 3 46 (.slice s.a2 s.E.length s.c2) s.E.length (s.E.flatMap DEdge.cells) s.E2) (fun s => [(0, .slice a L.length cap), (4, .pointer (some ⟨p, 0, none⟩)), (5, .slice s.a2 s.E.length s.c2), (6, .int .i64 s.k)]) (fun s => gB p s.a1 s.E.length s.c1 :: (s.E1 ++ (s.E2 ++ H))) (fun s => L.length - s.k) ⟨0, [], none, 0, [], none, 0, []⟩ (⟨Nat.zero_le _, DgI.nil, Nat.le_refl _, .nil, .nil⟩) KeepF.auto Sub.autoP ?_
  intro s hs9
  obtain ⟨k, E, a1, c1, E1, a2, c2, E2⟩ := s
  dsimp only at hs9 ⊢
  obtain ⟨hk, hD, hEk, V1, V2⟩ := hs9
  refine aw_seq ?_
  refine aw_seq_region ?_
  refine sr_mv ?_
  refine sr_mv ?_
  refine sr_rd (x_lenSlice Try.underlying39 rfl) ?_
  refine sr_c (x_lt rfl rfl) (fun h1 => ?_) (fun h1 => ?_)
  · refine sr_nil ?_
    refine aw_kp [0, 4, 5, 6, 12, 13, 14, 15] ?_
    refine aw_true rfl ?_
    refine aw_skip ?_
    show AW _ _ _ _ _ _ _
    refine aw_seq ?_
    refine aw_block ?_
    refine aw_seq_region ?_
    obtain ⟨e, he⟩ := get_ex (show k < L.length by omega)
    obtain ⟨be, oe, hae, hce⟩ := hs.at_ _ _ he
    refine sr_mv ?_
    refine sr_mv ?_
    refine sr_mv ?_
    refine sr_rd (x_indexAddrN (k) Try.underlying39 sz46 rfl hae rfl (by omega) (by omega)) ?_
    refine sr_rd (x_loadN ag46 sz46 rfl (Cells.mono hce Sub.autoR) rfl) ?_
    refine sr_d rfl (wtd_none rfl) rfl (opS_call rfl rfl rfl rfl cl14 (AC.sub Sub.autoP (gadd_s p a1 c1 E E1 (E2 ++ H) V1 (by omega) e))) ?_
    rintro _ _ ⟨r4, E4, a4, c4, E6, rfl, hA, V4, rfl⟩
    refine sr_nil ?_
    refine aw_kp [0, 4, 5, 6, 12, 13, 14, 15, 18, 19, 20, 21, 22] ?_
    refine aw_seq_region ?_
    refine sr_mv ?_
    refine sr_mv ?_
    refine sr_mv ?_
    refine sr_rd (x_indexAddrN (k) Try.underlying39 sz46 rfl hae rfl (by omega) (by omega)) ?_
    refine sr_rd (x_loadN ag46 sz46 rfl (Cells.mono hce Sub.autoR) rfl) ?_
    refine sr_d rfl (wtd_none rfl) rfl (opS_call rfl rfl rfl rfl cl13 (AC.sub Sub.autoP (ladd_s a2 c2 E E2 (gB p a4 E4.length c4 :: (E6 ++ H)) V2 (by omega) e))) ?_
    rintro _ _ ⟨r3, E3, a3, c3, E5, rfl, hA3, V3, rfl⟩
    obtain ⟨rfl, rfl⟩ := hA.uniq hA3
    refine sr_mv ?_
    refine sr_rd (x_extract rfl rfl) ?_
    refine sr_rd (x_extract rfl rfl) ?_
    refine sr_as ?_
    refine sr_as ?_
    refine sr_nil ?_
    refine aw_kp [0, 4, 5, 6, 7, 12, 13, 14, 15, 18, 19, 20, 21, 22, 24, 25, 26, 27, 28, 29, 30, 31, 32] ?_
    refine aw_region ?_
    refine sr_mv ?_
    refine sr_as ?_
    refine sr_nil ?_
    show AW _ _ _ _ _ _ _
    refine aw_region ?_
    refine sr_mv ?_
    refine sr_rd (x_add' rfl rfl (i64w (by omega) (by omega))) ?_
    refine sr_as ?_
    refine sr_nil ?_
    show ∃ s', _ ∧ _ ∧ _ ∧ _
    exact ⟨⟨k + 1, E4, a4, c4, E6, a3, c3, E5⟩, ⟨by dsimp only; omega, hD.add hA, (by dsimp only; have := hA.len; omega), V4, V3⟩, by dsimp only; omega, KeepF.auto, Sub.autoP⟩
  · refine sr_nil ?_
    refine aw_kp [0, 4, 5, 6, 12, 13, 14, 15] ?_
    refine aw_false rfl ?_
    refine aw_exit ?_
    show AW _ _ _ _ _ _ _
    refine aw_seq_region ?_
    refine sr_mv ?_
    refine sr_mv ?_
    refine sr_as ?_
    refine sr_as ?_
    refine sr_nil ?_
    refine aw_kp [2, 3] ?_
    refine aw_ret ?_
    show ∃ v H2, ResV _ _ _ _ _ _ v ∧ Sub H2 _ ∧ _
    exact ⟨_, _, resV rfl (.cons rfl (.cons rfl .nil)), Sub.autoP, ⟨p, E, a1, c1, E1, a2, c2, E2, rfl, hD, (by omega), V1, V2, rfl⟩⟩
end
end Go.Proofs.Ytonpnkekcipmlaa
