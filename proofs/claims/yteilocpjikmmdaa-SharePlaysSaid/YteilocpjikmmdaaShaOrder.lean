/- To whom the most is due: the order of users. -/
import Derived.Test.YteilocpjikmmdaaShaSrt
namespace Go.Proofs.Yteilocpjikmmdaa
open Go.Proofs.Yteilocpjikmmdaa.Sym
open Go.RowKit (Below)
set_option linter.unusedVariables false
set_option linter.unusedSimpArgs false
theorem by3 : bytesOf Try.prog 3 = some 8 := by kernel_rfl
theorem cl123 : Callable Try.prog 123 := ⟨Try.f123, Try.func123, by kernel_rfl, by kernel_rfl⟩
theorem zr3 : zeroOf Try.prog 3 = some (.int .i64 0) := by kernel_rfl
section
variable {W0 : World}
set_option maxRecDepth 100000 in
set_option maxHeartbeats 1000000 in
theorem order_s (p : Nat) (a : Option Addr) (cap : Nat) (us : List User) (half now : Int) (E G : SHeap) (V : OwnVec 3 86 (.slice a us.length cap) us.length (us.flatMap User.cells) E) (hh : half ≠ 0) (hn : us.length ≤ 20) (hsrt : Srt us) (hg : ∀ x ∈ us, URight x) : AC Try.prog W0 85 [.pointer (some ⟨p, 0, none⟩)] (bk p (.slice a us.length cap) half now :: (E ++ G)) (fun v H' => ∃ W a2 cap2 E2, v = .slice a2 us.length cap2 ∧ St (cD us) (dids us) W ∧ SrtI (cD us) W 0 us.length ∧ OwnVec 1 3 (.slice a2 us.length cap2) us.length (W.flatMap Did.cells) E2 ∧ H' = E2 ++ (bk p (.slice a us.length cap) half now :: (E ++ G))) := by
  have hle := (V.slv' (W0 := W0) (fun _ => rfl) rfl (Sub.refl _)).le
  have hcb := (V.slv' (W0 := W0) (fun _ => rfl) rfl (Sub.refl _)).capb
  refine ac_of Try.func85 rfl rfl rfl ?_
  refine aw_seq_region ?_
  refine sr_new rfl (wtd_none rfl) rfl (x_box rfl rfl) ?_
  intro r0_0 hr0_0 gr0_0
  refine sr_x rfl (wtd_none rfl) rfl (Rd.x (x_assign rfl)) ?_
  refine sr_nil ?_
  refine aw_keep (keep_cons (t := 1) rfl (keep_cons (t := 2) rfl keep_nil)) ?_
  refine aw_seq_region ?_
  refine sr_x rfl (wtd_none rfl) rfl (Rd.x (x_assign rfl)) ?_
  refine sr_nil ?_
  refine aw_keep (keep_cons (t := 1) rfl (keep_cons (t := 2) rfl (keep_cons (t := 3) rfl keep_nil))) ?_
  refine aw_seq ?_
  refine aw_seq_region ?_
  refine sr_x rfl (wtd_none rfl) rfl (Rd.x (x_load ag75 rfl (cells_ext (by repeat (first | exact List.mem_cons_self | apply List.mem_cons_of_mem | apply List.mem_append_right)) (by repeat (first | exact Ext.all _ | exact Ext.done | apply Ext.take | apply Ext.skip))))) ?_
  refine sr_d rfl (wtd_none rfl) rfl (opS_call rfl rfl rfl rfl cl52 (users_s p a cap us half now _ (cells_ext (by repeat (first | exact List.mem_cons_self | apply List.mem_cons_of_mem | apply List.mem_append_right)) (by repeat (first | exact Ext.all _ | exact Ext.done | apply Ext.take | apply Ext.skip))) hh (V.slv' (fun _ => rfl) rfl (Sub.takeE0 (by repeat (first | exact TakeE.here | apply TakeE.there | apply TakeE.app)))) (by omega))) ?_
  rintro _ _ ⟨E2, ⟨a2, cap2, V2, rfl⟩, rfl⟩
  refine sr_x rfl (wtd_none rfl) rfl (Rd.x (x_lenSlice Try.underlying73 rfl)) ?_
  refine sr_x rfl (wtd_none rfl) rfl (Rd.x (x_move rfl)) ?_
  refine sr_nil ?_
  refine aw_keep (keep_cons (t := 1) rfl (keep_cons (t := 2) rfl (keep_cons (t := 3) rfl (keep_cons (t := 7) rfl (keep_cons (t := 8) rfl (keep_cons (t := 9) rfl keep_nil)))))) ?_
  refine aw_block ?_
  refine aw_loop (ι := OrG) (fun s => s.k ≤ us.length ∧ OwnVec 1 3 s.sl s.k ((dids (us.take s.k)).flatMap Did.cells) s.E) (fun s => [(1, .pointer (some ⟨r0_0, 0, none⟩)), (2, .slice none 0 0), (3, s.sl), (7, .slice a2 us.length cap2), (8, .int .i64 us.length), (9, .int .i64 s.k)]) (fun s => s.E ++ ((r0_0, .cells [.pointer (some ⟨p, 0, none⟩)].toArray 75 (0, 0)) :: (E2 ++ (bk p (.slice a us.length cap) half now :: (E ++ G))))) (fun s => us.length - s.k) ⟨0, .slice none 0 0, []⟩ (⟨Nat.zero_le _, .nil⟩) (by (repeat (first | exact keep_nil | refine keep_cons rfl ?_)); first | done | fail) (by repeat (first | exact Sub.refl _ | refine Sub.take (by repeat (first | exact Take.here | apply Take.there | apply Take.app)) ?_ | refine Sub.takeE (by repeat (first | exact TakeE.here | apply TakeE.there | apply TakeE.app)) ?_ | exact Sub.nil _ | apply Sub.drop | apply Sub.dropE)) ?_
  intro s hs9
  obtain ⟨k, slk, E3⟩ := s
  dsimp only at hs9 ⊢
  obtain ⟨hk, VK⟩ := hs9
  refine aw_seq_region ?_
  refine sr_cmp rfl (wtd_none rfl) rfl (Rd.x (x_lt rfl rfl)) (fun h1 => ?_) (fun h1 => ?_)
  · refine sr_nil ?_
    refine aw_keep (keep_cons (t := 1) rfl (keep_cons (t := 2) rfl (keep_cons (t := 3) rfl (keep_cons (t := 7) rfl (keep_cons (t := 8) rfl (keep_cons (t := 9) rfl (keep_cons (t := 10) rfl keep_nil))))))) ?_
    refine aw_seq ?_
    refine aw_true rfl ?_
    refine aw_skip ?_
    show AW _ _ _ _ _ _ _
    refine aw_seq ?_
    refine aw_block ?_
    refine aw_seq_region ?_
    obtain ⟨u, hu⟩ := get_ex (show k < us.length by omega)
    obtain ⟨bu, ou, hau, hcu⟩ := (V2.slv' (W0 := W0) (fun _ => rfl) rfl (Sub.refl _)).at_ k _ hu
    have hle2 := (V2.slv' (W0 := W0) (fun _ => rfl) rfl (Sub.refl _)).le
    have hcb2 := (V2.slv' (W0 := W0) (fun _ => rfl) rfl (Sub.refl _)).capb
    refine sr_x rfl (wtd_none rfl) rfl (Rd.x (x_indexAddrN k Try.underlying73 sz86 rfl hau rfl (by omega) (by omega))) ?_
    refine sr_x rfl (wtd_none rfl) rfl (Rd.x (x_loadN ag86 sz86 rfl (Cells.mono hcu (Sub.takeE0 (by repeat (first | exact TakeE.here | apply TakeE.there | apply TakeE.app)))) rfl)) ?_
    refine sr_new rfl (wtd_none rfl) rfl (x_alloc zr86 rfl) ?_
    intro r4_2 hr4_2 gr4_2
    refine sr_x0 rfl (wtd_none rfl) (x_store sz86 rfl rfl rfl rfl rfl (by repeat (first | exact Repl.here | apply Repl.there | apply Repl.app)) (by repeat (first | exact Spl.done | exact Spl.all rfl | apply Spl.put | apply Spl.skip))) ?_
    refine sr_nil ?_
    refine aw_keep (keep_cons (t := 1) rfl (keep_cons (t := 2) rfl (keep_cons (t := 3) rfl (keep_cons (t := 5) rfl (keep_cons (t := 7) rfl (keep_cons (t := 8) rfl (keep_cons (t := 9) rfl (keep_cons (t := 10) rfl (keep_cons (t := 11) rfl (keep_cons (t := 12) rfl keep_nil)))))))))) ?_
    refine aw_region ?_
    refine sr_x rfl (wtd_none rfl) rfl (Rd.x (x_move rfl)) ?_
    refine sr_x rfl (wtd_none rfl) rfl (Rd.x (x_fieldAddr fd86_0 rfl)) ?_
    refine sr_x rfl (wtd_none rfl) rfl (Rd.x (x_load ag3 rfl (cells_ext (by repeat (first | exact List.mem_cons_self | apply List.mem_cons_of_mem | apply List.mem_append_right)) (by repeat (first | exact Ext.all _ | exact Ext.done | apply Ext.take | apply Ext.skip))))) ?_
    refine sr_new rfl (wtd_none rfl) rfl (x_buildSlice Try.underlying134 sz3 zr3 rfl rfl rfl rfl (by repeat (first | exact Parts.nil | (apply Parts.cons; rfl))) (by repeat (first | exact Fill.done | (apply Fill.part; rfl; rfl; rfl; focus (repeat (first | exact Spl.done | exact Spl.all rfl | apply Spl.put | apply Spl.skip)))))) ?_
    intro r5_3 hr5_3 gr5_3
    refine sr_d rfl (wtd_none rfl) rfl (opS_append (G := (r0_0, .cells [.pointer (some ⟨p, 0, none⟩)].toArray 75 (0, 0)) :: (E2 ++ (bk p (.slice a us.length cap) half now :: (E ++ G)))) (N := [.int .i64 u.id]) (m := 1) Try.underlying134 sz3 zr3 rfl by3 rfl rfl VK (by repeat (first | exact Sub.refl _ | refine Sub.take (by repeat (first | exact Take.here | apply Take.there | apply Take.app)) ?_ | refine Sub.takeE (by repeat (first | exact TakeE.here | apply TakeE.there | apply TakeE.app)) ?_ | exact Sub.nil _ | apply Sub.drop | apply Sub.dropE)) (.inr ⟨_, _, rfl, (cells_ext (by repeat (first | exact List.mem_cons_self | apply List.mem_cons_of_mem | apply List.mem_append_right)) (by repeat (first | exact Ext.all _ | exact Ext.done | apply Ext.take | apply Ext.skip)))⟩) (rfl) rfl (by omega) (by omega)) ?_
    rintro v17 _ ⟨E17, hV17, rfl⟩
    obtain ⟨a17, cap17, rfl⟩ := hV17.isSl
    rw [dids_take hu] at hV17
    refine sr_x rfl (wtd_none rfl) rfl (Rd.x (x_assign rfl)) ?_
    refine sr_nil ?_
    show AW _ _ _ _ _ _ _
    refine aw_region ?_
    refine sr_x rfl (wtd_none rfl) rfl (Rd.x (x_add' rfl rfl (i64w (by omega) (by omega)))) ?_
    refine sr_x rfl (wtd_none rfl) rfl (Rd.x (x_move rfl)) ?_
    refine sr_nil ?_
    show ∃ s', _ ∧ _ ∧ _ ∧ _
    exact ⟨⟨k + 1, _, _⟩, ⟨by dsimp only; omega, hV17⟩, by dsimp only; omega, (by (repeat (first | exact keep_nil | refine keep_cons rfl ?_)); first | done | fail), (by repeat (first | exact Sub.refl _ | refine Sub.take (by repeat (first | exact Take.here | apply Take.there | apply Take.app)) ?_ | refine Sub.takeE (by repeat (first | exact TakeE.here | apply TakeE.there | apply TakeE.app)) ?_ | exact Sub.nil _ | apply Sub.drop | apply Sub.dropE))⟩
  · refine sr_nil ?_
    refine aw_keep (keep_cons (t := 1) rfl (keep_cons (t := 2) rfl (keep_cons (t := 3) rfl (keep_cons (t := 7) rfl (keep_cons (t := 8) rfl (keep_cons (t := 9) rfl (keep_cons (t := 10) rfl keep_nil))))))) ?_
    refine aw_seq ?_
    refine aw_false rfl ?_
    refine aw_exit ?_
    show AW _ _ _ _ _ _ _
    refine aw_seq_region ?_
    have ek : k = us.length := by omega
    subst ek
    rw [List.take_length] at VK
    obtain ⟨a3, cap3, rfl⟩ := VK.isSl
    have V3 := VK
    refine sr_x rfl (wtd_none rfl) rfl (Rd.x (x_move rfl)) ?_
    refine sr_x rfl (wtd_none rfl) rfl (Rd.x (x_makeFunc rfl rfl)) ?_
    refine sr_d rfl (wtd_none rfl) rfl (opS_call rfl rfl rfl rfl cl123 (dsV_s a3 cap3 us.length (dids us) E3 _ V3 (dids_len us) (by omega) (cD us) (fun x y V9 hV => didCmp_s p a cap us half now hh (by omega) hsrt hg x y V9 (Cells.mono (cells_ext (vs := [.pointer (some ⟨p, 0, none⟩)]) (n := 1) (by repeat (first | exact List.mem_cons_self | apply List.mem_cons_of_mem | apply List.mem_append_right)) (by repeat (first | exact Ext.done | apply Ext.take | apply Ext.skip))) hV) (Cells.mono (cells_ext (vs := bkC (.slice a us.length cap) half now) (n := 3) (by repeat (first | exact List.mem_cons_self | apply List.mem_cons_of_mem | apply List.mem_append_right)) (by repeat (first | exact Ext.done | apply Ext.take | apply Ext.skip))) hV) ((V.slv' (fun _ => rfl) rfl (Sub.takeE0 (by repeat (first | exact TakeE.here | apply TakeE.there | apply TakeE.app)))).mono hV)) (swoD us))) ?_
    rintro _ _ ⟨W, E4, hst, hsr, rfl, V4, rfl⟩
    refine sr_nil ?_
    refine aw_keep (keep_cons (t := 2) rfl (keep_cons (t := 3) rfl keep_nil)) ?_
    refine aw_seq_region ?_
    refine sr_x rfl (wtd_none rfl) rfl (Rd.x (x_move rfl)) ?_
    refine sr_x rfl (wtd_none rfl) rfl (Rd.x (x_assign rfl)) ?_
    refine sr_nil ?_
    refine aw_keep (keep_cons (t := 2) rfl keep_nil) ?_
    refine aw_ret ?_
    show ∃ v H2, ResV _ _ _ _ _ _ v ∧ Sub H2 _ ∧ _
    exact ⟨_, (E4 ++ (bk p (.slice a us.length cap) half now :: (E ++ G))), resV rfl (.cons rfl .nil), (by repeat (first | exact Sub.refl _ | refine Sub.take (by repeat (first | exact Take.here | apply Take.there | apply Take.app)) ?_ | refine Sub.takeE (by repeat (first | exact TakeE.here | apply TakeE.there | apply TakeE.app)) ?_ | exact Sub.nil _ | apply Sub.drop | apply Sub.dropE)), ⟨W, _, _, E4, rfl, hst, hsr, V4, rfl⟩⟩
end
end Go.Proofs.Yteilocpjikmmdaa
