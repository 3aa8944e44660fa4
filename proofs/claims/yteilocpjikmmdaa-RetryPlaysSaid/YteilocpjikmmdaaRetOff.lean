/- Ended, of a pool whose slice begins inside its block. -/
import Derived.Test.YteilocpjikmmdaaRetEx
import Derived.Test.YteilocpjikmmdaaSymOff
namespace Go.Proofs.Yteilocpjikmmdaa
open Go.Proofs.Yteilocpjikmmdaa.Sym
open Go.RowKit (Below)
set_option linter.unusedVariables false
set_option linter.unusedSimpArgs false

section
variable {W0 : World}
set_option maxRecDepth 100000 in
set_option maxHeartbeats 2000000 in
theorem rinsO_sM (r n cap i : Nat) (b off : Nat) (pre L N post : List Value) (G : SHeap) (hpre : pre.length = off) (hL : L.length = n * 11) (hp : (cap - n) * 11 ≤ post.length) (hnc : n ≤ cap) (hcap : cap ≤ 9223372036854775807) (hN : N.length = 11) (hN1 : N.all oneCell = true) (hL1 : L.all oneCell = true) (hi : i ≤ n) (hn : n ≤ 1000000) : AC Try.prog W0 120 [.slice (some ⟨b, off, none⟩) n cap, .int .i64 i, .slice (some ⟨r, 0, none⟩) 1 1] ((b, .cells (pre ++ (L ++ post)).toArray 113 (0, 0)) :: (r, .cells N.toArray 113 (0, 0)) :: G) (fun v H' => ∃ a' cap' E', v = .slice a' (n + 1) cap' ∧ OffVec 11 113 (.slice a' (n + 1) cap') (n + 1) (L.take (i * 11) ++ N ++ L.drop (i * 11)) E' ∧ H' = E' ++ G) := by
  refine ac_of Try.func120 rfl rfl rfl ?_
  refine aw_seq_region ?_
  refine sr_x rfl (wtd_none rfl) rfl (Rd.x (x_assign rfl)) ?_
  refine sr_nil ?_
  refine aw_keep (keep_cons (t := 0) rfl (keep_cons (t := 1) rfl (keep_cons (t := 2) rfl (keep_cons (t := 6) rfl keep_nil)))) ?_
  refine aw_seq_region ?_
  refine sr_x rfl (wtd_none rfl) rfl (Rd.x (x_move rfl)) ?_
  refine sr_x rfl (wtd_none rfl) rfl (Rd.x (x_move rfl)) ?_
  refine sr_x rfl (wtd_none rfl) rfl (Rd.x (x_sliceLo Try.underlying104 sz113 rfl rfl (by omega) (by omega) (by omega))) ?_
  refine sr_nil ?_
  refine aw_keep (keep_cons (t := 0) rfl (keep_cons (t := 1) rfl (keep_cons (t := 2) rfl (keep_cons (t := 6) rfl keep_nil)))) ?_
  refine aw_seq_region ?_
  refine sr_x rfl (wtd_none rfl) rfl (Rd.x (x_move rfl)) ?_
  refine sr_x rfl (wtd_none rfl) rfl (Rd.x (x_lenSlice Try.underlying104 rfl)) ?_
  refine sr_x rfl (wtd_none rfl) rfl (Rd.x (x_assign rfl)) ?_
  refine sr_nil ?_
  refine aw_keep (keep_cons (t := 0) rfl (keep_cons (t := 1) rfl (keep_cons (t := 2) rfl (keep_cons (t := 6) rfl (keep_cons (t := 7) rfl keep_nil))))) ?_
  refine aw_seq ?_
  refine aw_seq_region ?_
  refine sr_x rfl (wtd_none rfl) rfl (Rd.x (x_move rfl)) ?_
  refine sr_cmp rfl (wtd_none rfl) rfl (Rd.x (x_eq rfl rfl)) (fun h1 => absurd h1 (by first | omega | decide)) (fun h1 => ?_)
  refine sr_nil ?_
  refine aw_keep (keep_cons (t := 0) rfl (keep_cons (t := 1) rfl (keep_cons (t := 2) rfl (keep_cons (t := 6) rfl (keep_cons (t := 7) rfl (keep_cons (t := 16) rfl keep_nil)))))) ?_
  refine aw_false rfl ?_
  refine aw_skip ?_
  show AW _ _ _ _ _ _ _
  refine aw_seq_region ?_
  refine sr_x rfl (wtd_none rfl) rfl (Rd.x (x_move rfl)) ?_
  refine sr_x rfl (wtd_none rfl) rfl (Rd.x (x_lenSlice Try.underlying104 rfl)) ?_
  refine sr_x rfl (wtd_none rfl) rfl (Rd.x (x_assign rfl)) ?_
  refine sr_nil ?_
  refine aw_keep (keep_cons (t := 0) rfl (keep_cons (t := 1) rfl (keep_cons (t := 2) rfl (keep_cons (t := 6) rfl (keep_cons (t := 7) rfl (keep_cons (t := 8) rfl keep_nil)))))) ?_
  refine aw_seq ?_
  refine aw_seq_region ?_
  refine sr_x rfl (wtd_none rfl) rfl (Rd.x (x_move rfl)) ?_
  refine sr_x rfl (wtd_none rfl) rfl (Rd.x (x_move rfl)) ?_
  refine sr_cmp rfl (wtd_none rfl) rfl (Rd.x (x_eq rfl rfl)) (fun h2 => ?_) (fun h2 => ?_)
  · refine sr_nil ?_
    refine aw_keep (keep_cons (t := 0) rfl (keep_cons (t := 1) rfl (keep_cons (t := 2) rfl (keep_cons (t := 6) rfl (keep_cons (t := 7) rfl (keep_cons (t := 8) rfl (keep_cons (t := 22) rfl keep_nil))))))) ?_
    refine aw_true rfl ?_
    refine aw_seq_region ?_
    refine sr_x rfl (wtd_none rfl) rfl (Rd.x (x_move rfl)) ?_
    refine sr_x rfl (wtd_none rfl) rfl (Rd.x (x_move rfl)) ?_
    refine sr_d rfl (wtd_none rfl) rfl (opS_appendO (G := G) (N := N) (m := 1) Try.underlying104 sz113 zr113 rfl by113 rfl rfl (OffVec.mk hpre hL hp hnc hcap) (by repeat (first | exact Sub.refl _ | refine Sub.take (by repeat (first | exact Take.here | apply Take.there | apply Take.app)) ?_ | refine Sub.takeE (by repeat (first | exact TakeE.here | apply TakeE.there | apply TakeE.app)) ?_ | exact Sub.nil _ | apply Sub.drop | apply Sub.dropE)) (by omega) ⟨_, _, rfl, (cells_ext (by repeat (first | exact List.mem_cons_self | apply List.mem_cons_of_mem | apply List.mem_append_right)) (by repeat (first | exact Ext.all _ | exact Ext.done | apply Ext.take | apply Ext.skip)))⟩ (by rw [hN, Nat.one_mul]) hN1 (by omega) (by omega)) ?_
    rintro v25 _ ⟨E25, hV25, rfl⟩
    obtain ⟨a25, cap25, rfl⟩ := hV25.isSl
    refine sr_x rfl (wtd_none rfl) rfl (Rd.x (x_assign rfl)) ?_
    refine sr_nil ?_
    refine aw_keep (keep_cons (t := 0) rfl (keep_cons (t := 1) rfl (keep_cons (t := 2) rfl (keep_cons (t := 6) rfl (keep_cons (t := 7) rfl (keep_cons (t := 8) rfl keep_nil)))))) ?_
    refine aw_ret ?_
    show ∃ v H2, ResV _ _ _ _ _ _ v ∧ Sub H2 _ ∧ _
    first | (rw [← ins_end (i := i) hL (by omega)] at hV25; exact ⟨_, E25 ++ G, resV rfl (.cons rfl .nil), (by (repeat (first | exact Sub.refl _ | refine Sub.take (by repeat (first | exact Take.here | apply Take.there | apply Take.app)) ?_ | refine Sub.takeE (by repeat (first | exact TakeE.here | apply TakeE.there | apply TakeE.app)) ?_ | exact Sub.nil _ | apply Sub.drop | apply Sub.dropE)); first | done | fail), a25, cap25, E25, rfl, hV25, rfl⟩) | exact ⟨_, (b2, .cells ((L.take (i * 11) ++ N ++ L.drop (i * 11)) ++ post2).toArray 113 (0, 0)) :: G, resV rfl (.cons rfl .nil), (by (repeat (first | exact Sub.refl _ | refine Sub.take (by repeat (first | exact Take.here | apply Take.there | apply Take.app)) ?_ | refine Sub.takeE (by repeat (first | exact TakeE.here | apply TakeE.there | apply TakeE.app)) ?_ | exact Sub.nil _ | apply Sub.drop | apply Sub.dropE)); first | done | fail), some ⟨b2, 0, none⟩, cap40, [(b2, .cells ((L.take (i * 11) ++ N ++ L.drop (i * 11)) ++ post2).toArray 113 (0, 0))], rfl, OwnVec.off (.mk (ins_len hL hN hi) hp2 hn2 hc2), rfl⟩ | exact ⟨_, (b, .cells (pre ++ ((L.take (i * 11) ++ N ++ L.drop (i * 11)) ++ post.drop 11)).toArray 113 (0, 0)) :: G, resV rfl (.cons rfl .nil), (by (repeat (first | exact Sub.refl _ | refine Sub.take (by repeat (first | exact Take.here | apply Take.there | apply Take.app)) ?_ | refine Sub.takeE (by repeat (first | exact TakeE.here | apply TakeE.there | apply TakeE.app)) ?_ | exact Sub.nil _ | apply Sub.drop | apply Sub.dropE)); first | done | fail), some ⟨b, off, none⟩, cap, [(b, .cells (pre ++ ((L.take (i * 11) ++ N ++ L.drop (i * 11)) ++ post.drop 11)).toArray 113 (0, 0))], rfl, .mk hpre (ins_len hL hN hi) (by have : (cap - (n + 1)) * 11 + 1 * 11 ≤ (cap - n) * 11 := (by rw [← Nat.add_mul]; exact Nat.mul_le_mul_right _ (by omega)); rw [List.length_drop]; omega) (by omega) hcap, rfl⟩
  · refine sr_nil ?_
    refine aw_keep (keep_cons (t := 0) rfl (keep_cons (t := 1) rfl (keep_cons (t := 2) rfl (keep_cons (t := 6) rfl (keep_cons (t := 7) rfl (keep_cons (t := 8) rfl (keep_cons (t := 22) rfl keep_nil))))))) ?_
    refine aw_false rfl ?_
    refine aw_skip ?_
    show AW _ _ _ _ _ _ _
    refine aw_seq ?_
    refine aw_seq_region ?_
    refine sr_x rfl (wtd_none rfl) rfl (Rd.x (x_move rfl)) ?_
    refine sr_x rfl (wtd_none rfl) rfl (Rd.x (x_move rfl)) ?_
    refine sr_x rfl (wtd_none rfl) rfl (Rd.x (x_add' rfl rfl (i64w (by omega) (by omega)))) ?_
    refine sr_x rfl (wtd_none rfl) rfl (Rd.x (x_move rfl)) ?_
    refine sr_x rfl (wtd_none rfl) rfl (Rd.x (x_capSlice Try.underlying104 rfl)) ?_
    refine sr_cmp rfl (wtd_none rfl) rfl (Rd.x (x_gt rfl rfl)) (fun h3 => ?_) (fun h3 => ?_)
    · refine sr_nil ?_
      refine aw_keep (keep_cons (t := 0) rfl (keep_cons (t := 1) rfl (keep_cons (t := 2) rfl (keep_cons (t := 6) rfl (keep_cons (t := 7) rfl (keep_cons (t := 8) rfl (keep_cons (t := 31) rfl keep_nil))))))) ?_
      refine aw_true rfl ?_
      refine aw_seq_region ?_
      refine sr_x rfl (wtd_none rfl) rfl (Rd.x (x_move rfl)) ?_
      refine sr_x rfl (wtd_none rfl) rfl (Rd.x (x_move rfl)) ?_
      refine sr_x rfl (wtd_none rfl) rfl (Rd.x (x_sliceHiK i Try.underlying104 sz113 rfl rfl rfl (by omega))) ?_
      refine sr_x rfl (wtd_none rfl) rfl (Rd.x (x_move rfl)) ?_
      refine sr_x rfl (wtd_none rfl) rfl (Rd.x (x_move rfl)) ?_
      refine sr_x rfl (wtd_none rfl) rfl (Rd.x (x_add' rfl rfl (i64w (by omega) (by omega)))) ?_
      refine sr_x rfl (wtd_none rfl) rfl (Rd.x (x_move rfl)) ?_
      refine sr_x rfl (wtd_none rfl) rfl (Rd.x (x_sub' rfl rfl (i64w (by omega) (by omega)))) ?_
      refine sr_d rfl (wtd_none rfl) rfl (opS_appendMake (m := n + 1 - i) (L := L.take (i * 11)) Try.underlying104 Try.underlying3 sz113 zr113 rfl by113 rfl rfl (by omega) (cells_ltO hpre (by repeat (first | exact List.mem_cons_self | apply List.mem_cons_of_mem | apply List.mem_append_right)) _) (by rw [List.length_take, hL]; exact Nat.min_eq_left (Nat.mul_le_mul_right _ hi)) (by omega) (by omega) (by omega) (by omega)) ?_
      rintro v40 _ ⟨E40, hV40, rfl⟩
      obtain ⟨a40, cap40, rfl⟩ := hV40.isSl
      rw [show i + (n + 1 - i) = n + 1 from by omega] at hV40 ⊢
      obtain ⟨b2, rfl, _⟩ := hV40.pos (by omega)
      obtain ⟨_, _, post2, rfl, hL2, hp2, hn2, hc2⟩ := hV40.blk
      rw [List.singleton_append]
      obtain ⟨cs1, hs1, hs2⟩ := ins_grow (post := post2) hL hN hi (Z := (Builtin.zeroCells (.agg #[.int .i64 0, .int .i64 0, .int .i64 0, .int .i64 0, .int .i64 0, .int .i64 0, .int .i64 0, .int .i64 0, .bool false, .int .i64 0, .int .i64 0] : Value).cells (n + 1 - i)).toList) (by rw [zeroCells_len]; rfl)
      refine sr_x rfl (wtd_none rfl) rfl (Rd.x (x_assign rfl)) ?_
      refine sr_nil ?_
      refine aw_keep (keep_cons (t := 0) rfl (keep_cons (t := 1) rfl (keep_cons (t := 2) rfl (keep_cons (t := 6) rfl (keep_cons (t := 7) rfl (keep_cons (t := 8) rfl (keep_cons (t := 9) rfl keep_nil))))))) ?_
      refine aw_seq_region ?_
      refine sr_x rfl (wtd_none rfl) rfl (Rd.x (x_move rfl)) ?_
      refine sr_x rfl (wtd_none rfl) rfl (Rd.x (x_move rfl)) ?_
      refine sr_x rfl (wtd_none rfl) rfl (Rd.x (x_sliceLoK (i) Try.underlying104 sz113 rfl rfl (by omega) (by omega) (by omega) (by omega))) ?_
      refine sr_x rfl (wtd_none rfl) rfl (Rd.x (x_move rfl)) ?_
      refine sr_d rfl (wtd_none rfl) rfl ((x_copy (m := 1) (N := N) (cs' := cs1) Try.underlying104 sz113 rfl rfl (by show min _ _ = _; omega) (cells_ext (by repeat (first | exact List.mem_cons_self | apply List.mem_cons_of_mem | apply List.mem_append_right)) (by repeat (first | exact Ext.all _ | exact Ext.done | apply Ext.take | apply Ext.skip))) (by rw [hN, Nat.one_mul]) (hN1) (by repeat (first | exact Repl.here | apply Repl.there | apply Repl.app)) (by rw [Nat.zero_add]; exact hs1)).opS) ?_
      rintro _ _ ⟨rfl, rfl⟩
      refine sr_nil ?_
      refine aw_keep (keep_cons (t := 0) rfl (keep_cons (t := 1) rfl (keep_cons (t := 2) rfl (keep_cons (t := 6) rfl (keep_cons (t := 7) rfl (keep_cons (t := 8) rfl (keep_cons (t := 9) rfl keep_nil))))))) ?_
      refine aw_seq_dr ⟨_, 9, 95, [[], [], [], [1, 2], [0, 1, 2, 3], [], [], [5, 6], [0, 1, 2, 3, 4, 5, 6, 7]], [.light, .light, .light, .light, .light, .light, .light, .light, .eff]⟩ (by kernel_rfl) rfl rfl mix ?_
      refine dr_light rfl rfl (wtd_none rfl) (x_move rfl) ?_
      refine dr_light rfl rfl (wtd_none rfl) (x_move rfl) ?_
      refine dr_light rfl rfl (wtd_none rfl) (x_move rfl) ?_
      refine dr_light rfl rfl (wtd_none rfl) (x_add' rfl rfl (i64w (by omega) (by omega))) ?_
      refine dr_light rfl rfl (wtd_none rfl) (x_sliceLoK (i + 1) Try.underlying104 sz113 rfl rfl (by omega) (by omega) (by omega) (by omega)) ?_
      refine dr_light rfl rfl (wtd_none rfl) (x_move rfl) ?_
      refine dr_light rfl rfl (wtd_none rfl) (x_move rfl) ?_
      refine dr_light rfl rfl (wtd_none rfl) (x_sliceLoK (i) Try.underlying104 sz113 rfl rfl (by omega) (by omega) (by omega) (by omega)) ?_
      refine dr_effE rfl rfl (wtd_none rfl) ((x_copy (m := n - i) (N := L.drop (i * 11)) (cs' := (L.take (i * 11) ++ N ++ L.drop (i * 11)) ++ post2) Try.underlying104 sz113 rfl rfl (by show min _ _ = _; omega) (cells_ldO hpre (by repeat (first | exact List.mem_cons_self | apply List.mem_cons_of_mem | apply List.mem_append_right)) _) (by rw [List.length_drop, hL, ← Nat.sub_mul]) (all_drop hL1) (by repeat (first | exact Repl.here | apply Repl.there | apply Repl.app)) (by rw [Nat.zero_add]; exact hs2)).opSF) (by exact fun hw L => ⟨_, _, ⟨rfl, rfl⟩, hw.1, fun b hb => .inl hb⟩) ?_
      rintro _ _ ⟨rfl, rfl⟩
      refine dr_nil0 ?_
      refine aw_keep (keep_cons (t := 0) rfl (keep_cons (t := 1) rfl (keep_cons (t := 2) rfl (keep_cons (t := 6) rfl (keep_cons (t := 7) rfl (keep_cons (t := 8) rfl (keep_cons (t := 9) rfl keep_nil))))))) ?_
      refine aw_seq_region ?_
      refine sr_x rfl (wtd_none rfl) rfl (Rd.x (x_move rfl)) ?_
      refine sr_x rfl (wtd_none rfl) rfl (Rd.x (x_assign rfl)) ?_
      refine sr_nil ?_
      refine aw_keep (keep_cons (t := 0) rfl (keep_cons (t := 1) rfl (keep_cons (t := 2) rfl (keep_cons (t := 6) rfl (keep_cons (t := 7) rfl (keep_cons (t := 8) rfl keep_nil)))))) ?_
      refine aw_ret ?_
      show ∃ v H2, ResV _ _ _ _ _ _ v ∧ Sub H2 _ ∧ _
      first | (rw [← ins_end (i := i) hL (by omega)] at hV25; exact ⟨_, E25 ++ G, resV rfl (.cons rfl .nil), (by (repeat (first | exact Sub.refl _ | refine Sub.take (by repeat (first | exact Take.here | apply Take.there | apply Take.app)) ?_ | refine Sub.takeE (by repeat (first | exact TakeE.here | apply TakeE.there | apply TakeE.app)) ?_ | exact Sub.nil _ | apply Sub.drop | apply Sub.dropE)); first | done | fail), a25, cap25, E25, rfl, hV25, rfl⟩) | exact ⟨_, (b2, .cells ((L.take (i * 11) ++ N ++ L.drop (i * 11)) ++ post2).toArray 113 (0, 0)) :: G, resV rfl (.cons rfl .nil), (by (repeat (first | exact Sub.refl _ | refine Sub.take (by repeat (first | exact Take.here | apply Take.there | apply Take.app)) ?_ | refine Sub.takeE (by repeat (first | exact TakeE.here | apply TakeE.there | apply TakeE.app)) ?_ | exact Sub.nil _ | apply Sub.drop | apply Sub.dropE)); first | done | fail), some ⟨b2, 0, none⟩, cap40, [(b2, .cells ((L.take (i * 11) ++ N ++ L.drop (i * 11)) ++ post2).toArray 113 (0, 0))], rfl, OwnVec.off (.mk (ins_len hL hN hi) hp2 hn2 hc2), rfl⟩ | exact ⟨_, (b, .cells (pre ++ ((L.take (i * 11) ++ N ++ L.drop (i * 11)) ++ post.drop 11)).toArray 113 (0, 0)) :: G, resV rfl (.cons rfl .nil), (by (repeat (first | exact Sub.refl _ | refine Sub.take (by repeat (first | exact Take.here | apply Take.there | apply Take.app)) ?_ | refine Sub.takeE (by repeat (first | exact TakeE.here | apply TakeE.there | apply TakeE.app)) ?_ | exact Sub.nil _ | apply Sub.drop | apply Sub.dropE)); first | done | fail), some ⟨b, off, none⟩, cap, [(b, .cells (pre ++ ((L.take (i * 11) ++ N ++ L.drop (i * 11)) ++ post.drop 11)).toArray 113 (0, 0))], rfl, .mk hpre (ins_len hL hN hi) (by have : (cap - (n + 1)) * 11 + 1 * 11 ≤ (cap - n) * 11 := (by rw [← Nat.add_mul]; exact Nat.mul_le_mul_right _ (by omega)); rw [List.length_drop]; omega) (by omega) hcap, rfl⟩
    · refine sr_nil ?_
      refine aw_keep (keep_cons (t := 0) rfl (keep_cons (t := 1) rfl (keep_cons (t := 2) rfl (keep_cons (t := 6) rfl (keep_cons (t := 7) rfl (keep_cons (t := 8) rfl (keep_cons (t := 31) rfl keep_nil))))))) ?_
      refine aw_false rfl ?_
      refine aw_skip ?_
      show AW _ _ _ _ _ _ _
      refine aw_seq_region ?_
      refine sr_x rfl (wtd_none rfl) rfl (Rd.x (x_move rfl)) ?_
      refine sr_x rfl (wtd_none rfl) rfl (Rd.x (x_move rfl)) ?_
      refine sr_x rfl (wtd_none rfl) rfl (Rd.x (x_move rfl)) ?_
      refine sr_x rfl (wtd_none rfl) rfl (Rd.x (x_add' rfl rfl (i64w (by omega) (by omega)))) ?_
      refine sr_x rfl (wtd_none rfl) rfl (Rd.x (x_sliceHiK (n + 1) Try.underlying104 sz113 rfl rfl (by omega) (by omega))) ?_
      refine sr_x rfl (wtd_none rfl) rfl (Rd.x (x_assign rfl)) ?_
      refine sr_nil ?_
      refine aw_keep (keep_cons (t := 0) rfl (keep_cons (t := 1) rfl (keep_cons (t := 2) rfl (keep_cons (t := 6) rfl (keep_cons (t := 7) rfl (keep_cons (t := 8) rfl keep_nil)))))) ?_
      refine aw_seq ?_
      refine aw_seq_region ?_
      refine sr_x rfl (wtd_none rfl) rfl (Rd.x (x_move rfl)) ?_
      refine sr_x rfl (wtd_none rfl) rfl (Rd.x (x_move rfl)) ?_
      refine sr_x rfl (wtd_none rfl) rfl (Rd.x (x_move rfl)) ?_
      refine sr_x rfl (wtd_none rfl) rfl (Rd.x (x_move rfl)) ?_
      refine sr_x rfl (wtd_none rfl) rfl (Rd.x (x_add' rfl rfl (i64w (by omega) (by omega)))) ?_
      refine sr_x rfl (wtd_none rfl) rfl (Rd.x (x_sliceLoK (i + 1) Try.underlying104 sz113 rfl rfl (by omega) (by omega) (by omega) (by omega))) ?_
      refine sr_x rfl (wtd_none rfl) rfl (Rd.x (x_extern (fn := Try.f139) (v := .bool false) rfl rfl rfl Try.func139 (by kernel_rfl) (by kernel_rfl) exn139 exf139 (fun hw => rd_overlaps (t := 104) rfl Try.underlying104 sz113 (wf_ne hw).symm (hw.obj (by repeat (first | exact List.mem_cons_self | apply List.mem_cons_of_mem | apply List.mem_append_right))) (hw.obj (by repeat (first | exact List.mem_cons_self | apply List.mem_cons_of_mem | apply List.mem_append_right)))))) ?_
      refine sr_x rfl (wtd_none rfl) rfl (Rd.x (x_not rfl)) ?_
      refine sr_nil ?_
      refine aw_keep (keep_cons (t := 0) rfl (keep_cons (t := 1) rfl (keep_cons (t := 2) rfl (keep_cons (t := 6) rfl (keep_cons (t := 7) rfl (keep_cons (t := 8) rfl (keep_cons (t := 68) rfl keep_nil))))))) ?_
      refine aw_true rfl ?_
      refine aw_seq_dr ⟨_, 9, 95, [[], [], [], [1, 2], [0, 1, 2, 3], [], [], [5, 6], [0, 1, 2, 3, 4, 5, 6, 7]], [.light, .light, .light, .light, .light, .light, .light, .light, .eff]⟩ (by kernel_rfl) rfl rfl mix ?_
      obtain ⟨cs1, hs1, hs2⟩ := ins_roomO (post := post) hpre hL hN hi (by have : 1 * 11 ≤ (cap - n) * 11 := Nat.mul_le_mul_right _ (by omega); omega)
      refine dr_light rfl rfl (wtd_none rfl) (x_move rfl) ?_
      refine dr_light rfl rfl (wtd_none rfl) (x_move rfl) ?_
      refine dr_light rfl rfl (wtd_none rfl) (x_move rfl) ?_
      refine dr_light rfl rfl (wtd_none rfl) (x_add' rfl rfl (i64w (by omega) (by omega))) ?_
      refine dr_light rfl rfl (wtd_none rfl) (x_sliceLoK (i + 1) Try.underlying104 sz113 rfl rfl (by omega) (by omega) (by omega) (by omega)) ?_
      refine dr_light rfl rfl (wtd_none rfl) (x_move rfl) ?_
      refine dr_light rfl rfl (wtd_none rfl) (x_move rfl) ?_
      refine dr_light rfl rfl (wtd_none rfl) (x_sliceLoK (i) Try.underlying104 sz113 rfl rfl (by omega) (by omega) (by omega) (by omega)) ?_
      refine dr_effE rfl rfl (wtd_none rfl) ((x_copy (m := n - i) (N := L.drop (i * 11)) (cs' := cs1) Try.underlying104 sz113 rfl rfl (by show min _ _ = _; omega) (cells_ldO hpre (by repeat (first | exact List.mem_cons_self | apply List.mem_cons_of_mem | apply List.mem_append_right)) _) (by rw [List.length_drop, hL, ← Nat.sub_mul]) (all_drop hL1) (by repeat (first | exact Repl.here | apply Repl.there | apply Repl.app)) (by exact hs1)).opSF) (by exact fun hw L => ⟨_, _, ⟨rfl, rfl⟩, hw.1, fun b hb => .inl hb⟩) ?_
      rintro _ _ ⟨rfl, rfl⟩
      refine dr_nil0 ?_
      refine aw_keep (keep_cons (t := 0) rfl (keep_cons (t := 1) rfl (keep_cons (t := 2) rfl (keep_cons (t := 6) rfl (keep_cons (t := 7) rfl (keep_cons (t := 8) rfl keep_nil)))))) ?_
      refine aw_seq_region ?_
      refine sr_x rfl (wtd_none rfl) rfl (Rd.x (x_move rfl)) ?_
      refine sr_x rfl (wtd_none rfl) rfl (Rd.x (x_move rfl)) ?_
      refine sr_x rfl (wtd_none rfl) rfl (Rd.x (x_sliceLoK (i) Try.underlying104 sz113 rfl rfl (by omega) (by omega) (by omega) (by omega))) ?_
      refine sr_x rfl (wtd_none rfl) rfl (Rd.x (x_move rfl)) ?_
      refine sr_d rfl (wtd_none rfl) rfl ((x_copy (m := 1) (N := N) (cs' := pre ++ ((L.take (i * 11) ++ N ++ L.drop (i * 11)) ++ post.drop 11)) Try.underlying104 sz113 rfl rfl (by show min _ _ = _; omega) (cells_ext (by repeat (first | exact List.mem_cons_self | apply List.mem_cons_of_mem | apply List.mem_append_right)) (by repeat (first | exact Ext.all _ | exact Ext.done | apply Ext.take | apply Ext.skip))) (by rw [hN, Nat.one_mul]) (hN1) (by repeat (first | exact Repl.here | apply Repl.there | apply Repl.app)) (by exact hs2)).opS) ?_
      rintro _ _ ⟨rfl, rfl⟩
      refine sr_nil ?_
      refine aw_keep (keep_cons (t := 0) rfl (keep_cons (t := 1) rfl (keep_cons (t := 2) rfl (keep_cons (t := 6) rfl (keep_cons (t := 7) rfl (keep_cons (t := 8) rfl keep_nil)))))) ?_
      refine aw_seq_region ?_
      refine sr_x rfl (wtd_none rfl) rfl (Rd.x (x_move rfl)) ?_
      refine sr_x rfl (wtd_none rfl) rfl (Rd.x (x_assign rfl)) ?_
      refine sr_nil ?_
      refine aw_keep (keep_cons (t := 0) rfl (keep_cons (t := 1) rfl (keep_cons (t := 2) rfl (keep_cons (t := 6) rfl (keep_cons (t := 7) rfl (keep_cons (t := 8) rfl keep_nil)))))) ?_
      refine aw_ret ?_
      show ∃ v H2, ResV _ _ _ _ _ _ v ∧ Sub H2 _ ∧ _
      first | (rw [← ins_end (i := i) hL (by omega)] at hV25; exact ⟨_, E25 ++ G, resV rfl (.cons rfl .nil), (by (repeat (first | exact Sub.refl _ | refine Sub.take (by repeat (first | exact Take.here | apply Take.there | apply Take.app)) ?_ | refine Sub.takeE (by repeat (first | exact TakeE.here | apply TakeE.there | apply TakeE.app)) ?_ | exact Sub.nil _ | apply Sub.drop | apply Sub.dropE)); first | done | fail), a25, cap25, E25, rfl, hV25, rfl⟩) | exact ⟨_, (b2, .cells ((L.take (i * 11) ++ N ++ L.drop (i * 11)) ++ post2).toArray 113 (0, 0)) :: G, resV rfl (.cons rfl .nil), (by (repeat (first | exact Sub.refl _ | refine Sub.take (by repeat (first | exact Take.here | apply Take.there | apply Take.app)) ?_ | refine Sub.takeE (by repeat (first | exact TakeE.here | apply TakeE.there | apply TakeE.app)) ?_ | exact Sub.nil _ | apply Sub.drop | apply Sub.dropE)); first | done | fail), some ⟨b2, 0, none⟩, cap40, [(b2, .cells ((L.take (i * 11) ++ N ++ L.drop (i * 11)) ++ post2).toArray 113 (0, 0))], rfl, OwnVec.off (.mk (ins_len hL hN hi) hp2 hn2 hc2), rfl⟩ | exact ⟨_, (b, .cells (pre ++ ((L.take (i * 11) ++ N ++ L.drop (i * 11)) ++ post.drop 11)).toArray 113 (0, 0)) :: G, resV rfl (.cons rfl .nil), (by (repeat (first | exact Sub.refl _ | refine Sub.take (by repeat (first | exact Take.here | apply Take.there | apply Take.app)) ?_ | refine Sub.takeE (by repeat (first | exact TakeE.here | apply TakeE.there | apply TakeE.app)) ?_ | exact Sub.nil _ | apply Sub.drop | apply Sub.dropE)); first | done | fail), some ⟨b, off, none⟩, cap, [(b, .cells (pre ++ ((L.take (i * 11) ++ N ++ L.drop (i * 11)) ++ post.drop 11)).toArray 113 (0, 0))], rfl, .mk hpre (ins_len hL hN hi) (by have : (cap - (n + 1)) * 11 + 1 * 11 ≤ (cap - n) * 11 := (by rw [← Nat.add_mul]; exact Nat.mul_le_mul_right _ (by omega)); rw [List.length_drop]; omega) (by omega) hcap, rfl⟩
set_option maxRecDepth 100000 in
set_option maxHeartbeats 400000 in
theorem rinsO_sN (r : Nat) (N : List Value) (G : SHeap) (hN : N.length = 11) (hN1 : N.all oneCell = true) : AC Try.prog W0 120 [.slice none 0 0, .int .i64 ((0 : Nat) : Int), .slice (some ⟨r, 0, none⟩) 1 1] ((r, .cells N.toArray 113 (0, 0)) :: G) (fun v H' => ∃ a' cap' E', v = .slice a' 1 cap' ∧ OwnVec 11 113 (.slice a' 1 cap') 1 N E' ∧ H' = E' ++ G) := by
  refine ac_of Try.func120 rfl rfl rfl ?_
  refine aw_seq_region ?_
  refine sr_x rfl (wtd_none rfl) rfl (Rd.x (x_assign rfl)) ?_
  refine sr_nil ?_
  refine aw_keep (keep_cons (t := 0) rfl (keep_cons (t := 1) rfl (keep_cons (t := 2) rfl (keep_cons (t := 6) rfl keep_nil)))) ?_
  refine aw_seq_region ?_
  refine sr_x rfl (wtd_none rfl) rfl (Rd.x (x_move rfl)) ?_
  refine sr_x rfl (wtd_none rfl) rfl (Rd.x (x_move rfl)) ?_
  refine sr_x rfl (wtd_none rfl) rfl (Rd.x (x_sliceLo0 Try.underlying104 sz113 rfl rfl rfl)) ?_
  refine sr_nil ?_
  refine aw_keep (keep_cons (t := 0) rfl (keep_cons (t := 1) rfl (keep_cons (t := 2) rfl (keep_cons (t := 6) rfl keep_nil)))) ?_
  refine aw_seq_region ?_
  refine sr_x rfl (wtd_none rfl) rfl (Rd.x (x_move rfl)) ?_
  refine sr_x rfl (wtd_none rfl) rfl (Rd.x (x_lenSlice Try.underlying104 rfl)) ?_
  refine sr_x rfl (wtd_none rfl) rfl (Rd.x (x_assign rfl)) ?_
  refine sr_nil ?_
  refine aw_keep (keep_cons (t := 0) rfl (keep_cons (t := 1) rfl (keep_cons (t := 2) rfl (keep_cons (t := 6) rfl (keep_cons (t := 7) rfl keep_nil))))) ?_
  refine aw_seq ?_
  refine aw_seq_region ?_
  refine sr_x rfl (wtd_none rfl) rfl (Rd.x (x_move rfl)) ?_
  refine sr_cmp rfl (wtd_none rfl) rfl (Rd.x (x_eq rfl rfl)) (fun h1 => absurd h1 (by first | omega | decide)) (fun h1 => ?_)
  refine sr_nil ?_
  refine aw_keep (keep_cons (t := 0) rfl (keep_cons (t := 1) rfl (keep_cons (t := 2) rfl (keep_cons (t := 6) rfl (keep_cons (t := 7) rfl (keep_cons (t := 16) rfl keep_nil)))))) ?_
  refine aw_false rfl ?_
  refine aw_skip ?_
  show AW _ _ _ _ _ _ _
  refine aw_seq_region ?_
  refine sr_x rfl (wtd_none rfl) rfl (Rd.x (x_move rfl)) ?_
  refine sr_x rfl (wtd_none rfl) rfl (Rd.x (x_lenSlice Try.underlying104 rfl)) ?_
  refine sr_x rfl (wtd_none rfl) rfl (Rd.x (x_assign rfl)) ?_
  refine sr_nil ?_
  refine aw_keep (keep_cons (t := 0) rfl (keep_cons (t := 1) rfl (keep_cons (t := 2) rfl (keep_cons (t := 6) rfl (keep_cons (t := 7) rfl (keep_cons (t := 8) rfl keep_nil)))))) ?_
  refine aw_seq ?_
  refine aw_seq_region ?_
  refine sr_x rfl (wtd_none rfl) rfl (Rd.x (x_move rfl)) ?_
  refine sr_x rfl (wtd_none rfl) rfl (Rd.x (x_move rfl)) ?_
  refine sr_cmp rfl (wtd_none rfl) rfl (Rd.x (x_eq rfl rfl)) (fun h2 => ?_) (fun h2 => absurd (by first | omega | decide) h2)
  refine sr_nil ?_
  refine aw_keep (keep_cons (t := 0) rfl (keep_cons (t := 1) rfl (keep_cons (t := 2) rfl (keep_cons (t := 6) rfl (keep_cons (t := 7) rfl (keep_cons (t := 8) rfl (keep_cons (t := 22) rfl keep_nil))))))) ?_
  refine aw_true rfl ?_
  refine aw_seq_region ?_
  refine sr_x rfl (wtd_none rfl) rfl (Rd.x (x_move rfl)) ?_
  refine sr_x rfl (wtd_none rfl) rfl (Rd.x (x_move rfl)) ?_
  refine sr_d rfl (wtd_none rfl) rfl (opS_append (G := G) (N := N) (m := 1) Try.underlying104 sz113 zr113 rfl by113 rfl rfl OwnVec.nil (by repeat (first | exact Sub.refl _ | refine Sub.take (by repeat (first | exact Take.here | apply Take.there | apply Take.app)) ?_ | refine Sub.takeE (by repeat (first | exact TakeE.here | apply TakeE.there | apply TakeE.app)) ?_ | exact Sub.nil _ | apply Sub.drop | apply Sub.dropE)) (.inr ⟨_, _, rfl, (cells_ext (by repeat (first | exact List.mem_cons_self | apply List.mem_cons_of_mem | apply List.mem_append_right)) (by repeat (first | exact Ext.all _ | exact Ext.done | apply Ext.take | apply Ext.skip)))⟩) (by rw [hN, Nat.one_mul]) hN1 (by omega) (by omega)) ?_
  rintro v25 _ ⟨E25, hV25, rfl⟩
  obtain ⟨a25, cap25, rfl⟩ := hV25.isSl
  refine sr_x rfl (wtd_none rfl) rfl (Rd.x (x_assign rfl)) ?_
  refine sr_nil ?_
  refine aw_keep (keep_cons (t := 0) rfl (keep_cons (t := 1) rfl (keep_cons (t := 2) rfl (keep_cons (t := 6) rfl (keep_cons (t := 7) rfl (keep_cons (t := 8) rfl keep_nil)))))) ?_
  refine aw_ret ?_
  show ∃ v H2, ResV _ _ _ _ _ _ v ∧ Sub H2 _ ∧ _
  exact ⟨_, E25 ++ G, resV rfl (.cons rfl .nil), (by (repeat (first | exact Sub.refl _ | refine Sub.take (by repeat (first | exact Take.here | apply Take.there | apply Take.app)) ?_ | refine Sub.takeE (by repeat (first | exact TakeE.here | apply TakeE.there | apply TakeE.app)) ?_ | exact Sub.nil _ | apply Sub.drop | apply Sub.dropE)); first | done | fail), a25, cap25, E25, rfl, by simpa using hV25, rfl⟩
theorem rinsO_s (v : Value) (n i r : Nat) (L N : List Value) (Ev G : SHeap) (V : OffVec 11 113 v n L Ev) (hN : N.length = 11) (hN1 : N.all oneCell = true) (hL1 : L.all oneCell = true) (hi : i ≤ n) (hn : n ≤ 1000000) : AC Try.prog W0 120 [v, .int .i64 i, .slice (some ⟨r, 0, none⟩) 1 1] (Ev ++ ((r, .cells N.toArray 113 (0, 0)) :: G)) (fun v H' => ∃ a' cap' E', v = .slice a' (n + 1) cap' ∧ OffVec 11 113 (.slice a' (n + 1) cap') (n + 1) (L.take (i * 11) ++ N ++ L.drop (i * 11)) E' ∧ H' = E' ++ G) := by
  cases V with
  | nil =>
    have : i = 0 := by omega
    subst this
    refine (rinsO_sN (W0 := W0) r N G hN hN1).mono fun v H' h => ?_
    obtain ⟨a', cap', E', h1, h2, h3⟩ := h
    exact ⟨a', cap', E', h1, by simpa using h2.off, h3⟩
  | mk hpre hL hp hnc hcap => exact rinsO_sM r n _ i _ _ _ L N _ G hpre hL hp hnc hcap hN hN1 hL1 hi hn
set_option maxRecDepth 100000 in
set_option maxHeartbeats 2000000 in
theorem rendedOkO_s (p : Nat) (r : Rule) (m : Nat) (es : List MapEntry) (clk : Nat) (hk : IntKeys .i64 es) (j : Job) (n : Int) (hn : (mget j.id es).getD (.int .i64 0) = .int .i64 n) (a : Option Addr) (cap : Nat) (W : List Entry) (E G : SHeap) (V : OffVec 11 113 (.slice a W.length cap) W.length (W.flatMap Entry.cells) E) (hyes : AgainP r j n) (hnn : n ≤ 1000) (hW : W.length ≤ 1000) (hsrt : SrtE W) : AC Try.prog W0 69 [.pointer (some ⟨p, 0, none⟩), j.v] (pool p r (.slice a W.length cap) m :: rmap m es clk :: (E ++ G)) (fun v H' => ∃ i a1 c1 E1, AtE W (satAdd [j.fin, waitL r n]) i ∧ OffVec 11 113 (.slice a1 (W.length + 1) c1) (W.length + 1) ((insE W i (⟨(satAdd [j.fin, waitL r n]), n + 1, ⟨1, 0, j.user, j.width, limitL r j.limit n, j.prio, false, 0, 0⟩⟩ : Entry)).flatMap Entry.cells) E1 ∧ v = .bool true ∧ H' = pool p r (.slice a1 (W.length + 1) c1) m :: rmap m (mdel j.id es) clk :: (E1 ++ G)) := by
  refine ac_of Try.func69 rfl rfl rfl ?_
  refine aw_seq_region ?_
  refine sr_new rfl (wtd_none rfl) rfl (x_box rfl rfl) ?_
  intro r0_0 hr0_0 gr0_0
  refine sr_x rfl (wtd_none rfl) rfl (Rd.x (x_assign rfl)) ?_
  refine sr_nil ?_
  refine aw_keep (keep_cons (t := 0) rfl (keep_cons (t := 3) rfl (keep_cons (t := 4) rfl keep_nil))) ?_
  refine aw_seq ?_
  refine aw_seq_region ?_
  refine sr_x rfl (wtd_none rfl) rfl (Rd.x (x_move rfl)) ?_
  refine sr_d rfl (wtd_none rfl) rfl (opS_call rfl rfl rfl rfl cl115 (rnone_s p r _ m _ (cells_ext (by repeat (first | exact List.mem_cons_self | apply List.mem_cons_of_mem | apply List.mem_append_right)) (by repeat (first | exact Ext.all _ | exact Ext.done | apply Ext.take | apply Ext.skip))))) ?_
  rintro _ H9 ⟨rfl, rfl⟩
  refine sr_nil ?_
  refine aw_keep (keep_cons (t := 0) rfl (keep_cons (t := 3) rfl (keep_cons (t := 4) rfl (keep_cons (t := 13) rfl keep_nil)))) ?_
  refine aw_false rfl ?_
  refine aw_skip ?_
  show AW _ _ _ _ _ _ _
  refine aw_seq_dr ⟨_, 8, 72, [[], [0], [0, 1], [0, 1, 2], [], [4], [0, 1, 2, 3, 4, 5], [0, 1, 2, 3, 4, 5, 6]], [.light, .light, .light, .mem, .light, .mem, .mem, .light]⟩ (by kernel_rfl) rfl rfl mix ?_
  refine dr_light rfl rfl (wtd_none rfl) (x_move rfl) ?_
  refine dr_light rfl rfl (wtd_none rfl) (x_nilCheck rfl) ?_
  refine dr_light rfl rfl (wtd_none rfl) (x_fieldAddr fd107_2 rfl) ?_
  refine dr_mem0 rfl rfl (wtd_none rfl) (x_load ag105 rfl (cells_ext (by repeat (first | exact List.mem_cons_self | apply List.mem_cons_of_mem | apply List.mem_append_right)) (by repeat (first | exact Ext.all _ | exact Ext.done | apply Ext.take | apply Ext.skip)))) ?_
  refine dr_light rfl rfl (wtd_none rfl) (x_fieldAddr fd91_0 rfl) ?_
  refine dr_mem0 rfl rfl (wtd_none rfl) (x_load ag3 rfl (cells_ext (by repeat (first | exact List.mem_cons_self | apply List.mem_cons_of_mem | apply List.mem_append_right)) (by repeat (first | exact Ext.all _ | exact Ext.done | apply Ext.take | apply Ext.skip)))) ?_
  refine dr_mem0 rfl rfl (wtd_none rfl) (x_cast (u := .int .i64 n) (x_lookup Try.underlying105 Try.underlying3 zr3 rfl rfl (map_at (by repeat (first | exact List.mem_cons_self | apply List.mem_cons_of_mem | apply List.mem_append_right))) hk) hn) ?_
  refine dr_light rfl rfl (wtd_none rfl) (x_assign rfl) ?_
  refine dr_nil0 ?_
  refine aw_keep (keep_cons (t := 0) rfl (keep_cons (t := 3) rfl (keep_cons (t := 4) rfl (keep_cons (t := 5) rfl keep_nil)))) ?_
  refine aw_seq_dr ⟨_, 7, 72, [[], [0], [0, 1], [0, 1, 2], [], [4], [0, 1, 2, 3, 4, 5]], [.light, .light, .light, .mem, .light, .mem, .eff]⟩ (by kernel_rfl) rfl rfl mix ?_
  refine dr_light rfl rfl (wtd_none rfl) (x_move rfl) ?_
  refine dr_light rfl rfl (wtd_none rfl) (x_nilCheck rfl) ?_
  refine dr_light rfl rfl (wtd_none rfl) (x_fieldAddr fd107_2 rfl) ?_
  refine dr_mem0 rfl rfl (wtd_none rfl) (x_load ag105 rfl (cells_ext (by repeat (first | exact List.mem_cons_self | apply List.mem_cons_of_mem | apply List.mem_append_right)) (by repeat (first | exact Ext.all _ | exact Ext.done | apply Ext.take | apply Ext.skip)))) ?_
  refine dr_light rfl rfl (wtd_none rfl) (x_fieldAddr fd91_0 rfl) ?_
  refine dr_mem0 rfl rfl (wtd_none rfl) (x_load ag3 rfl (cells_ext (by repeat (first | exact List.mem_cons_self | apply List.mem_cons_of_mem | apply List.mem_append_right)) (by repeat (first | exact Ext.all _ | exact Ext.done | apply Ext.take | apply Ext.skip)))) ?_
  refine dr_store0 rfl rfl (wtd_none rfl) (x_delete Try.underlying105 Try.underlying3 rfl rfl hk (by repeat (first | exact Repl.here | apply Repl.there | apply Repl.app))) (by first | rfl | simp [keys_append, keys_cons]) ?_
  refine dr_nil0 ?_
  refine aw_keep (keep_cons (t := 0) rfl (keep_cons (t := 3) rfl (keep_cons (t := 4) rfl (keep_cons (t := 5) rfl keep_nil)))) ?_
  refine aw_seq_dr ⟨_, 14, 72, [[], [0], [0, 1], [0, 1, 2], [], [], [0, 1, 2, 3, 4, 5], [0, 1, 2, 3, 4, 5, 6], [0, 1, 2, 3, 4, 5, 6, 7], [0, 1, 2, 3, 4, 5, 6, 7], [0, 1, 2, 3, 4, 5, 6, 7], [0, 1, 2, 3, 4, 5, 6, 7, 8], [0, 1, 2, 3, 4, 5, 6, 7, 8, 9, 11], [0, 1, 2, 3, 4, 5, 6, 7, 8, 9, 10, 11, 12]], [.light, .light, .light, .mem, .mem, .light, .call, .light, .light, .light, .light, .light, .light, .light]⟩ (by kernel_rfl) rfl rfl mix ?_
  refine dr_light rfl rfl (wtd_none rfl) (x_move rfl) ?_
  refine dr_light rfl rfl (wtd_none rfl) (x_nilCheck rfl) ?_
  refine dr_light rfl rfl (wtd_none rfl) (x_fieldAddr fd107_0 rfl) ?_
  refine dr_mem0 rfl rfl (wtd_none rfl) (x_loadN ag89 sz89 rfl (cells_ext (vs := r.cells) (n := 5) (by repeat (first | exact List.mem_cons_self | apply List.mem_cons_of_mem | apply List.mem_append_right)) (by repeat (first | exact Ext.done | apply Ext.take | apply Ext.skip))) rfl) ?_
  refine dr_mem0 rfl rfl (wtd_none rfl) (x_loadN ag91 sz91 rfl (cells_ext (by repeat (first | exact List.mem_cons_self | apply List.mem_cons_of_mem | apply List.mem_append_right)) (by repeat (first | exact Ext.all _ | exact Ext.done | apply Ext.take | apply Ext.skip))) rfl) ?_
  refine dr_light rfl rfl (wtd_none rfl) (x_move rfl) ?_
  refine dr_callq0 rfl rfl (wtd_none rfl) (opS_F rfl rfl rfl rfl cl56 ((again56_s _ _ _ _))) (⟨_, rfl⟩) ?_
  rintro _ rfl
  unfold againV
  rw [if_pos hyes]
  refine dr_light rfl rfl (wtd_none rfl) (x_move rfl) ?_
  refine dr_light rfl rfl (wtd_none rfl) (x_extract rfl rfl) ?_
  refine dr_light rfl rfl (wtd_none rfl) (x_extract rfl rfl) ?_
  refine dr_light rfl rfl (wtd_none rfl) (x_extract rfl rfl) ?_
  refine dr_light rfl rfl (wtd_none rfl) (x_assign rfl) ?_
  refine dr_light rfl rfl (wtd_none rfl) (x_assign rfl) ?_
  refine dr_light rfl rfl (wtd_none rfl) (x_assign rfl) ?_
  refine dr_nil0 ?_
  refine aw_keep (keep_cons (t := 0) rfl (keep_cons (t := 3) rfl (keep_cons (t := 4) rfl (keep_cons (t := 5) rfl (keep_cons (t := 6) rfl (keep_cons (t := 7) rfl (keep_cons (t := 8) rfl keep_nil))))))) ?_
  refine aw_seq ?_
  refine aw_seq_region ?_
  refine sr_x rfl (wtd_none rfl) rfl (Rd.x (x_move rfl)) ?_
  refine sr_x rfl (wtd_none rfl) rfl (Rd.x (x_not rfl)) ?_
  refine sr_nil ?_
  refine aw_keep (keep_cons (t := 0) rfl (keep_cons (t := 3) rfl (keep_cons (t := 4) rfl (keep_cons (t := 5) rfl (keep_cons (t := 6) rfl (keep_cons (t := 7) rfl (keep_cons (t := 39) rfl keep_nil))))))) ?_
  refine aw_false rfl ?_
  refine aw_skip ?_
  show AW _ _ _ _ _ _ _
  refine aw_seq_region ?_
  have hnb := hyes.2.1
  refine sr_x rfl (wtd_none rfl) rfl (Rd.x (x_move rfl)) ?_
  refine sr_x rfl (wtd_none rfl) rfl (Rd.x (x_move rfl)) ?_
  refine sr_x rfl (wtd_none rfl) rfl (Rd.x (x_add' rfl rfl (i64w (by omega) (by omega)))) ?_
  refine sr_x rfl (wtd_none rfl) rfl (Rd.x (x_fieldAddr fd91_1 rfl)) ?_
  refine sr_x rfl (wtd_none rfl) rfl (Rd.x (x_load ag3 rfl (cells_ext (by repeat (first | exact List.mem_cons_self | apply List.mem_cons_of_mem | apply List.mem_append_right)) (by repeat (first | exact Ext.all _ | exact Ext.done | apply Ext.take | apply Ext.skip))))) ?_
  refine sr_x rfl (wtd_none rfl) rfl (Rd.x (x_fieldAddr fd91_2 rfl)) ?_
  refine sr_x rfl (wtd_none rfl) rfl (Rd.x (x_load ag3 rfl (cells_ext (by repeat (first | exact List.mem_cons_self | apply List.mem_cons_of_mem | apply List.mem_append_right)) (by repeat (first | exact Ext.all _ | exact Ext.done | apply Ext.take | apply Ext.skip))))) ?_
  refine sr_x rfl (wtd_none rfl) rfl (Rd.x (x_move rfl)) ?_
  refine sr_x rfl (wtd_none rfl) rfl (Rd.x (x_fieldAddr fd91_4 rfl)) ?_
  refine sr_x rfl (wtd_none rfl) rfl (Rd.x (x_load ag3 rfl (cells_ext (by repeat (first | exact List.mem_cons_self | apply List.mem_cons_of_mem | apply List.mem_append_right)) (by repeat (first | exact Ext.all _ | exact Ext.done | apply Ext.take | apply Ext.skip))))) ?_
  refine sr_x rfl (wtd_none rfl) rfl (Rd.x (x_build zr36 rfl fl36 (by repeat (first | exact Parts.nil | (apply Parts.cons; rfl))) (by repeat (first | exact Fill.done | (apply Fill.part; rfl; rfl; rfl; focus (repeat (first | exact Spl.done | exact Spl.all rfl | apply Spl.put | apply Spl.skip))))))) ?_
  refine sr_x rfl (wtd_none rfl) rfl (Rd.x (x_build zr113 rfl fl113 (by repeat (first | exact Parts.nil | (apply Parts.cons; rfl))) (by repeat (first | exact Fill.done | (apply Fill.part; rfl; rfl; rfl; focus (repeat (first | exact Spl.done | exact Spl.all rfl | apply Spl.put | apply Spl.skip))))))) ?_
  refine sr_new rfl (wtd_none rfl) rfl (x_alloc zr113 rfl) ?_
  intro r8_12 hr8_12 gr8_12
  refine sr_x0 rfl (wtd_none rfl) (x_store sz113 rfl rfl rfl rfl rfl (by repeat (first | exact Repl.here | apply Repl.there | apply Repl.app)) (by repeat (first | exact Spl.done | exact Spl.all rfl | apply Spl.put | apply Spl.skip))) ?_
  refine sr_nil ?_
  refine aw_keep (keep_cons (t := 0) rfl (keep_cons (t := 4) rfl (keep_cons (t := 6) rfl (keep_cons (t := 9) rfl keep_nil)))) ?_
  refine aw_seq_region ?_
  refine sr_x rfl (wtd_none rfl) rfl (Rd.x (x_move rfl)) ?_
  refine sr_x rfl (wtd_none rfl) rfl (Rd.x (x_nilCheck rfl)) ?_
  refine sr_x rfl (wtd_none rfl) rfl (Rd.x (x_fieldAddr fd107_1 rfl)) ?_
  refine sr_x rfl (wtd_none rfl) rfl (Rd.x (x_load ag104 rfl (cells_ext (by repeat (first | exact List.mem_cons_self | apply List.mem_cons_of_mem | apply List.mem_append_right)) (by repeat (first | exact Ext.all _ | exact Ext.done | apply Ext.take | apply Ext.skip))))) ?_
  refine sr_x rfl (wtd_none rfl) rfl (Rd.x (x_move rfl)) ?_
  refine sr_d rfl (wtd_none rfl) rfl (opS_call rfl rfl rfl rfl cl118 (rbsearch_s a cap W (satAdd [j.fin, waitL r n]) (fun e => if e.at_ ≤ (satAdd [j.fin, waitL r n]) then -1 else 1) _ (V.slv' (fun _ => rfl) rfl (Sub.takeE0 (by repeat (first | exact TakeE.here | apply TakeE.there | apply TakeE.app)))) (by omega) (fun x _ H => rcmp_s x _ H) (fun i j x y hij hx hy h => mono_le hsrt hij hx hy h))) ?_
  rintro _ H9 ⟨⟨i, ok, rfl, hi1, hi2, hi3, hok⟩, rfl⟩
  refine sr_x rfl (wtd_none rfl) rfl (Rd.x (x_move rfl)) ?_
  refine sr_x rfl (wtd_none rfl) rfl (Rd.x (x_extract rfl rfl)) ?_
  refine sr_x rfl (wtd_none rfl) rfl (Rd.x (x_extract rfl rfl)) ?_
  refine sr_x rfl (wtd_none rfl) rfl (Rd.x (x_assign rfl)) ?_
  refine sr_x rfl (wtd_none rfl) rfl (Rd.x (x_assign rfl)) ?_
  refine sr_nil ?_
  refine aw_keep (keep_cons (t := 0) rfl (keep_cons (t := 4) rfl (keep_cons (t := 9) rfl (keep_cons (t := 10) rfl keep_nil)))) ?_
  refine aw_seq_dr ⟨_, 12, 72, [[], [], [1], [1, 2], [1, 2, 3], [], [], [6], [1, 2, 3, 4, 5, 6, 7], [0, 1, 2, 3, 4, 5, 6, 7, 8], [0, 1, 2, 3, 4, 5, 6, 7, 8, 9], [0, 1, 2, 3, 4, 5, 6, 7, 8, 9, 10]], [.light, .light, .light, .light, .mem, .light, .mem, .alloc, .eff, .light, .light, .eff]⟩ (by kernel_rfl) rfl rfl mix ?_
  refine dr_light rfl rfl (wtd_none rfl) (x_move rfl) ?_
  refine dr_light rfl rfl (wtd_none rfl) (x_move rfl) ?_
  refine dr_light rfl rfl (wtd_none rfl) (x_nilCheck rfl) ?_
  refine dr_light rfl rfl (wtd_none rfl) (x_fieldAddr fd107_1 rfl) ?_
  refine dr_mem0 rfl rfl (wtd_none rfl) (x_load ag104 rfl (cells_ext (by repeat (first | exact List.mem_cons_self | apply List.mem_cons_of_mem | apply List.mem_append_right)) (by repeat (first | exact Ext.all _ | exact Ext.done | apply Ext.take | apply Ext.skip)))) ?_
  refine dr_light rfl rfl (wtd_none rfl) (x_move rfl) ?_
  refine dr_mem0 rfl rfl (wtd_none rfl) (x_loadN ag113 sz113 rfl (cells_ext (by repeat (first | exact List.mem_cons_self | apply List.mem_cons_of_mem | apply List.mem_append_right)) (by repeat (first | exact Ext.all _ | exact Ext.done | apply Ext.take | apply Ext.skip))) rfl) ?_
  refine dr_alloc rfl rfl (wtd_none rfl) (x_buildSlice Try.underlying104 sz113 zr113 rfl rfl rfl rfl (by repeat (first | exact Parts.nil | (apply Parts.cons; rfl))) (by repeat (first | exact Fill.done | (apply Fill.part; rfl; rfl; rfl; focus (repeat (first | exact Spl.done | exact Spl.all rfl | apply Spl.put | apply Spl.skip)))))) ?_
  intro r10_7 hr10_7 gr10_7
  refine dr_eff rfl (V := [(r10_7, _)]) rfl (L' := []) (clear_all rfl) rfl (wtd_none rfl) (opS_F rfl rfl rfl rfl cl120 (AC.sub (by repeat (first | exact Sub.refl _ | refine Sub.take (by repeat (first | exact Take.here | apply Take.there | apply Take.app)) ?_ | refine Sub.takeE (by repeat (first | exact TakeE.here | apply TakeE.there | apply TakeE.app)) ?_ | exact Sub.nil _ | apply Sub.drop | apply Sub.dropE)) (rinsO_s (.slice a W.length cap) W.length i r10_7 (W.flatMap Entry.cells) (Entry.cells (⟨(satAdd [j.fin, waitL r n]), n + 1, ⟨1, 0, j.user, j.width, limitL r j.limit n, j.prio, false, 0, 0⟩⟩ : Entry)) E (pool p r (.slice a W.length cap) m :: rmap m (mdel j.id es) clk :: G) V rfl rfl (all_oneE W) hi1 (by omega)))) (off_fresh (by rw [insE_cells, flat_len (n := 11) (fun _ => rfl), insE_len hi1]) (by omega) (by repeat (first | exact Sub.refl _ | refine Sub.take (by repeat (first | exact Take.here | apply Take.there | apply Take.app)) ?_ | refine Sub.takeE (by repeat (first | exact TakeE.here | apply TakeE.there | apply TakeE.app)) ?_ | exact Sub.nil _ | apply Sub.drop | apply Sub.dropE))) ?_
  rintro _ _ ⟨a1, c1, E1, rfl, V1, rfl⟩
  rw [insE_cells] at V1
  refine dr_light rfl rfl (wtd_none rfl) (x_nilCheck rfl) ?_
  refine dr_light rfl rfl (wtd_none rfl) (x_fieldAddr fd107_1 rfl) ?_
  refine dr_store0 rfl rfl (wtd_none rfl) (x_store sz104 rfl rfl rfl rfl rfl (by repeat (first | exact Repl.here | apply Repl.there | apply Repl.app)) (by repeat (first | exact Spl.done | exact Spl.all rfl | apply Spl.put | apply Spl.skip))) (by first | rfl | simp [keys_append, keys_cons]) ?_
  refine dr_nil0 ?_
  refine aw_keep (keep_cons (t := 4) rfl keep_nil) ?_
  refine aw_seq_region ?_
  refine sr_x rfl (wtd_none rfl) rfl (Rd.x (x_assign rfl)) ?_
  refine sr_nil ?_
  refine aw_keep (keep_cons (t := 4) rfl keep_nil) ?_
  refine aw_ret ?_
  show ∃ v H2, ResV _ _ _ _ _ _ v ∧ Sub H2 _ ∧ _
  exact ⟨_, pool p r (.slice a1 (W.length + 1) c1) m :: rmap m (mdel j.id es) clk :: (E1 ++ G), resV rfl (.cons rfl .nil), (by (repeat (first | exact Sub.refl _ | refine Sub.take (by repeat (first | exact Take.here | apply Take.there | apply Take.app)) ?_ | refine Sub.takeE (by repeat (first | exact TakeE.here | apply TakeE.there | apply TakeE.app)) ?_ | exact Sub.nil _ | apply Sub.drop | apply Sub.dropE)); first | done | fail), i, a1, c1, E1, ⟨hi1, fun k x hk hx => le_neg (hi2 k x hk hx), fun k x hk hx => gt_pos (hi3 k x hk hx)⟩, V1, rfl, rfl⟩
theorem rended_s (p : Nat) (r : Rule) (m : Nat) (es : List MapEntry) (clk : Nat) (hk : IntKeys .i64 es) (j : Job) (n : Int) (hn : (mget j.id es).getD (.int .i64 0) = .int .i64 n) (a : Option Addr) (cap : Nat) (W : List Entry) (E G : SHeap) (V : OffVec 11 113 (.slice a W.length cap) W.length (W.flatMap Entry.cells) E) (hnn : n ≤ 1000) (hW : W.length ≤ 1000) (hsrt : SrtE W) : AC Try.prog W0 69 [.pointer (some ⟨p, 0, none⟩), j.v] (pool p r (.slice a W.length cap) m :: rmap m es clk :: (E ++ G)) (fun v H' => (AgainP r j n ∧ ∃ i a1 c1 E1, AtE W (satAdd [j.fin, waitL r n]) i ∧ OffVec 11 113 (.slice a1 (W.length + 1) c1) (W.length + 1) ((insE W i (⟨(satAdd [j.fin, waitL r n]), n + 1, ⟨1, 0, j.user, j.width, limitL r j.limit n, j.prio, false, 0, 0⟩⟩ : Entry)).flatMap Entry.cells) E1 ∧ v = .bool true ∧ H' = pool p r (.slice a1 (W.length + 1) c1) m :: rmap m (mdel j.id es) clk :: (E1 ++ G)) ∨ (¬ AgainP r j n ∧ v = .bool false ∧ H' = pool p r (.slice a W.length cap) m :: rmap m (mdel j.id es) clk :: (E ++ G))) := by
  by_cases h : AgainP r j n
  · exact (rendedOkO_s p r m es clk hk j n hn a cap W E G V h hnn hW hsrt).mono fun v H' q => .inl ⟨h, q⟩
  · exact (rendedNo_s p r m es clk hk j n hn (.slice a W.length cap) (E ++ G) h).mono fun v H' q => .inr ⟨h, q⟩
end
end Go.Proofs.Yteilocpjikmmdaa
