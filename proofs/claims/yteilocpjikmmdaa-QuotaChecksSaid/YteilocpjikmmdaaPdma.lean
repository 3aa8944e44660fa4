/- Sorting numbers. -/
import Derived.Test.YteilocpjikmmdaaProg
import Derived.Test.YteilocpjikmmdaaSymData
import Derived.Test.YteilocpjikmmdaaSymStr
import Derived.Test.YteilocpjikmmdaaSymEl
import Derived.Test.YteilocpjikmmdaaSymPdq
import Derived.Test.YteilocpjikmmdaaQuoOfUses
namespace Go.Proofs.Yteilocpjikmmdaa
open Go.Proofs.Yteilocpjikmmdaa.Sym
open Go.RowKit (Below)
set_option linter.unusedVariables false
set_option linter.unusedSimpArgs false
theorem ag239 : aggOf Try.prog 239 = some false := by kernel_rfl
theorem cl147 : Callable Try.prog 147 := ⟨Try.f147, Try.func147, by kernel_rfl, by kernel_rfl⟩
theorem cl149 : Callable Try.prog 149 := ⟨Try.f149, Try.func149, by kernel_rfl, by kernel_rfl⟩
theorem cl162 : Callable Try.prog 162 := ⟨Try.f162, Try.func162, by kernel_rfl, by kernel_rfl⟩
theorem cl166 : Callable Try.prog 166 := ⟨Try.f166, Try.func166, by kernel_rfl, by kernel_rfl⟩
theorem cl174 : Callable Try.prog 174 := ⟨Try.f174, Try.func174, by kernel_rfl, by kernel_rfl⟩
theorem sz239 : szOf Try.prog 239 = some 1 := by kernel_rfl
section
variable {W0 : World}
set_option maxRecDepth 100000 in
set_option maxHeartbeats 400000 in
theorem mNan_s (x : Int) (H : SHeap) : AC Try.prog W0 149 [.int .i64 x] H (fun v H' => v = .bool false ∧ H' = H) := by
  refine ac_of Try.func149 rfl rfl rfl ?_
  refine aw_seq_region ?_
  refine sr_as ?_
  refine sr_nil ?_
  refine aw_kp [0, 2] ?_
  refine aw_seq_region ?_
  refine sr_mv ?_
  refine sr_mv ?_
  refine sr_c (x_ne rfl rfl) (fun h1 => absurd h1 (by first | omega | decide)) (fun h1 => ?_)
  refine sr_as ?_
  refine sr_nil ?_
  refine aw_kp [2] ?_
  refine aw_ret ?_
  show ∃ v H2, ResV _ _ _ _ _ _ v ∧ Sub H2 _ ∧ _
  exact ⟨_, H, resV rfl (.cons rfl .nil), (by repeat (first | exact Sub.refl _ | apply Sub.drop)), ⟨rfl, rfl⟩⟩
set_option maxRecDepth 100000 in
set_option maxHeartbeats 400000 in
theorem mLess_s (x y : Int) (H : SHeap) : AC Try.prog W0 162 [.int .i64 x, .int .i64 y] H (fun v H' => v = .bool (decide (x < y)) ∧ H' = H) := by
  refine ac_of Try.func162 rfl rfl rfl ?_
  refine aw_seq_region ?_
  refine sr_as ?_
  refine sr_nil ?_
  refine aw_kp [0, 1, 4] ?_
  refine aw_seq_region ?_
  refine sr_mv ?_
  refine sr_d rfl (wtd_none rfl) rfl (opS_call rfl rfl rfl rfl cl149 (mNan_s x _)) ?_
  rintro _ H ⟨rfl, rfl⟩
  refine sr_mv ?_
  refine sr_sk ?_
  refine sr_sk ?_
  refine sr_sk ?_
  refine sr_rd (x_pick_f rfl rfl rfl) ?_
  refine sr_mv ?_
  refine sr_ry (x_move rfl) ?_
  refine sr_ry (x_move rfl) ?_
  refine sr_cy (x_lt rfl rfl) (fun h1 => ?_) (fun h1 => ?_)
  · refine sr_rd (x_pick_f rfl rfl rfl) ?_
    refine sr_as ?_
    refine sr_nil ?_
    refine aw_kp [4] ?_
    refine aw_ret ?_
    show ∃ v H2, ResV _ _ _ _ _ _ v ∧ Sub H2 _ ∧ _
    exact ⟨_, H, resV rfl (.cons rfl .nil), (by repeat (first | exact Sub.refl _ | apply Sub.drop)), ⟨congrArg Value.bool (by first | exact (decide_eq_true (by omega)).symm | exact (decide_eq_false (by omega)).symm), rfl⟩⟩
  · refine sr_rd (x_pick_f rfl rfl rfl) ?_
    refine sr_as ?_
    refine sr_nil ?_
    refine aw_kp [4] ?_
    refine aw_ret ?_
    show ∃ v H2, ResV _ _ _ _ _ _ v ∧ Sub H2 _ ∧ _
    exact ⟨_, H, resV rfl (.cons rfl .nil), (by repeat (first | exact Sub.refl _ | apply Sub.drop)), ⟨congrArg Value.bool (by first | exact (decide_eq_true (by omega)).symm | exact (decide_eq_false (by omega)).symm), rfl⟩⟩
set_option maxRecDepth 100000 in
set_option maxHeartbeats 400000 in
theorem mLen64_s (x : Nat) (H : SHeap) (hx : x < 256) : AC Try.prog W0 166 [.int .u64 x] H (fun v H' => v = .int .i64 (bitLen x : Nat) ∧ H' = H) := by
  have hb8 := bitLen_le8 x hx
  have hbt : (UInt8.ofNat (bitLen x)).toNat = bitLen x := by rw [UInt8.toNat_ofNat']; exact Nat.mod_eq_of_lt (by omega)
  refine ac_of Try.func166 rfl rfl rfl ?_
  refine aw_seq_region ?_
  refine sr_as ?_
  refine sr_nil ?_
  refine aw_kp [0, 2] ?_
  refine aw_seq ?_
  refine aw_seq_region ?_
  refine sr_mv ?_
  refine sr_c (x_ge rfl rfl) (fun h1 => absurd h1 (by first | omega | decide)) (fun h1 => ?_)
  refine sr_nil ?_
  refine aw_kp [0, 2, 4] ?_
  refine aw_false rfl ?_
  refine aw_skip ?_
  show AW _ _ _ _ _ _ _
  refine aw_seq ?_
  refine aw_seq_region ?_
  refine sr_mv ?_
  refine sr_c (x_ge rfl rfl) (fun h2 => absurd h2 (by first | omega | decide)) (fun h2 => ?_)
  refine sr_nil ?_
  refine aw_kp [0, 2, 8] ?_
  refine aw_false rfl ?_
  refine aw_skip ?_
  show AW _ _ _ _ _ _ _
  refine aw_seq ?_
  refine aw_seq_region ?_
  refine sr_mv ?_
  refine sr_c (x_ge rfl rfl) (fun h3 => absurd h3 (by first | omega | decide)) (fun h3 => ?_)
  refine sr_nil ?_
  refine aw_kp [0, 2, 14] ?_
  refine aw_false rfl ?_
  refine aw_skip ?_
  show AW _ _ _ _ _ _ _
  refine aw_seq_region ?_
  refine sr_mv ?_
  refine sr_mv ?_
  refine sr_rd (x_cast (u := .int .u8 (x : Int)) (x_conv' Try.underlying51 Try.underlying5 rfl (u8w (by omega) (by omega))) rfl) ?_
  refine sr_rd (x_indexS Try.underlying9 rfl rfl (by omega) (tabI (by kernel_rfl) hx)) ?_
  refine sr_rd (x_cast (u := .int .i64 ((bitLen x : Nat) : Int)) (x_conv' Try.underlying5 Try.underlying3 rfl (i64w (by omega) (by omega))) (by rw [hbt])) ?_
  refine sr_rd (x_add' rfl rfl (i64w (by omega) (by omega))) ?_
  refine sr_as ?_
  refine sr_nil ?_
  refine aw_kp [2] ?_
  refine aw_ret ?_
  show ∃ v H2, ResV _ _ _ _ _ _ v ∧ Sub H2 _ ∧ _
  exact ⟨_, H, resV rfl (.cons rfl .nil), (by repeat (first | exact Sub.refl _ | apply Sub.drop)), ⟨congrArg (Value.int .i64) (by omega), rfl⟩⟩
set_option maxRecDepth 100000 in
set_option maxHeartbeats 400000 in
theorem mLen_s (x : Nat) (H : SHeap) (hx : x < 256) : AC Try.prog W0 147 [.int .u64 x] H (fun v H' => v = .int .i64 (bitLen x : Nat) ∧ H' = H) := by
  refine ac_of Try.func147 rfl rfl rfl ?_
  refine aw_seq_region ?_
  refine sr_as ?_
  refine sr_nil ?_
  refine aw_kp [0, 2] ?_
  refine aw_seq ?_
  refine aw_false rfl ?_
  refine aw_skip ?_
  show AW _ _ _ _ _ _ _
  refine aw_seq_region ?_
  refine sr_mv ?_
  refine sr_d rfl (wtd_none rfl) rfl (opS_call rfl rfl rfl rfl cl166 (mLen64_s x _ hx)) ?_
  rintro _ H ⟨rfl, rfl⟩
  refine sr_as ?_
  refine sr_nil ?_
  refine aw_kp [2] ?_
  refine aw_ret ?_
  show ∃ v H2, ResV _ _ _ _ _ _ v ∧ Sub H2 _ ∧ _
  exact ⟨_, H, resV rfl (.cons rfl .nil), (by repeat (first | exact Sub.refl _ | apply Sub.drop)), ⟨rfl, rfl⟩⟩
set_option maxRecDepth 100000 in
set_option maxHeartbeats 400000 in
theorem mPow_s (x : Nat) (H : SHeap) (hx : x < 256) : AC Try.prog W0 175 [.int .i64 x] H (fun v H' => v = .int .u64 ((2 ^ bitLen x : Nat) : Int) ∧ H' = H) := by
  have hb8 := bitLen_le8 x hx
  refine ac_of Try.func175 rfl rfl rfl ?_
  refine aw_seq_region ?_
  refine sr_as ?_
  refine sr_nil ?_
  refine aw_kp [0, 2] ?_
  refine aw_seq_region ?_
  refine sr_mv ?_
  refine sr_rd (x_conv' Try.underlying3 Try.underlying207 rfl (u64w (by omega) (by omega))) ?_
  refine sr_d rfl (wtd_none rfl) rfl (opS_call rfl rfl rfl rfl cl147 (mLen_s x _ hx)) ?_
  rintro _ H ⟨rfl, rfl⟩
  refine sr_rd (x_cast (u := .int .u64 ((2 ^ bitLen x : Nat) : Int)) (x_shl rfl rfl (by omega)) (congrArg (Value.int .u64) (shl1 hb8))) ?_
  refine sr_as ?_
  refine sr_nil ?_
  refine aw_kp [2] ?_
  refine aw_ret ?_
  show ∃ v H2, ResV _ _ _ _ _ _ v ∧ Sub H2 _ ∧ _
  exact ⟨_, H, resV rfl (.cons rfl .nil), (by repeat (first | exact Sub.refl _ | apply Sub.drop)), ⟨rfl, rfl⟩⟩
set_option maxRecDepth 100000 in
set_option maxHeartbeats 400000 in
theorem mRnd_s (r : Nat) (y : Int) (H : SHeap) : AC Try.prog W0 176 [.pointer (some ⟨r, 0, none⟩)] ((r, .cells [.int .u64 y].toArray 239 (0, 0)) :: H) (fun v H' => ∃ z : Int, (0 ≤ z ∧ z ≤ 18446744073709551615) ∧ v = .int .u64 z ∧ H' = (r, .cells [.int .u64 z].toArray 239 (0, 0)) :: H) := by
  refine ac_of Try.func176 rfl rfl rfl ?_
  refine aw_seq_region ?_
  refine sr_as ?_
  refine sr_nil ?_
  refine aw_kp [0, 2] ?_
  refine aw_seq_dr ⟨_, 10, 33, [[], [0], [0, 1], [], [3], [3, 4], [3, 4, 5], [0, 1, 2, 3, 4, 5, 6], [0, 1, 2, 3, 4, 5, 6, 7], [0, 1, 2, 3, 4, 5, 6, 7, 8]], [.light, .light, .mem, .light, .light, .mem, .light, .light, .light, .eff]⟩ (by kernel_rfl) rfl rfl mix ?_
  refine dr_l (x_move rfl) ?_
  refine dr_l (x_nilCheck rfl) ?_
  refine dr_mem0 rfl rfl (wtd_none rfl) (x_load ag239 rfl (cells_ext mauto Ext.auto)) ?_
  refine dr_l (x_move rfl) ?_
  refine dr_l (x_nilCheck rfl) ?_
  refine dr_mem0 rfl rfl (wtd_none rfl) (x_load ag239 rfl (cells_ext mauto Ext.auto)) ?_
  refine dr_l (x_shl rfl rfl (by decide)) ?_
  refine dr_l (x_xor rfl rfl) ?_
  refine dr_l (x_nilCheck rfl) ?_
  refine dr_store0 rfl rfl (wtd_none rfl) (x_store sz239 rfl rfl rfl rfl rfl Repl.auto Spl.auto) (by first | rfl | simp [keys_append, keys_cons]) ?_
  refine dr_nil0 ?_
  refine aw_kp [0, 2] ?_
  refine aw_seq_dr ⟨_, 10, 33, [[], [0], [0, 1], [], [3], [3, 4], [3, 4, 5], [0, 1, 2, 3, 4, 5, 6], [0, 1, 2, 3, 4, 5, 6, 7], [0, 1, 2, 3, 4, 5, 6, 7, 8]], [.light, .light, .mem, .light, .light, .mem, .light, .light, .light, .eff]⟩ (by kernel_rfl) rfl rfl mix ?_
  refine dr_l (x_move rfl) ?_
  refine dr_l (x_nilCheck rfl) ?_
  refine dr_mem0 rfl rfl (wtd_none rfl) (x_load ag239 rfl (cells_ext mauto Ext.auto)) ?_
  refine dr_l (x_move rfl) ?_
  refine dr_l (x_nilCheck rfl) ?_
  refine dr_mem0 rfl rfl (wtd_none rfl) (x_load ag239 rfl (cells_ext mauto Ext.auto)) ?_
  refine dr_l (x_shr rfl rfl (by decide)) ?_
  refine dr_l (x_xor rfl rfl) ?_
  refine dr_l (x_nilCheck rfl) ?_
  refine dr_store0 rfl rfl (wtd_none rfl) (x_store sz239 rfl rfl rfl rfl rfl Repl.auto Spl.auto) (by first | rfl | simp [keys_append, keys_cons]) ?_
  refine dr_nil0 ?_
  refine aw_kp [0, 2] ?_
  refine aw_seq_dr ⟨_, 10, 33, [[], [0], [0, 1], [], [3], [3, 4], [3, 4, 5], [0, 1, 2, 3, 4, 5, 6], [0, 1, 2, 3, 4, 5, 6, 7], [0, 1, 2, 3, 4, 5, 6, 7, 8]], [.light, .light, .mem, .light, .light, .mem, .light, .light, .light, .eff]⟩ (by kernel_rfl) rfl rfl mix ?_
  refine dr_l (x_move rfl) ?_
  refine dr_l (x_nilCheck rfl) ?_
  refine dr_mem0 rfl rfl (wtd_none rfl) (x_load ag239 rfl (cells_ext mauto Ext.auto)) ?_
  refine dr_l (x_move rfl) ?_
  refine dr_l (x_nilCheck rfl) ?_
  refine dr_mem0 rfl rfl (wtd_none rfl) (x_load ag239 rfl (cells_ext mauto Ext.auto)) ?_
  refine dr_l (x_shl rfl rfl (by decide)) ?_
  refine dr_l (x_xor rfl rfl) ?_
  refine dr_l (x_nilCheck rfl) ?_
  refine dr_store0 rfl rfl (wtd_none rfl) (x_store sz239 rfl rfl rfl rfl rfl Repl.auto Spl.auto) (by first | rfl | simp [keys_append, keys_cons]) ?_
  refine dr_nil0 ?_
  refine aw_kp [0, 2] ?_
  refine aw_seq_region ?_
  refine sr_mv ?_
  refine sr_rd (x_nilCheck rfl) ?_
  refine sr_rd (x_load ag239 rfl (cells_ext mauto Ext.auto)) ?_
  refine sr_as ?_
  refine sr_nil ?_
  refine aw_kp [2] ?_
  refine aw_ret ?_
  show ∃ v H2, ResV _ _ _ _ _ _ v ∧ Sub H2 _ ∧ _
  exact ⟨_, _, resV rfl (.cons rfl .nil), Sub.refl _, _, wrap_u64 _, rfl, rfl⟩
set_option maxRecDepth 100000 in
set_option maxHeartbeats 2000000 in
theorem mIns_s (b cap n : Nat) (W : List Int) (post : List Value) (G : SHeap) (hl : W.length = n) (hn : n ≤ 100000) (hcap : n ≤ cap) (hcb : cap ≤ 9223372036854775807) (a e : Nat) (h1 : a ≤ e) (h2 : e ≤ n) : AC Try.prog W0 156 [.slice (some ⟨b, 0, none⟩) n cap, .int .i64 a, .int .i64 e] ((b, .cells ((W).flatMap intC ++ post).toArray 3 (0, 0)) :: G) (fun v H' => ∃ W', (Pq W a e W' ∧ SrI W' a e) ∧ v = .tuple #[] ∧ H' = (b, .cells ((W').flatMap intC ++ post).toArray 3 (0, 0)) :: G) := by
  refine ac_of Try.func156 rfl rfl rfl ?_
  refine aw_seq_region ?_
  refine sr_mv ?_
  refine sr_rd (x_add' rfl rfl (i64w (by omega) (by omega))) ?_
  refine sr_as ?_
  refine sr_nil ?_
  refine aw_kp [0, 1, 2, 6] ?_
  refine aw_block ?_
  refine aw_loop (ι := SortG Int) (fun s => a + 1 ≤ s.k ∧ (s.k ≤ e ∨ s.k = a + 1) ∧ s.W.length = n ∧ St cI W s.W ∧ InR W a e s.W ∧ SrtI cI s.W a s.k) (fun s => [(0, .slice (some ⟨b, 0, none⟩) n cap), (1, .int .i64 a), (2, .int .i64 e), (6, .int .i64 s.k)]) (fun s => (b, .cells ((s.W).flatMap intC ++ post).toArray 3 (0, 0)) :: G) (fun s => e - s.k) ⟨a + 1, W⟩ (⟨Nat.le_refl _, .inr rfl, hl, St.refl W, InR.refl W a e, SrtI.one (Nat.le_refl _)⟩) KeepF.auto Sub.autoP ?_
  intro s hs9
  obtain ⟨i, cur⟩ := s
  dsimp only at hs9 ⊢
  obtain ⟨hi1, hi2, hcl, hst, hin, hsr⟩ := hs9
  refine aw_seq ?_
  refine aw_seq_region ?_
  refine sr_mv ?_
  refine sr_mv ?_
  refine sr_c (x_lt rfl rfl) (fun h1 => ?_) (fun h1 => ?_)
  · refine sr_nil ?_
    refine aw_kp [0, 1, 2, 6, 10, 11, 12] ?_
    refine aw_true rfl ?_
    refine aw_skip ?_
    show AW _ _ _ _ _ _ _
    refine aw_seq ?_
    refine aw_block ?_
    refine aw_seq_region ?_
    refine sr_mv ?_
    refine sr_as ?_
    refine sr_nil ?_
    refine aw_kp [0, 1, 2, 6, 7, 10, 11, 12, 15] ?_
    refine aw_block ?_
    refine aw_loop (ι := SortG Int) (fun s => a ≤ s.k ∧ s.k ≤ i ∧ s.W.length = n ∧ Mv cur (rotF s.k i (i + 1)) s.W ∧ ∀ h, s.k ≤ h → h < i → cI (gd cur i) (gd cur h) < 0) (fun s => [(0, .slice (some ⟨b, 0, none⟩) n cap), (1, .int .i64 a), (2, .int .i64 e), (6, .int .i64 i), (7, .int .i64 s.k)]) (fun s => (b, .cells ((s.W).flatMap intC ++ post).toArray 3 (0, 0)) :: G) (fun s => s.k) ⟨i, cur⟩ (⟨by dsimp only; omega, Nat.le_refl _, hcl, Mv.refl _ (rotF_self i), fun h q1 q2 => by dsimp only at q1; omega⟩) KeepF.auto Sub.autoP ?_
    intro s hs8
    obtain ⟨j, cur2⟩ := s
    dsimp only at hs8 ⊢
    obtain ⟨hj1, hj2, hcl2, hmv2, hlt2⟩ := hs8
    refine aw_seq ?_
    refine aw_seq_dr ⟨_, 15, 49, [[], [], [0, 1], [0, 1, 2], [0, 1, 2, 3], [0, 1, 2, 3], [0, 1, 2, 3, 4, 5], [0, 1, 2, 3, 4, 5, 6], [0, 1, 2, 3], [0, 1, 2, 3], [0, 1, 2, 3, 9], [0, 1, 2, 3, 8, 9, 10], [0, 1, 2, 3, 8, 9, 10, 11], [0, 1, 2, 3, 4, 5, 6, 7, 8, 9, 10, 11, 12], [0, 1, 2, 3, 4, 5, 6, 7, 8, 9, 10, 11, 12, 13]], [.light, .light, .light, .light, .light, .light, .light, .mem, .light, .light, .light, .light, .mem, .call, .light]⟩ (by kernel_rfl) rfl rfl mix ?_
    refine dr_l (x_move rfl) ?_
    refine dr_l (x_move rfl) ?_
    refine dr_cmp rfl rfl (wtd_none rfl) (x_gt rfl rfl) (fun h2 => ?_) (fun h2 => ?_)
    · refine dr_l (x_move rfl) ?_
      refine dr_y (x_move rfl) ?_
      refine dr_y (x_move rfl) ?_
      refine dr_y (x_indexAddrN (j) Try.underlying134 sz3 rfl rfl rfl (by omega) (by omega)) ?_
      refine dr_mem0 rfl rfl (wtd_yes rfl rfl rfl) (x_load ag3 rfl (cells_get (cells_flat0 (n := 1) (enc := intC) (fun _ => rfl) (xs := cur2) (post := post) (show (b, Obj.cells ((cur2).flatMap intC ++ post).toArray 3 (0, 0)) ∈ _ from mauto) (gd_some (by omega))) 0 rfl)) ?_
      refine dr_y (x_move rfl) ?_
      refine dr_y (x_move rfl) ?_
      refine dr_y (x_cast (u := .int .i64 ((j - 1 : Nat) : Int)) (x_sub' rfl rfl (i64w (by omega) (by omega))) (by congr 1; omega)) ?_
      refine dr_y (x_indexAddrN (j - 1) Try.underlying134 sz3 rfl rfl rfl (by omega) (by omega)) ?_
      refine dr_mem0 rfl rfl (wtd_yes rfl rfl rfl) (x_load ag3 rfl (cells_get (cells_flat0 (n := 1) (enc := intC) (fun _ => rfl) (xs := cur2) (post := post) (show (b, Obj.cells ((cur2).flatMap intC ++ post).toArray 3 (0, 0)) ∈ _ from mauto) (gd_some (by omega))) 0 rfl)) ?_
      refine dr_callq0 rfl rfl (wtd_yes rfl rfl rfl) (opS_F rfl rfl rfl rfl cl162 ((mLess_s (gd cur2 j) (gd cur2 (j - 1)) _))) (⟨_, rfl⟩) ?_
      rintro _ rfl
      generalize hd1 : decide (gd cur2 j < gd cur2 (j - 1)) = d1
      cases d1
      · refine dr_l (x_pick_t rfl rfl rfl) ?_
        refine dr_nil0 ?_
        refine aw_kp [0, 1, 2, 6, 7, 16, 17, 18, 19, 20, 21, 22, 23, 24, 25, 26, 27, 28, 29, 30] ?_
        refine aw_false rfl ?_
        refine aw_exit ?_
        show AW _ _ _ _ _ _ _
        refine aw_region ?_
        refine sr_mv ?_
        refine sr_rd (x_add' rfl rfl (i64w (by omega) (by omega))) ?_
        refine sr_as ?_
        refine sr_nil ?_
        show ∃ s', _ ∧ _ ∧ _ ∧ _
        exact ⟨⟨i + 1, cur2⟩, ⟨by dsimp only; omega, .inl (by dsimp only; omega), hcl2, hst.trans (insr_end cI_swo hj1 hj2 (by omega) hsr hlt2 hmv2 (fun q8 => by first | (have q9 := of_decide_eq_true hd1; unfold cI; omega) | (have q9 := of_decide_eq_false hd1; unfold cI; omega) | (exfalso; omega))).1, hin.trans ((insr_end cI_swo hj1 hj2 (by omega) hsr hlt2 hmv2 (fun q8 => by first | (have q9 := of_decide_eq_true hd1; unfold cI; omega) | (have q9 := of_decide_eq_false hd1; unfold cI; omega) | (exfalso; omega))).2.1.wide (Nat.le_refl _) (by omega)), (insr_end cI_swo hj1 hj2 (by omega) hsr hlt2 hmv2 (fun q8 => by first | (have q9 := of_decide_eq_true hd1; unfold cI; omega) | (have q9 := of_decide_eq_false hd1; unfold cI; omega) | (exfalso; omega))).2.2⟩, by dsimp only; omega, KeepF.auto, Sub.autoP⟩
      · refine dr_l (x_pick_t rfl rfl rfl) ?_
        refine dr_nil0 ?_
        refine aw_kp [0, 1, 2, 6, 7, 16, 17, 18, 19, 20, 21, 22, 23, 24, 25, 26, 27, 28, 29, 30] ?_
        refine aw_true rfl ?_
        refine aw_skip ?_
        show AW _ _ _ _ _ _ _
        refine aw_seq ?_
        refine aw_block ?_
        refine aw_dr ⟨_, 18, 49, [[], [], [], [], [3], [], [], [6], [5, 6, 7], [5, 6, 7, 8], [], [], [10, 11], [10, 11, 12], [0, 1, 5, 6, 7, 8, 9, 10, 11, 12, 13], [0, 1, 5, 6, 7, 8, 9, 10, 11, 12, 13, 14], [0, 1, 2, 3, 4, 5, 6, 7, 8, 9, 10, 11, 12, 13, 14, 15], [0, 1, 2, 3, 4, 5, 6, 7, 8, 9, 10, 11, 12, 13, 14, 15, 16]], [.light, .light, .light, .light, .light, .light, .light, .light, .light, .mem, .light, .light, .light, .mem, .light, .eff, .light, .eff]⟩ (by kernel_rfl) rfl rfl mix ?_
        refine dr_l (x_move rfl) ?_
        refine dr_l (x_move rfl) ?_
        refine dr_l (x_move rfl) ?_
        refine dr_l (x_move rfl) ?_
        refine dr_l (x_cast (u := .int .i64 ((j - 1 : Nat) : Int)) (x_sub' rfl rfl (i64w (by omega) (by omega))) (by congr 1; omega)) ?_
        refine dr_l (x_move rfl) ?_
        refine dr_l (x_move rfl) ?_
        refine dr_l (x_cast (u := .int .i64 ((j - 1 : Nat) : Int)) (x_sub' rfl rfl (i64w (by omega) (by omega))) (by congr 1; omega)) ?_
        refine dr_l (x_indexAddrN (j - 1) Try.underlying134 sz3 rfl rfl rfl (by omega) (by omega)) ?_
        refine dr_mem0 rfl rfl (wtd_none rfl) (x_load ag3 rfl (cells_get (cells_flat0 (n := 1) (enc := intC) (fun _ => rfl) (xs := cur2) (post := post) (show (b, Obj.cells ((cur2).flatMap intC ++ post).toArray 3 (0, 0)) ∈ _ from mauto) (gd_some (by omega))) 0 rfl)) ?_
        refine dr_l (x_move rfl) ?_
        refine dr_l (x_move rfl) ?_
        refine dr_l (x_indexAddrN (j) Try.underlying134 sz3 rfl rfl rfl (by omega) (by omega)) ?_
        refine dr_mem0 rfl rfl (wtd_none rfl) (x_load ag3 rfl (cells_get (cells_flat0 (n := 1) (enc := intC) (fun _ => rfl) (xs := cur2) (post := post) (show (b, Obj.cells ((cur2).flatMap intC ++ post).toArray 3 (0, 0)) ∈ _ from mauto) (gd_some (by omega))) 0 rfl)) ?_
        refine dr_l (x_indexAddrN (j) Try.underlying134 sz3 rfl rfl rfl (by omega) (by omega)) ?_
        refine dr_store0 rfl rfl (wtd_none rfl) (x_store sz3 rfl rfl rfl rfl rfl Repl.auto (spl_flat0 (n := 1) (enc := intC) (fun _ => rfl) (xs := cur2) (post := post) (i := (j)) (x' := gd cur2 (j - 1)) (by first | omega | (rw [List.length_set]; omega)))) (by first | rfl | simp [keys_append, keys_cons]) ?_
        refine dr_l (x_indexAddrN (j - 1) Try.underlying134 sz3 rfl rfl rfl (by omega) (by omega)) ?_
        refine dr_store0 rfl rfl (wtd_none rfl) (x_store sz3 rfl rfl rfl rfl rfl Repl.auto (spl_flat0 (n := 1) (enc := intC) (fun _ => rfl) (xs := ((cur2).set (j) (gd cur2 (j - 1)))) (post := post) (i := (j - 1)) (x' := gd cur2 (j)) (by first | omega | (rw [List.length_set]; omega)))) (by first | rfl | simp [keys_append, keys_cons]) ?_
        refine dr_nil0 ?_
        show AW _ _ _ _ _ _ _
        refine aw_region ?_
        refine sr_mv ?_
        refine sr_rd (x_cast (u := .int .i64 ((j - 1 : Nat) : Int)) (x_sub' rfl rfl (i64w (by omega) (by omega))) (by congr 1; omega)) ?_
        refine sr_as ?_
        refine sr_nil ?_
        show ∃ s', _ ∧ _ ∧ _ ∧ _
        exact ⟨⟨j - 1, sw cur2 j (j - 1)⟩, ⟨by dsimp only; omega, by dsimp only; omega, sw_len.trans hcl2, insr_step (by omega) hj2 (by omega) hlt2 hmv2 (by first | (have q9 := of_decide_eq_true hd1; unfold cI; omega) | (have q9 := of_decide_eq_false hd1; unfold cI; omega) | (exfalso; omega))⟩, by dsimp only; omega, KeepF.auto, Sub.autoP⟩
    · refine dr_l (x_move rfl) ?_
      refine dr_sk ?_
      refine dr_sk ?_
      refine dr_sk ?_
      refine dr_sk ?_
      refine dr_sk ?_
      refine dr_sk ?_
      refine dr_sk ?_
      refine dr_sk ?_
      refine dr_sk ?_
      refine dr_sk ?_
      refine dr_l (x_pick_f rfl rfl rfl) ?_
      refine dr_nil0 ?_
      refine aw_kp [0, 1, 2, 6, 7, 16, 17, 18, 19, 20, 21, 22, 23, 24, 25, 26, 27, 28, 29, 30] ?_
      refine aw_false rfl ?_
      refine aw_exit ?_
      show AW _ _ _ _ _ _ _
      refine aw_region ?_
      refine sr_mv ?_
      refine sr_rd (x_add' rfl rfl (i64w (by omega) (by omega))) ?_
      refine sr_as ?_
      refine sr_nil ?_
      show ∃ s', _ ∧ _ ∧ _ ∧ _
      exact ⟨⟨i + 1, cur2⟩, ⟨by dsimp only; omega, .inl (by dsimp only; omega), hcl2, hst.trans (insr_end cI_swo hj1 hj2 (by omega) hsr hlt2 hmv2 (fun q8 => by first | (have q9 := of_decide_eq_true hd1; unfold cI; omega) | (have q9 := of_decide_eq_false hd1; unfold cI; omega) | (exfalso; omega))).1, hin.trans ((insr_end cI_swo hj1 hj2 (by omega) hsr hlt2 hmv2 (fun q8 => by first | (have q9 := of_decide_eq_true hd1; unfold cI; omega) | (have q9 := of_decide_eq_false hd1; unfold cI; omega) | (exfalso; omega))).2.1.wide (Nat.le_refl _) (by omega)), (insr_end cI_swo hj1 hj2 (by omega) hsr hlt2 hmv2 (fun q8 => by first | (have q9 := of_decide_eq_true hd1; unfold cI; omega) | (have q9 := of_decide_eq_false hd1; unfold cI; omega) | (exfalso; omega))).2.2⟩, by dsimp only; omega, KeepF.auto, Sub.autoP⟩
  · refine sr_nil ?_
    refine aw_kp [0, 1, 2, 6, 10, 11, 12] ?_
    refine aw_false rfl ?_
    refine aw_exit ?_
    show ∃ v H2, ResV _ _ _ _ _ _ v ∧ Sub H2 _ ∧ _
    exact ⟨_, _, resV rfl .nil, Sub.refl _, cur, Mg.pq ⟨hst, hin, hsr.up (by omega)⟩, rfl, rfl⟩
set_option maxRecDepth 100000 in
set_option maxHeartbeats 1000000 in
theorem mRev_s (b cap n : Nat) (W : List Int) (post : List Value) (G : SHeap) (hl : W.length = n) (hn : n ≤ 100000) (hcap : n ≤ cap) (hcb : cap ≤ 9223372036854775807) (a e : Nat) (h1 : a < e) (h2 : e ≤ n) : AC Try.prog W0 160 [.slice (some ⟨b, 0, none⟩) n cap, .int .i64 a, .int .i64 e] ((b, .cells ((W).flatMap intC ++ post).toArray 3 (0, 0)) :: G) (fun v H' => ∃ W', Pq W a e W' ∧ v = .tuple #[] ∧ H' = (b, .cells ((W').flatMap intC ++ post).toArray 3 (0, 0)) :: G) := by
  refine ac_of Try.func160 rfl rfl rfl ?_
  refine aw_seq_region ?_
  refine sr_mv ?_
  refine sr_as ?_
  refine sr_nil ?_
  refine aw_kp [0, 2, 6] ?_
  refine aw_seq_region ?_
  refine sr_mv ?_
  refine sr_rd (x_cast (u := .int .i64 ((e - 1 : Nat) : Int)) (x_sub' rfl rfl (i64w (by omega) (by omega))) (by congr 1; omega)) ?_
  refine sr_as ?_
  refine sr_nil ?_
  refine aw_kp [0, 6, 7] ?_
  refine aw_block ?_
  refine aw_loop (ι := Pd2) (fun s => a ≤ s.i ∧ s.j + 1 ≤ e ∧ s.i ≤ s.j + 1 ∧ s.W.length = n ∧ Pq W a e s.W) (fun s => [(0, .slice (some ⟨b, 0, none⟩) n cap), (6, .int .i64 s.i), (7, .int .i64 s.j)]) (fun s => (b, .cells ((s.W).flatMap intC ++ post).toArray 3 (0, 0)) :: G) (fun s => s.j + 1 - s.i) ⟨a, e - 1, W⟩ (⟨Nat.le_refl _, by dsimp only; omega, by dsimp only; omega, hl, Pq.refl _ _ _⟩) KeepF.auto Sub.autoP ?_
  intro s hs9
  obtain ⟨i, j, cur⟩ := s
  dsimp only at hs9 ⊢
  obtain ⟨hi1, hj1, hij, hcl, hpq⟩ := hs9
  refine aw_seq ?_
  refine aw_seq_region ?_
  refine sr_mv ?_
  refine sr_mv ?_
  refine sr_c (x_lt rfl rfl) (fun h1 => ?_) (fun h1 => ?_)
  · refine sr_nil ?_
    refine aw_kp [0, 6, 7, 11, 12, 13] ?_
    refine aw_true rfl ?_
    refine aw_skip ?_
    show AW _ _ _ _ _ _ _
    refine aw_block ?_
    refine aw_seq_dr ⟨_, 16, 32, [[], [], [], [], [], [], [4, 5], [4, 5, 6], [], [], [8, 9], [8, 9, 10], [0, 1, 4, 5, 6, 7, 8, 9, 10, 11], [0, 1, 4, 5, 6, 7, 8, 9, 10, 11, 12], [0, 1, 2, 3, 4, 5, 6, 7, 8, 9, 10, 11, 12, 13], [0, 1, 2, 3, 4, 5, 6, 7, 8, 9, 10, 11, 12, 13, 14]], [.light, .light, .light, .light, .light, .light, .light, .mem, .light, .light, .light, .mem, .light, .eff, .light, .eff]⟩ (by kernel_rfl) rfl rfl mix ?_
    refine dr_l (x_move rfl) ?_
    refine dr_l (x_move rfl) ?_
    refine dr_l (x_move rfl) ?_
    refine dr_l (x_move rfl) ?_
    refine dr_l (x_move rfl) ?_
    refine dr_l (x_move rfl) ?_
    refine dr_l (x_indexAddrN (j) Try.underlying134 sz3 rfl rfl rfl (by omega) (by omega)) ?_
    refine dr_mem0 rfl rfl (wtd_none rfl) (x_load ag3 rfl (cells_get (cells_flat0 (n := 1) (enc := intC) (fun _ => rfl) (xs := cur) (post := post) (show (b, Obj.cells ((cur).flatMap intC ++ post).toArray 3 (0, 0)) ∈ _ from mauto) (gd_some (by omega))) 0 rfl)) ?_
    refine dr_l (x_move rfl) ?_
    refine dr_l (x_move rfl) ?_
    refine dr_l (x_indexAddrN (i) Try.underlying134 sz3 rfl rfl rfl (by omega) (by omega)) ?_
    refine dr_mem0 rfl rfl (wtd_none rfl) (x_load ag3 rfl (cells_get (cells_flat0 (n := 1) (enc := intC) (fun _ => rfl) (xs := cur) (post := post) (show (b, Obj.cells ((cur).flatMap intC ++ post).toArray 3 (0, 0)) ∈ _ from mauto) (gd_some (by omega))) 0 rfl)) ?_
    refine dr_l (x_indexAddrN (i) Try.underlying134 sz3 rfl rfl rfl (by omega) (by omega)) ?_
    refine dr_store0 rfl rfl (wtd_none rfl) (x_store sz3 rfl rfl rfl rfl rfl Repl.auto (spl_flat0 (n := 1) (enc := intC) (fun _ => rfl) (xs := cur) (post := post) (i := (i)) (x' := gd cur (j)) (by first | omega | (rw [List.length_set]; omega)))) (by first | rfl | simp [keys_append, keys_cons]) ?_
    refine dr_l (x_indexAddrN (j) Try.underlying134 sz3 rfl rfl rfl (by omega) (by omega)) ?_
    refine dr_store0 rfl rfl (wtd_none rfl) (x_store sz3 rfl rfl rfl rfl rfl Repl.auto (spl_flat0 (n := 1) (enc := intC) (fun _ => rfl) (xs := ((cur).set (i) (gd cur (j)))) (post := post) (i := (j)) (x' := gd cur (i)) (by first | omega | (rw [List.length_set]; omega)))) (by first | rfl | simp [keys_append, keys_cons]) ?_
    refine dr_nil0 ?_
    refine aw_kp [0, 6, 7, 11, 12, 13, 14, 15, 16, 17, 18, 19, 20, 21, 22, 23, 24, 25, 26, 27] ?_
    refine aw_seq_region ?_
    refine sr_mv ?_
    refine sr_rd (x_add' rfl rfl (i64w (by omega) (by omega))) ?_
    refine sr_as ?_
    refine sr_nil ?_
    refine aw_kp [0, 6, 7, 11, 12, 13, 14, 15, 16, 17, 18, 19, 20, 21, 22, 23, 24, 25, 26, 27, 28, 29] ?_
    refine aw_region ?_
    refine sr_mv ?_
    refine sr_rd (x_cast (u := .int .i64 ((j - 1 : Nat) : Int)) (x_sub' rfl rfl (i64w (by omega) (by omega))) (by congr 1; omega)) ?_
    refine sr_as ?_
    refine sr_nil ?_
    show ∃ s', _ ∧ _ ∧ _ ∧ _
    exact ⟨⟨i + 1, j - 1, sw cur i j⟩, ⟨by dsimp only; omega, by dsimp only; omega, by dsimp only; omega, sw_len.trans hcl, hpq.trans (Pq.sw (by omega) (by omega) (by omega))⟩, by dsimp only; omega, KeepF.auto, Sub.autoP⟩
  · refine sr_nil ?_
    refine aw_kp [0, 6, 7, 11, 12, 13] ?_
    refine aw_false rfl ?_
    refine aw_exit ?_
    show ∃ v H2, ResV _ _ _ _ _ _ v ∧ Sub H2 _ ∧ _
    exact ⟨_, _, resV rfl .nil, Sub.refl _, cur, hpq, rfl, rfl⟩
set_option maxRecDepth 100000 in
set_option maxHeartbeats 2000000 in
theorem mSift_s (b cap n : Nat) (W : List Int) (post : List Value) (G : SHeap) (hl : W.length = n) (hn : n ≤ 100000) (hcap : n ≤ cap) (hcb : cap ≤ 9223372036854775807) (lo hi f : Nat) (h2 : f + hi ≤ n) (hlo : lo ≤ 100000) (hp0 : Hp W f (lo + 1) hi) : AC Try.prog W0 174 [.slice (some ⟨b, 0, none⟩) n cap, .int .i64 lo, .int .i64 hi, .int .i64 f] ((b, .cells ((W).flatMap intC ++ post).toArray 3 (0, 0)) :: G) (fun v H' => ∃ W', (Pq W f (f + hi) W' ∧ Hp W' f lo hi) ∧ v = .tuple #[] ∧ H' = (b, .cells ((W').flatMap intC ++ post).toArray 3 (0, 0)) :: G) := by
  refine ac_of Try.func174 rfl rfl rfl ?_
  refine aw_seq_region ?_
  refine sr_mv ?_
  refine sr_as ?_
  refine sr_nil ?_
  refine aw_kp [0, 2, 3, 8] ?_
  refine aw_block ?_
  refine aw_loop (ι := Pd1) (fun s => lo ≤ s.k ∧ (s.k < hi ∨ s.k = lo) ∧ s.W.length = n ∧ Pq W f (f + hi) s.W ∧ HpX s.W f lo hi s.k) (fun s => [(0, .slice (some ⟨b, 0, none⟩) n cap), (2, .int .i64 hi), (3, .int .i64 f), (8, .int .i64 s.k)]) (fun s => (b, .cells ((s.W).flatMap intC ++ post).toArray 3 (0, 0)) :: G) (fun s => hi - s.k) ⟨lo, W⟩ (⟨Nat.le_refl _, .inr rfl, hl, Pq.refl _ _ _, HpX.start hp0⟩) KeepF.auto Sub.autoP ?_
  intro s hs9
  obtain ⟨r, cur⟩ := s
  dsimp only at hs9 ⊢
  obtain ⟨hr1, hr2, hcl, hpq, hx⟩ := hs9
  refine aw_block ?_
  refine aw_seq_region ?_
  refine sr_mv ?_
  refine sr_rd (x_cast (u := .int .i64 ((2 * r : Nat) : Int)) (x_mul' rfl rfl (i64w (by omega) (by omega))) (by congr 1)) ?_
  refine sr_rd (x_cast (u := .int .i64 ((2 * r + 1 : Nat) : Int)) (x_add' rfl rfl (i64w (by omega) (by omega))) (by congr 1)) ?_
  refine sr_as ?_
  refine sr_nil ?_
  refine aw_kp [0, 2, 3, 8, 9, 11, 12, 13] ?_
  refine aw_seq ?_
  refine aw_seq_region ?_
  refine sr_mv ?_
  refine sr_mv ?_
  refine sr_c (x_ge rfl rfl) (fun h1 => ?_) (fun h1 => ?_)
  · refine sr_nil ?_
    refine aw_kp [0, 2, 3, 8, 9, 11, 12, 13, 14, 15, 16] ?_
    refine aw_true rfl ?_
    refine aw_exit ?_
    show ∃ v H2, ResV _ _ _ _ _ _ v ∧ Sub H2 _ ∧ _
    exact ⟨_, _, resV rfl .nil, Sub.refl _, cur, ⟨hpq, hx.done (fun d q1 q2 => by first | (exfalso; omega) | (have q3 := hbig d q1 q2; have q4 := of_decide_eq_false hd2; omega))⟩, rfl, rfl⟩
  · refine sr_nil ?_
    refine aw_kp [0, 2, 3, 8, 9, 11, 12, 13, 14, 15, 16] ?_
    refine aw_false rfl ?_
    refine aw_skip ?_
    show AW _ _ _ _ _ _ _
    refine aw_join (ι := Nat) (fun c => (c = 2 * r + 1 ∨ c = 2 * r + 2) ∧ c < hi ∧ ∀ d, (d = 2 * r + 1 ∨ d = 2 * r + 2) → d < hi → gd cur (f + d) ≤ gd cur (f + c)) (fun c => [(0, .slice (some ⟨b, 0, none⟩) n cap), (2, .int .i64 hi), (3, .int .i64 f), (8, .int .i64 r), (9, .int .i64 c)]) (fun _ => (b, .cells ((cur).flatMap intC ++ post).toArray 3 (0, 0)) :: G) ?_ ?_
    · refine aw_seq_dr ⟨_, 20, 76, [[], [0], [], [0, 1, 2], [0, 1, 2, 3], [0, 1, 2, 3, 4], [0, 1, 2, 3, 4], [0, 1, 2, 3, 4], [0, 1, 2, 3, 4, 6, 7], [0, 1, 2, 3, 4, 5, 6, 7, 8], [0, 1, 2, 3, 4, 5, 6, 7, 8, 9], [0, 1, 2, 3, 4], [0, 1, 2, 3, 4], [0, 1, 2, 3, 4], [0, 1, 2, 3, 4, 12, 13], [0, 1, 2, 3, 4, 12, 13, 14], [0, 1, 2, 3, 4, 11, 12, 13, 14, 15], [0, 1, 2, 3, 4, 11, 12, 13, 14, 15, 16], [0, 1, 2, 3, 4, 5, 6, 7, 8, 9, 10, 11, 12, 13, 14, 15, 16, 17], [0, 1, 2, 3, 4, 5, 6, 7, 8, 9, 10, 11, 12, 13, 14, 15, 16, 17, 18]], [.light, .light, .light, .light, .light, .light, .light, .light, .light, .light, .mem, .light, .light, .light, .light, .light, .light, .mem, .call, .light]⟩ (by kernel_rfl) rfl rfl mix ?_
      refine dr_l (x_move rfl) ?_
      refine dr_l (x_cast (u := .int .i64 ((2 * r + 1 + 1 : Nat) : Int)) (x_add' rfl rfl (i64w (by omega) (by omega))) (by congr 1)) ?_
      refine dr_l (x_move rfl) ?_
      refine dr_cmp rfl rfl (wtd_none rfl) (x_lt rfl rfl) (fun h2 => ?_) (fun h2 => ?_)
      · refine dr_l (x_move rfl) ?_
        refine dr_y (x_move rfl) ?_
        refine dr_y (x_move rfl) ?_
        refine dr_y (x_move rfl) ?_
        refine dr_y (x_cast (u := .int .i64 ((f + (2 * r + 1) : Nat) : Int)) (x_add' rfl rfl (i64w (by omega) (by omega))) (by congr 1)) ?_
        refine dr_y (x_indexAddrN (f + (2 * r + 1)) Try.underlying134 sz3 rfl rfl rfl (by omega) (by omega)) ?_
        refine dr_mem0 rfl rfl (wtd_yes rfl rfl rfl) (x_load ag3 rfl (cells_get (cells_flat0 (n := 1) (enc := intC) (fun _ => rfl) (xs := cur) (i := (f + (2 * r + 1))) (post := post) (show (b, Obj.cells ((cur).flatMap intC ++ post).toArray 3 (0, 0)) ∈ _ from mauto) (gd_some (by omega))) 0 rfl)) ?_
        refine dr_y (x_move rfl) ?_
        refine dr_y (x_move rfl) ?_
        refine dr_y (x_move rfl) ?_
        refine dr_y (x_cast (u := .int .i64 ((f + (2 * r + 1) : Nat) : Int)) (x_add' rfl rfl (i64w (by omega) (by omega))) (by congr 1)) ?_
        refine dr_y (x_cast (u := .int .i64 ((f + (2 * r + 1 + 1) : Nat) : Int)) (x_add' rfl rfl (i64w (by omega) (by omega))) (by congr 1)) ?_
        refine dr_y (x_indexAddrN (f + (2 * r + 1 + 1)) Try.underlying134 sz3 rfl rfl rfl (by omega) (by omega)) ?_
        refine dr_mem0 rfl rfl (wtd_yes rfl rfl rfl) (x_load ag3 rfl (cells_get (cells_flat0 (n := 1) (enc := intC) (fun _ => rfl) (xs := cur) (i := (f + (2 * r + 1 + 1))) (post := post) (show (b, Obj.cells ((cur).flatMap intC ++ post).toArray 3 (0, 0)) ∈ _ from mauto) (gd_some (by omega))) 0 rfl)) ?_
        refine dr_callq0 rfl rfl (wtd_yes rfl rfl rfl) (opS_F rfl rfl rfl rfl cl162 ((mLess_s (gd cur (f + (2 * r + 1))) (gd cur (f + (2 * r + 1 + 1))) _))) (⟨_, rfl⟩) ?_
        rintro _ rfl
        generalize hd1 : decide (gd cur (f + (2 * r + 1)) < gd cur (f + (2 * r + 1 + 1))) = d1
        cases d1
        · refine dr_l (x_pick_t rfl rfl rfl) ?_
          refine dr_nil0 ?_
          refine aw_kp [0, 2, 3, 8, 9, 11, 12, 13, 14, 15, 16, 17, 18, 19, 20, 21, 22, 23, 24, 25, 26, 27, 28, 29, 30, 31, 32, 33, 34, 35, 36] ?_
          refine aw_false rfl ?_
          refine aw_skip ?_
          show ∃ s', _ ∧ _ ∧ _
          first | exact ⟨2 * r + 1 + 1, ⟨by omega, by omega, fun d q1 q2 => by (rcases q1 with rfl | rfl); (exact Int.le_of_lt (of_decide_eq_true hd1)); (exact Int.le_refl _)⟩, KeepF.auto, Sub.autoD⟩ | exact ⟨2 * r + 1, ⟨.inl rfl, by omega, fun d q1 q2 => by (rcases q1 with rfl | rfl); (exact Int.le_refl _); (first | (exfalso; omega) | exact Int.not_lt.1 (of_decide_eq_false hd1))⟩, KeepF.auto, Sub.autoD⟩
        · refine dr_l (x_pick_t rfl rfl rfl) ?_
          refine dr_nil0 ?_
          refine aw_kp [0, 2, 3, 8, 9, 11, 12, 13, 14, 15, 16, 17, 18, 19, 20, 21, 22, 23, 24, 25, 26, 27, 28, 29, 30, 31, 32, 33, 34, 35, 36] ?_
          refine aw_true rfl ?_
          refine aw_region ?_
          refine sr_mv ?_
          refine sr_rd (x_cast (u := .int .i64 ((2 * r + 1 + 1 : Nat) : Int)) (x_add' rfl rfl (i64w (by omega) (by omega))) (by congr 1)) ?_
          refine sr_as ?_
          refine sr_nil ?_
          show ∃ s', _ ∧ _ ∧ _
          first | exact ⟨2 * r + 1 + 1, ⟨by omega, by omega, fun d q1 q2 => by (rcases q1 with rfl | rfl); (exact Int.le_of_lt (of_decide_eq_true hd1)); (exact Int.le_refl _)⟩, KeepF.auto, Sub.autoD⟩ | exact ⟨2 * r + 1, ⟨.inl rfl, by omega, fun d q1 q2 => by (rcases q1 with rfl | rfl); (exact Int.le_refl _); (first | (exfalso; omega) | exact Int.not_lt.1 (of_decide_eq_false hd1))⟩, KeepF.auto, Sub.autoD⟩
      · refine dr_l (x_move rfl) ?_
        refine dr_sk ?_
        refine dr_sk ?_
        refine dr_sk ?_
        refine dr_sk ?_
        refine dr_sk ?_
        refine dr_sk ?_
        refine dr_sk ?_
        refine dr_sk ?_
        refine dr_sk ?_
        refine dr_sk ?_
        refine dr_sk ?_
        refine dr_sk ?_
        refine dr_sk ?_
        refine dr_sk ?_
        refine dr_l (x_pick_f rfl rfl rfl) ?_
        refine dr_nil0 ?_
        refine aw_kp [0, 2, 3, 8, 9, 11, 12, 13, 14, 15, 16, 17, 18, 19, 20, 21, 22, 23, 24, 25, 26, 27, 28, 29, 30, 31, 32, 33, 34, 35, 36] ?_
        refine aw_false rfl ?_
        refine aw_skip ?_
        show ∃ s', _ ∧ _ ∧ _
        first | exact ⟨2 * r + 1 + 1, ⟨by omega, by omega, fun d q1 q2 => by (rcases q1 with rfl | rfl); (exact Int.le_of_lt (of_decide_eq_true hd1)); (exact Int.le_refl _)⟩, KeepF.auto, Sub.autoD⟩ | exact ⟨2 * r + 1, ⟨.inl rfl, by omega, fun d q1 q2 => by (rcases q1 with rfl | rfl); (exact Int.le_refl _); (first | (exfalso; omega) | exact Int.not_lt.1 (of_decide_eq_false hd1))⟩, KeepF.auto, Sub.autoD⟩
    · intro c hc9
      obtain ⟨hc1, hc2, hbig⟩ := hc9
      refine aw_seq ?_
      refine aw_seq_dr ⟨_, 14, 76, [[], [], [], [1, 2], [0, 1, 2, 3], [0, 1, 2, 3, 4], [], [], [], [7, 8], [6, 7, 8, 9], [6, 7, 8, 9, 10], [0, 1, 2, 3, 4, 5, 6, 7, 8, 9, 10, 11], [0, 1, 2, 3, 4, 5, 6, 7, 8, 9, 10, 11, 12]], [.light, .light, .light, .light, .light, .mem, .light, .light, .light, .light, .light, .mem, .call, .light]⟩ (by kernel_rfl) rfl rfl mix ?_
      refine dr_l (x_move rfl) ?_
      refine dr_l (x_move rfl) ?_
      refine dr_l (x_move rfl) ?_
      refine dr_l (x_cast (u := .int .i64 ((f + r : Nat) : Int)) (x_add' rfl rfl (i64w (by omega) (by omega))) (by congr 1)) ?_
      refine dr_l (x_indexAddrN (f + r) Try.underlying134 sz3 rfl rfl rfl (by omega) (by omega)) ?_
      refine dr_mem0 rfl rfl (wtd_none rfl) (x_load ag3 rfl (cells_get (cells_flat0 (n := 1) (enc := intC) (fun _ => rfl) (xs := cur) (i := (f + r)) (post := post) (show (b, Obj.cells ((cur).flatMap intC ++ post).toArray 3 (0, 0)) ∈ _ from mauto) (gd_some (by omega))) 0 rfl)) ?_
      refine dr_l (x_move rfl) ?_
      refine dr_l (x_move rfl) ?_
      refine dr_l (x_move rfl) ?_
      refine dr_l (x_cast (u := .int .i64 ((f + c : Nat) : Int)) (x_add' rfl rfl (i64w (by omega) (by omega))) (by congr 1)) ?_
      refine dr_l (x_indexAddrN (f + c) Try.underlying134 sz3 rfl rfl rfl (by omega) (by omega)) ?_
      refine dr_mem0 rfl rfl (wtd_none rfl) (x_load ag3 rfl (cells_get (cells_flat0 (n := 1) (enc := intC) (fun _ => rfl) (xs := cur) (i := (f + c)) (post := post) (show (b, Obj.cells ((cur).flatMap intC ++ post).toArray 3 (0, 0)) ∈ _ from mauto) (gd_some (by omega))) 0 rfl)) ?_
      refine dr_callq0 rfl rfl (wtd_none rfl) (opS_F rfl rfl rfl rfl cl162 ((mLess_s (gd cur (f + r)) (gd cur (f + c)) _))) (⟨_, rfl⟩) ?_
      rintro _ rfl
      generalize hd2 : decide (gd cur (f + r) < gd cur (f + c)) = d2
      cases d2
      · refine dr_l (x_not rfl) ?_
        refine dr_nil0 ?_
        refine aw_kp [0, 2, 3, 8, 9, 39, 40, 41, 42, 43, 44, 45, 46, 47, 48, 49, 50, 51, 52] ?_
        refine aw_true rfl ?_
        refine aw_ret ?_
        show ∃ v H2, ResV _ _ _ _ _ _ v ∧ Sub H2 _ ∧ _
        exact ⟨_, _, resV rfl .nil, Sub.refl _, cur, ⟨hpq, hx.done (fun d q1 q2 => by first | (exfalso; omega) | (have q3 := hbig d q1 q2; have q4 := of_decide_eq_false hd2; omega))⟩, rfl, rfl⟩
      · refine dr_l (x_not rfl) ?_
        refine dr_nil0 ?_
        refine aw_kp [0, 2, 3, 8, 9, 39, 40, 41, 42, 43, 44, 45, 46, 47, 48, 49, 50, 51, 52] ?_
        refine aw_false rfl ?_
        refine aw_skip ?_
        show AW _ _ _ _ _ _ _
        refine aw_seq_dr ⟨_, 24, 76, [[], [], [], [1, 2], [], [], [], [5, 6], [], [], [], [9, 10], [8, 9, 10, 11], [8, 9, 10, 11, 12], [], [], [], [15, 16], [14, 15, 16, 17], [14, 15, 16, 17, 18], [0, 1, 2, 3, 8, 9, 10, 11, 12, 13, 14, 15, 16, 17, 18, 19], [0, 1, 2, 3, 8, 9, 10, 11, 12, 13, 14, 15, 16, 17, 18, 19, 20], [0, 1, 2, 3, 4, 5, 6, 7, 8, 9, 10, 11, 12, 13, 14, 15, 16, 17, 18, 19, 20, 21], [0, 1, 2, 3, 4, 5, 6, 7, 8, 9, 10, 11, 12, 13, 14, 15, 16, 17, 18, 19, 20, 21, 22]], [.light, .light, .light, .light, .light, .light, .light, .light, .light, .light, .light, .light, .light, .mem, .light, .light, .light, .light, .light, .mem, .light, .eff, .light, .eff]⟩ (by kernel_rfl) rfl rfl mix ?_
        refine dr_l (x_move rfl) ?_
        refine dr_l (x_move rfl) ?_
        refine dr_l (x_move rfl) ?_
        refine dr_l (x_cast (u := .int .i64 ((f + r : Nat) : Int)) (x_add' rfl rfl (i64w (by omega) (by omega))) (by congr 1)) ?_
        refine dr_l (x_move rfl) ?_
        refine dr_l (x_move rfl) ?_
        refine dr_l (x_move rfl) ?_
        refine dr_l (x_cast (u := .int .i64 ((f + c : Nat) : Int)) (x_add' rfl rfl (i64w (by omega) (by omega))) (by congr 1)) ?_
        refine dr_l (x_move rfl) ?_
        refine dr_l (x_move rfl) ?_
        refine dr_l (x_move rfl) ?_
        refine dr_l (x_cast (u := .int .i64 ((f + c : Nat) : Int)) (x_add' rfl rfl (i64w (by omega) (by omega))) (by congr 1)) ?_
        refine dr_l (x_indexAddrN (f + c) Try.underlying134 sz3 rfl rfl rfl (by omega) (by omega)) ?_
        refine dr_mem0 rfl rfl (wtd_none rfl) (x_load ag3 rfl (cells_get (cells_flat0 (n := 1) (enc := intC) (fun _ => rfl) (xs := cur) (i := (f + c)) (post := post) (show (b, Obj.cells ((cur).flatMap intC ++ post).toArray 3 (0, 0)) ∈ _ from mauto) (gd_some (by omega))) 0 rfl)) ?_
        refine dr_l (x_move rfl) ?_
        refine dr_l (x_move rfl) ?_
        refine dr_l (x_move rfl) ?_
        refine dr_l (x_cast (u := .int .i64 ((f + r : Nat) : Int)) (x_add' rfl rfl (i64w (by omega) (by omega))) (by congr 1)) ?_
        refine dr_l (x_indexAddrN (f + r) Try.underlying134 sz3 rfl rfl rfl (by omega) (by omega)) ?_
        refine dr_mem0 rfl rfl (wtd_none rfl) (x_load ag3 rfl (cells_get (cells_flat0 (n := 1) (enc := intC) (fun _ => rfl) (xs := cur) (i := (f + r)) (post := post) (show (b, Obj.cells ((cur).flatMap intC ++ post).toArray 3 (0, 0)) ∈ _ from mauto) (gd_some (by omega))) 0 rfl)) ?_
        refine dr_l (x_indexAddrN (f + r) Try.underlying134 sz3 rfl rfl rfl (by omega) (by omega)) ?_
        refine dr_store0 rfl rfl (wtd_none rfl) (x_store sz3 rfl rfl rfl rfl rfl Repl.auto (spl_flat0 (n := 1) (enc := intC) (fun _ => rfl) (xs := cur) (post := post) (i := (f + r)) (x' := gd cur (f + c)) (by first | omega | (rw [List.length_set]; omega)))) (by first | rfl | simp [keys_append, keys_cons]) ?_
        refine dr_l (x_indexAddrN (f + c) Try.underlying134 sz3 rfl rfl rfl (by omega) (by omega)) ?_
        refine dr_store0 rfl rfl (wtd_none rfl) (x_store sz3 rfl rfl rfl rfl rfl Repl.auto (spl_flat0 (n := 1) (enc := intC) (fun _ => rfl) (xs := ((cur).set (f + r) (gd cur (f + c)))) (post := post) (i := (f + c)) (x' := gd cur (f + r)) (by first | omega | (rw [List.length_set]; omega)))) (by first | rfl | simp [keys_append, keys_cons]) ?_
        refine dr_nil0 ?_
        refine aw_kp [0, 2, 3, 8, 9, 39, 40, 41, 42, 43, 44, 45, 46, 47, 48, 49, 50, 51, 52, 53, 54, 55, 56, 57, 58, 59, 60, 61, 62, 63, 64, 65, 66, 67, 68, 69, 70, 71, 72, 73, 74] ?_
        refine aw_region ?_
        refine sr_mv ?_
        refine sr_as ?_
        refine sr_nil ?_
        show ∃ s', _ ∧ _ ∧ _ ∧ _
        exact ⟨⟨c, sw cur (f + r) (f + c)⟩, ⟨by dsimp only; omega, .inl (by dsimp only; omega), sw_len.trans hcl, hpq.trans (Pq.sw (by omega) (by omega) (by omega)), hx.step (by omega) hr1 hc1 hc2 hbig (of_decide_eq_true hd2)⟩, by dsimp only; omega, KeepF.auto, Sub.autoP⟩
set_option maxRecDepth 100000 in
set_option maxHeartbeats 2000000 in
theorem mHeap_s (b cap n : Nat) (W : List Int) (post : List Value) (G : SHeap) (hl : W.length = n) (hn : n ≤ 100000) (hcap : n ≤ cap) (hcb : cap ≤ 9223372036854775807) (a e : Nat) (h1 : a < e) (h2 : e ≤ n) : AC Try.prog W0 157 [.slice (some ⟨b, 0, none⟩) n cap, .int .i64 a, .int .i64 e] ((b, .cells ((W).flatMap intC ++ post).toArray 3 (0, 0)) :: G) (fun v H' => ∃ W', (Pq W a e W' ∧ SrI W' a e) ∧ v = .tuple #[] ∧ H' = (b, .cells ((W').flatMap intC ++ post).toArray 3 (0, 0)) :: G) := by
  refine ac_of Try.func157 rfl rfl rfl ?_
  refine aw_seq_region ?_
  refine sr_mv ?_
  refine sr_as ?_
  refine sr_nil ?_
  refine aw_kp [0, 1, 2, 6] ?_
  refine aw_seq_region ?_
  refine sr_as ?_
  refine sr_nil ?_
  refine aw_kp [0, 1, 2, 6, 7] ?_
  refine aw_seq_region ?_
  refine sr_mv ?_
  refine sr_mv ?_
  refine sr_rd (x_cast (u := .int .i64 ((e - a : Nat) : Int)) (x_sub' rfl rfl (i64w (by omega) (by omega))) (by congr 1; omega)) ?_
  refine sr_as ?_
  refine sr_nil ?_
  refine aw_kp [0, 6, 7, 8] ?_
  refine aw_seq ?_
  refine aw_seq_region ?_
  refine sr_mv ?_
  refine sr_rd (x_cast (u := .int .i64 ((e - a - 1 : Nat) : Int)) (x_sub' rfl rfl (i64w (by omega) (by omega))) (by congr 1; omega)) ?_
  refine sr_rd (x_cast (u := .int .i64 (((((e - a - 1) / 2 + 1 : Nat)) : Int) - 1)) (x_quo' (c := (((e - a - 1) / 2 : Nat) : Int)) rfl rfl (by decide) (by rw [half_t]; exact i64w (by omega) (by omega))) (by congr 1; omega)) ?_
  refine sr_as ?_
  refine sr_nil ?_
  refine aw_kp [0, 6, 7, 8, 9] ?_
  refine aw_block ?_
  refine aw_loop (ι := Pd1) (fun s => s.k ≤ (e - a - 1) / 2 + 1 ∧ s.W.length = n ∧ Pq W a e s.W ∧ Hp s.W a s.k (e - a)) (fun s => [(0, .slice (some ⟨b, 0, none⟩) n cap), (6, .int .i64 a), (7, .int .i64 0), (8, .int .i64 ((e - a : Nat) : Int)), (9, .int .i64 ((s.k : Int) - 1))]) (fun s => (b, .cells ((s.W).flatMap intC ++ post).toArray 3 (0, 0)) :: G) (fun s => s.k) ⟨(e - a - 1) / 2 + 1, W⟩ (⟨Nat.le_refl _, hl, Pq.refl _ _ _, fun i c q1 q2 q3 => by dsimp only at q1; omega⟩) KeepF.auto Sub.autoP ?_
  intro s hs9
  obtain ⟨k, cur⟩ := s
  dsimp only at hs9 ⊢
  obtain ⟨hk, hcl, hpq, hx⟩ := hs9
  refine aw_seq ?_
  refine aw_seq_region ?_
  refine sr_mv ?_
  refine sr_c (x_ge rfl rfl) (fun h1 => ?_) (fun h1 => ?_)
  · refine sr_nil ?_
    refine aw_kp [0, 6, 7, 8, 9, 18, 19] ?_
    refine aw_true rfl ?_
    refine aw_skip ?_
    show AW _ _ _ _ _ _ _
    refine aw_seq ?_
    refine aw_block ?_
    refine aw_region ?_
    obtain ⟨m, rfl⟩ : ∃ m, k = m + 1 := ⟨k - 1, by omega⟩
    rw [show ((m + 1 : Nat) : Int) - 1 = (m : Int) by omega]
    refine sr_mv ?_
    refine sr_mv ?_
    refine sr_mv ?_
    refine sr_mv ?_
    refine sr_d rfl (wtd_none rfl) rfl (opS_call rfl rfl rfl rfl cl174 (AC.sub Sub.autoP (mSift_s b cap n cur post G (by first | omega | (rw [sw_len]; omega)) hn hcap hcb m (e - a) a (by omega) (by omega) hx))) ?_
    rintro _ _ ⟨W9, ⟨hpq9, hp9⟩, rfl, rfl⟩
    refine sr_nil ?_
    show AW _ _ _ _ _ _ _
    refine aw_region ?_
    refine sr_mv ?_
    refine sr_rd (x_cast (u := .int .i64 ((m : Int) - 1)) (x_sub' rfl rfl (i64w (by omega) (by omega))) (by congr 1)) ?_
    refine sr_as ?_
    refine sr_nil ?_
    show ∃ s', _ ∧ _ ∧ _ ∧ _
    exact ⟨⟨m, W9⟩, ⟨by dsimp only; omega, hpq9.2.1.trans hcl, hpq.trans (hpq9.wide (Nat.le_refl _) (by omega)), hp9⟩, by dsimp only; omega, KeepF.auto, Sub.autoP⟩
  · refine sr_nil ?_
    refine aw_kp [0, 6, 7, 8, 9, 18, 19] ?_
    refine aw_false rfl ?_
    refine aw_exit ?_
    show AW _ _ _ _ _ _ _
    refine aw_seq_region ?_
    refine sr_mv ?_
    refine sr_rd (x_cast (u := .int .i64 (((e - a : Nat) : Int) - 1)) (x_sub' rfl rfl (i64w (by omega) (by omega))) (by congr 1)) ?_
    refine sr_as ?_
    refine sr_nil ?_
    refine aw_kp [0, 6, 7, 10] ?_
    refine aw_block ?_
    refine aw_loop (ι := Pd1) (fun s => s.k ≤ e - a ∧ s.W.length = n ∧ Hs W s.W a (e - a) s.k) (fun s => [(0, .slice (some ⟨b, 0, none⟩) n cap), (6, .int .i64 a), (7, .int .i64 0), (10, .int .i64 ((s.k : Int) - 1))]) (fun s => (b, .cells ((s.W).flatMap intC ++ post).toArray 3 (0, 0)) :: G) (fun s => s.k) ⟨e - a, cur⟩ (⟨Nat.le_refl _, hcl, Hs.start (hpq.wide (Nat.le_refl _) (by omega)) (by (obtain rfl : k = 0 := (by omega)); exact hx)⟩) KeepF.auto Sub.autoP ?_
    intro s hs8
    obtain ⟨k, cur⟩ := s
    dsimp only at hs8 ⊢
    obtain ⟨hk, hcl, hhs⟩ := hs8
    refine aw_seq ?_
    refine aw_seq_region ?_
    refine sr_mv ?_
    refine sr_c (x_ge rfl rfl) (fun h2 => ?_) (fun h2 => ?_)
    · refine sr_nil ?_
      refine aw_kp [0, 6, 7, 10, 29, 30] ?_
      refine aw_true rfl ?_
      refine aw_skip ?_
      show AW _ _ _ _ _ _ _
      refine aw_seq ?_
      refine aw_block ?_
      refine aw_seq_dr ⟨_, 20, 56, [[], [], [], [], [], [3, 4], [], [], [], [7, 8], [6, 7, 8, 9], [6, 7, 8, 9, 10], [], [], [12, 13], [12, 13, 14], [0, 1, 6, 7, 8, 9, 10, 11, 12, 13, 14, 15], [0, 1, 6, 7, 8, 9, 10, 11, 12, 13, 14, 15, 16], [0, 1, 2, 3, 4, 5, 6, 7, 8, 9, 10, 11, 12, 13, 14, 15, 16, 17], [0, 1, 2, 3, 4, 5, 6, 7, 8, 9, 10, 11, 12, 13, 14, 15, 16, 17, 18]], [.light, .light, .light, .light, .light, .light, .light, .light, .light, .light, .light, .mem, .light, .light, .light, .mem, .light, .eff, .light, .eff]⟩ (by kernel_rfl) rfl rfl mix ?_
      obtain ⟨m, rfl⟩ : ∃ m, k = m + 1 := ⟨k - 1, by omega⟩
      rw [show ((m + 1 : Nat) : Int) - 1 = (m : Int) by omega]
      refine dr_l (x_move rfl) ?_
      refine dr_l (x_move rfl) ?_
      refine dr_l (x_move rfl) ?_
      refine dr_l (x_move rfl) ?_
      refine dr_l (x_move rfl) ?_
      refine dr_l (x_cast (u := .int .i64 ((a + m : Nat) : Int)) (x_add' rfl rfl (i64w (by omega) (by omega))) (by congr 1)) ?_
      refine dr_l (x_move rfl) ?_
      refine dr_l (x_move rfl) ?_
      refine dr_l (x_move rfl) ?_
      refine dr_l (x_cast (u := .int .i64 ((a + m : Nat) : Int)) (x_add' rfl rfl (i64w (by omega) (by omega))) (by congr 1)) ?_
      refine dr_l (x_indexAddrN (a + m) Try.underlying134 sz3 rfl rfl rfl (by omega) (by omega)) ?_
      refine dr_mem0 rfl rfl (wtd_none rfl) (x_load ag3 rfl (cells_get (cells_flat0 (n := 1) (enc := intC) (fun _ => rfl) (xs := cur) (i := (a + m)) (post := post) (show (b, Obj.cells ((cur).flatMap intC ++ post).toArray 3 (0, 0)) ∈ _ from mauto) (gd_some (by omega))) 0 rfl)) ?_
      refine dr_l (x_move rfl) ?_
      refine dr_l (x_move rfl) ?_
      refine dr_l (x_indexAddrN (a) Try.underlying134 sz3 rfl rfl rfl (by omega) (by omega)) ?_
      refine dr_mem0 rfl rfl (wtd_none rfl) (x_load ag3 rfl (cells_get (cells_flat0 (n := 1) (enc := intC) (fun _ => rfl) (xs := cur) (i := a) (post := post) (show (b, Obj.cells ((cur).flatMap intC ++ post).toArray 3 (0, 0)) ∈ _ from mauto) (gd_some (by omega))) 0 rfl)) ?_
      refine dr_l (x_indexAddrN (a) Try.underlying134 sz3 rfl rfl rfl (by omega) (by omega)) ?_
      refine dr_store0 rfl rfl (wtd_none rfl) (x_store sz3 rfl rfl rfl rfl rfl Repl.auto (spl_flat0 (n := 1) (enc := intC) (fun _ => rfl) (xs := cur) (post := post) (i := (a)) (x' := gd cur (a + m)) (by first | omega | (rw [List.length_set]; omega)))) (by first | rfl | simp [keys_append, keys_cons]) ?_
      refine dr_l (x_indexAddrN (a + m) Try.underlying134 sz3 rfl rfl rfl (by omega) (by omega)) ?_
      refine dr_store0 rfl rfl (wtd_none rfl) (x_store sz3 rfl rfl rfl rfl rfl Repl.auto (spl_flat0 (n := 1) (enc := intC) (fun _ => rfl) (xs := ((cur).set (a) (gd cur (a + m)))) (post := post) (i := (a + m)) (x' := gd cur (a)) (by first | omega | (rw [List.length_set]; omega)))) (by first | rfl | simp [keys_append, keys_cons]) ?_
      refine dr_nil0 ?_
      refine aw_kp [0, 6, 7, 10, 29, 30, 33, 34, 35, 36, 37, 38, 39, 40, 41, 42, 43, 44, 45, 46, 47, 48, 49, 50] ?_
      refine aw_region ?_
      refine sr_mv ?_
      refine sr_mv ?_
      refine sr_mv ?_
      refine sr_mv ?_
      refine sr_d rfl (wtd_none rfl) rfl (opS_call rfl rfl rfl rfl cl174 (AC.sub Sub.autoP (mSift_s b cap n (sw cur a (a + m)) post G (by first | omega | (rw [sw_len]; omega)) hn hcap hcb 0 m a (by omega) (by omega) (hhs.pre (by omega) (by omega))))) ?_
      rintro _ _ ⟨W9, ⟨hpq9, hp9⟩, rfl, rfl⟩
      refine sr_nil ?_
      show AW _ _ _ _ _ _ _
      refine aw_region ?_
      refine sr_mv ?_
      refine sr_rd (x_cast (u := .int .i64 ((m : Int) - 1)) (x_sub' rfl rfl (i64w (by omega) (by omega))) (by congr 1)) ?_
      refine sr_as ?_
      refine sr_nil ?_
      show ∃ s', _ ∧ _ ∧ _ ∧ _
      exact ⟨⟨m, W9⟩, ⟨by dsimp only; omega, hpq9.2.1.trans (sw_len.trans hcl), hhs.step (by omega) (by omega) hpq9 hp9⟩, by dsimp only; omega, KeepF.auto, Sub.autoP⟩
    · refine sr_nil ?_
      refine aw_kp [0, 6, 7, 10, 29, 30] ?_
      refine aw_false rfl ?_
      refine aw_exit ?_
      show ∃ v H2, ResV _ _ _ _ _ _ v ∧ Sub H2 _ ∧ _
      (obtain rfl : k = 0 := (by omega)); exact ⟨_, _, resV rfl .nil, Sub.refl _, cur, hhs.fin (by omega), rfl, rfl⟩
set_option maxRecDepth 100000 in
set_option maxHeartbeats 2000000 in
theorem mPeq_s (b cap n : Nat) (W : List Int) (post : List Value) (G : SHeap) (hl : W.length = n) (hn : n ≤ 100000) (hcap : n ≤ cap) (hcb : cap ≤ 9223372036854775807) (a e q : Nat) (h1 : a ≤ q) (h2 : q < e) (h3 : e ≤ n) : AC Try.prog W0 163 [.slice (some ⟨b, 0, none⟩) n cap, .int .i64 a, .int .i64 e, .int .i64 q] ((b, .cells ((W).flatMap intC ++ post).toArray 3 (0, 0)) :: G) (fun v H' => ∃ W' m, a < m ∧ m ≤ e ∧ Pq W a e W' ∧ Al W' a m (fun x => x ≤ gd W q) ∧ Al W' m e (fun x => gd W q < x) ∧ v = .int .i64 (m : Nat) ∧ H' = (b, .cells ((W').flatMap intC ++ post).toArray 3 (0, 0)) :: G) := by
  refine ac_of Try.func163 rfl rfl rfl ?_
  refine aw_seq_region ?_
  refine sr_as ?_
  refine sr_nil ?_
  refine aw_kp [0, 1, 2, 3, 8] ?_
  refine aw_seq_dr ⟨_, 16, 84, [[], [], [], [], [], [], [4, 5], [4, 5, 6], [], [], [8, 9], [8, 9, 10], [0, 1, 4, 5, 6, 7, 8, 9, 10, 11], [0, 1, 4, 5, 6, 7, 8, 9, 10, 11, 12], [0, 1, 2, 3, 4, 5, 6, 7, 8, 9, 10, 11, 12, 13], [0, 1, 2, 3, 4, 5, 6, 7, 8, 9, 10, 11, 12, 13, 14]], [.light, .light, .light, .light, .light, .light, .light, .mem, .light, .light, .light, .mem, .light, .eff, .light, .eff]⟩ (by kernel_rfl) rfl rfl mix ?_
  refine dr_l (x_move rfl) ?_
  refine dr_l (x_move rfl) ?_
  refine dr_l (x_move rfl) ?_
  refine dr_l (x_move rfl) ?_
  refine dr_l (x_move rfl) ?_
  refine dr_l (x_move rfl) ?_
  refine dr_l (x_indexAddrN (q) Try.underlying134 sz3 rfl rfl rfl (by omega) (by omega)) ?_
  refine dr_mem0 rfl rfl (wtd_none rfl) (x_load ag3 rfl (cells_get (cells_flat0 (n := 1) (enc := intC) (fun _ => rfl) (xs := W) (i := q) (post := post) (show (b, Obj.cells ((W).flatMap intC ++ post).toArray 3 (0, 0)) ∈ _ from mauto) (gd_some (by omega))) 0 rfl)) ?_
  refine dr_l (x_move rfl) ?_
  refine dr_l (x_move rfl) ?_
  refine dr_l (x_indexAddrN (a) Try.underlying134 sz3 rfl rfl rfl (by omega) (by omega)) ?_
  refine dr_mem0 rfl rfl (wtd_none rfl) (x_load ag3 rfl (cells_get (cells_flat0 (n := 1) (enc := intC) (fun _ => rfl) (xs := W) (i := a) (post := post) (show (b, Obj.cells ((W).flatMap intC ++ post).toArray 3 (0, 0)) ∈ _ from mauto) (gd_some (by omega))) 0 rfl)) ?_
  refine dr_l (x_indexAddrN (a) Try.underlying134 sz3 rfl rfl rfl (by omega) (by omega)) ?_
  refine dr_store0 rfl rfl (wtd_none rfl) (x_store sz3 rfl rfl rfl rfl rfl Repl.auto (spl_flat0 (n := 1) (enc := intC) (fun _ => rfl) (xs := W) (post := post) (i := (a)) (x' := gd W (q)) (by first | omega | (rw [List.length_set]; omega)))) (by first | rfl | simp [keys_append, keys_cons]) ?_
  refine dr_l (x_indexAddrN (q) Try.underlying134 sz3 rfl rfl rfl (by omega) (by omega)) ?_
  refine dr_store0 rfl rfl (wtd_none rfl) (x_store sz3 rfl rfl rfl rfl rfl Repl.auto (spl_flat0 (n := 1) (enc := intC) (fun _ => rfl) (xs := ((W).set (a) (gd W (q)))) (post := post) (i := (q)) (x' := gd W (a)) (by first | omega | (rw [List.length_set]; omega)))) (by first | rfl | simp [keys_append, keys_cons]) ?_
  refine dr_nil0 ?_
  refine aw_kp [0, 1, 2, 8] ?_
  refine aw_seq_region ?_
  refine sr_mv ?_
  refine sr_rd (x_cast (u := .int .i64 ((a + 1 : Nat) : Int)) (x_add' rfl rfl (i64w (by omega) (by omega))) (by congr 1)) ?_
  refine sr_mv ?_
  refine sr_rd (x_cast (u := .int .i64 ((e - 1 : Nat) : Int)) (x_sub' rfl rfl (i64w (by omega) (by omega))) (by congr 1; omega)) ?_
  refine sr_as ?_
  refine sr_as ?_
  refine sr_nil ?_
  refine aw_kp [0, 1, 8, 9, 10] ?_
  refine aw_seq ?_
  refine aw_block ?_
  refine aw_loop (ι := Pd2) (fun s => a + 1 ≤ s.i ∧ s.i ≤ s.j + 1 ∧ s.j + 1 ≤ e ∧ s.W.length = n ∧ Pq W a e s.W ∧ gd s.W a = gd W q ∧ Al s.W a s.i (fun x => x ≤ gd W q) ∧ Al s.W (s.j + 1) e (fun x => gd W q < x)) (fun s => [(0, .slice (some ⟨b, 0, none⟩) n cap), (1, .int .i64 a), (9, .int .i64 s.i), (10, .int .i64 s.j)]) (fun s => (b, .cells ((s.W).flatMap intC ++ post).toArray 3 (0, 0)) :: G) (fun s => s.j + 1 - s.i) ⟨a + 1, e - 1, sw W a q⟩ (⟨Nat.le_refl _, by dsimp only; omega, by dsimp only; omega, sw_len.trans hl, Pq.sw (by omega) (by omega) (by omega), gd_swl (by omega) (by omega), fun k q1 q2 => by (dsimp only at q2); (obtain rfl : k = a := (by omega)); exact Int.le_of_eq (gd_swl (by omega) (by omega)), Al.zero (by dsimp only; omega)⟩) KeepF.auto Sub.autoP ?_
  intro s hs9
  obtain ⟨i, j, cur⟩ := s
  dsimp only at hs9 ⊢
  obtain ⟨hi1, hij, hj1, hcl, hpq, hpa, hA, hB⟩ := hs9
  refine aw_block ?_
  refine aw_seq ?_
  refine aw_block ?_
  refine aw_loop (ι := Nat) (fun k => i ≤ k ∧ k ≤ j + 1 ∧ Al cur a k (fun x => x ≤ gd W q)) (fun k => [(0, .slice (some ⟨b, 0, none⟩) n cap), (1, .int .i64 a), (9, .int .i64 k), (10, .int .i64 j)]) (fun _ => (b, .cells ((cur).flatMap intC ++ post).toArray 3 (0, 0)) :: G) (fun k => j + 1 - k) i (⟨Nat.le_refl _, hij, hA⟩) KeepF.auto Sub.autoP ?_
  intro i2 hi9
  obtain ⟨hi2, hi3, hA2⟩ := hi9
  refine aw_seq ?_
  refine aw_seq_dr ⟨_, 15, 84, [[], [], [0, 1], [0, 1, 2], [0, 1, 2, 3], [0, 1, 2, 3], [0, 1, 2, 3, 4, 5], [0, 1, 2, 3, 4, 5, 6], [0, 1, 2, 3], [0, 1, 2, 3], [0, 1, 2, 3, 8, 9], [0, 1, 2, 3, 8, 9, 10], [0, 1, 2, 3, 4, 5, 6, 7, 8, 9, 10, 11], [0, 1, 2, 3, 4, 5, 6, 7, 8, 9, 10, 11, 12], [0, 1, 2, 3, 4, 5, 6, 7, 8, 9, 10, 11, 12, 13]], [.light, .light, .light, .light, .light, .light, .light, .mem, .light, .light, .light, .mem, .call, .light, .light]⟩ (by kernel_rfl) rfl rfl mix ?_
  refine dr_l (x_move rfl) ?_
  refine dr_l (x_move rfl) ?_
  refine dr_cmp rfl rfl (wtd_none rfl) (x_le rfl rfl) (fun h1 => ?_) (fun h1 => ?_)
  · refine dr_l (x_move rfl) ?_
    refine dr_y (x_move rfl) ?_
    refine dr_y (x_move rfl) ?_
    refine dr_y (x_indexAddrN (a) Try.underlying134 sz3 rfl rfl rfl (by omega) (by omega)) ?_
    refine dr_mem0 rfl rfl (wtd_yes rfl rfl rfl) (x_load ag3 rfl (cells_get (cells_flat0 (n := 1) (enc := intC) (fun _ => rfl) (xs := cur) (i := a) (post := post) (show (b, Obj.cells ((cur).flatMap intC ++ post).toArray 3 (0, 0)) ∈ _ from mauto) (gd_some (by omega))) 0 rfl)) ?_
    refine dr_y (x_move rfl) ?_
    refine dr_y (x_move rfl) ?_
    refine dr_y (x_indexAddrN (i2) Try.underlying134 sz3 rfl rfl rfl (by omega) (by omega)) ?_
    refine dr_mem0 rfl rfl (wtd_yes rfl rfl rfl) (x_load ag3 rfl (cells_get (cells_flat0 (n := 1) (enc := intC) (fun _ => rfl) (xs := cur) (i := i2) (post := post) (show (b, Obj.cells ((cur).flatMap intC ++ post).toArray 3 (0, 0)) ∈ _ from mauto) (gd_some (by omega))) 0 rfl)) ?_
    refine dr_callq0 rfl rfl (wtd_yes rfl rfl rfl) (opS_F rfl rfl rfl rfl cl162 ((mLess_s (gd cur a) (gd cur i2) _))) (⟨_, rfl⟩) ?_
    rintro _ rfl
    generalize hd1 : decide (gd cur a < gd cur i2) = d1
    cases d1
    · refine dr_y (x_not rfl) ?_
      refine dr_l (x_pick_t rfl rfl rfl) ?_
      refine dr_nil0 ?_
      refine aw_kp [0, 1, 9, 10, 29, 30, 31, 32, 33, 34, 35, 36, 37, 38, 39, 40, 41, 42, 43] ?_
      refine aw_true rfl ?_
      refine aw_skip ?_
      show AW _ _ _ _ _ _ _
      refine aw_block ?_
      refine aw_region ?_
      refine sr_mv ?_
      refine sr_rd (x_cast (u := .int .i64 ((i2 + 1 : Nat) : Int)) (x_add' rfl rfl (i64w (by omega) (by omega))) (by congr 1)) ?_
      refine sr_as ?_
      refine sr_nil ?_
      show ∃ s', _ ∧ _ ∧ _ ∧ _
      exact ⟨i2 + 1, ⟨by omega, by omega, hA2.up (by (have q9 := of_decide_eq_false hd1); (rw [hpa] at q9); exact Int.not_lt.1 q9)⟩, by omega, KeepF.auto, Sub.autoP⟩
    · refine dr_y (x_not rfl) ?_
      refine dr_l (x_pick_t rfl rfl rfl) ?_
      refine dr_nil0 ?_
      refine aw_kp [0, 1, 9, 10, 29, 30, 31, 32, 33, 34, 35, 36, 37, 38, 39, 40, 41, 42, 43] ?_
      refine aw_false rfl ?_
      refine aw_exit ?_
      show AW _ _ _ _ _ _ _
      refine aw_seq ?_
      refine aw_block ?_
      refine aw_loop (ι := Nat) (fun k => k ≤ j ∧ i2 ≤ k + 1 ∧ Al cur (k + 1) e (fun x => gd W q < x)) (fun k => [(0, .slice (some ⟨b, 0, none⟩) n cap), (1, .int .i64 a), (9, .int .i64 i2), (10, .int .i64 k)]) (fun _ => (b, .cells ((cur).flatMap intC ++ post).toArray 3 (0, 0)) :: G) (fun k => k) j (⟨Nat.le_refl _, hi3, hB⟩) KeepF.auto Sub.autoP ?_
      intro j2 hj9
      obtain ⟨hj2, hj3, hB2⟩ := hj9
      refine aw_seq ?_
      refine aw_seq_dr ⟨_, 14, 84, [[], [], [0, 1], [0, 1, 2], [0, 1, 2, 3], [0, 1, 2, 3], [0, 1, 2, 3, 4, 5], [0, 1, 2, 3, 4, 5, 6], [0, 1, 2, 3], [0, 1, 2, 3], [0, 1, 2, 3, 8, 9], [0, 1, 2, 3, 8, 9, 10], [0, 1, 2, 3, 4, 5, 6, 7, 8, 9, 10, 11], [0, 1, 2, 3, 4, 5, 6, 7, 8, 9, 10, 11, 12]], [.light, .light, .light, .light, .light, .light, .light, .mem, .light, .light, .light, .mem, .call, .light]⟩ (by kernel_rfl) rfl rfl mix ?_
      refine dr_l (x_move rfl) ?_
      refine dr_l (x_move rfl) ?_
      refine dr_cmp rfl rfl (wtd_none rfl) (x_le rfl rfl) (fun h2 => ?_) (fun h2 => ?_)
      · refine dr_l (x_move rfl) ?_
        refine dr_y (x_move rfl) ?_
        refine dr_y (x_move rfl) ?_
        refine dr_y (x_indexAddrN (a) Try.underlying134 sz3 rfl rfl rfl (by omega) (by omega)) ?_
        refine dr_mem0 rfl rfl (wtd_yes rfl rfl rfl) (x_load ag3 rfl (cells_get (cells_flat0 (n := 1) (enc := intC) (fun _ => rfl) (xs := cur) (i := a) (post := post) (show (b, Obj.cells ((cur).flatMap intC ++ post).toArray 3 (0, 0)) ∈ _ from mauto) (gd_some (by omega))) 0 rfl)) ?_
        refine dr_y (x_move rfl) ?_
        refine dr_y (x_move rfl) ?_
        refine dr_y (x_indexAddrN (j2) Try.underlying134 sz3 rfl rfl rfl (by omega) (by omega)) ?_
        refine dr_mem0 rfl rfl (wtd_yes rfl rfl rfl) (x_load ag3 rfl (cells_get (cells_flat0 (n := 1) (enc := intC) (fun _ => rfl) (xs := cur) (i := j2) (post := post) (show (b, Obj.cells ((cur).flatMap intC ++ post).toArray 3 (0, 0)) ∈ _ from mauto) (gd_some (by omega))) 0 rfl)) ?_
        refine dr_callq0 rfl rfl (wtd_yes rfl rfl rfl) (opS_F rfl rfl rfl rfl cl162 ((mLess_s (gd cur a) (gd cur j2) _))) (⟨_, rfl⟩) ?_
        rintro _ rfl
        generalize hd2 : decide (gd cur a < gd cur j2) = d2
        cases d2
        · refine dr_l (x_pick_t rfl rfl rfl) ?_
          refine dr_nil0 ?_
          refine aw_kp [0, 1, 9, 10, 46, 47, 48, 49, 50, 51, 52, 53, 54, 55, 56, 57, 58, 59] ?_
          refine aw_false rfl ?_
          refine aw_exit ?_
          show AW _ _ _ _ _ _ _
          refine aw_seq ?_
          refine aw_seq_region ?_
          refine sr_mv ?_
          refine sr_mv ?_
          refine sr_c (x_gt rfl rfl) (fun h3 => absurd h3 (by first | omega | decide)) (fun h3 => ?_)
          refine sr_nil ?_
          refine aw_kp [0, 1, 9, 10, 46, 47, 48, 49, 50, 51, 52, 53, 54, 55, 56, 57, 58, 59, 62, 63, 64] ?_
          refine aw_false rfl ?_
          refine aw_skip ?_
          show AW _ _ _ _ _ _ _
          refine aw_seq_dr ⟨_, 16, 84, [[], [], [], [], [], [], [4, 5], [4, 5, 6], [], [], [8, 9], [8, 9, 10], [0, 1, 4, 5, 6, 7, 8, 9, 10, 11], [0, 1, 4, 5, 6, 7, 8, 9, 10, 11, 12], [0, 1, 2, 3, 4, 5, 6, 7, 8, 9, 10, 11, 12, 13], [0, 1, 2, 3, 4, 5, 6, 7, 8, 9, 10, 11, 12, 13, 14]], [.light, .light, .light, .light, .light, .light, .light, .mem, .light, .light, .light, .mem, .light, .eff, .light, .eff]⟩ (by kernel_rfl) rfl rfl mix ?_
          have hlt : i2 < j2 := by (rcases Nat.lt_or_ge i2 j2 with q9 | q9); (exact q9); (obtain rfl : i2 = j2 := (by omega)); (have q8 := of_decide_eq_true hd1); (have q7 := of_decide_eq_false hd2); omega
          refine dr_l (x_move rfl) ?_
          refine dr_l (x_move rfl) ?_
          refine dr_l (x_move rfl) ?_
          refine dr_l (x_move rfl) ?_
          refine dr_l (x_move rfl) ?_
          refine dr_l (x_move rfl) ?_
          refine dr_l (x_indexAddrN (j2) Try.underlying134 sz3 rfl rfl rfl (by omega) (by omega)) ?_
          refine dr_mem0 rfl rfl (wtd_none rfl) (x_load ag3 rfl (cells_get (cells_flat0 (n := 1) (enc := intC) (fun _ => rfl) (xs := cur) (i := j2) (post := post) (show (b, Obj.cells ((cur).flatMap intC ++ post).toArray 3 (0, 0)) ∈ _ from mauto) (gd_some (by omega))) 0 rfl)) ?_
          refine dr_l (x_move rfl) ?_
          refine dr_l (x_move rfl) ?_
          refine dr_l (x_indexAddrN (i2) Try.underlying134 sz3 rfl rfl rfl (by omega) (by omega)) ?_
          refine dr_mem0 rfl rfl (wtd_none rfl) (x_load ag3 rfl (cells_get (cells_flat0 (n := 1) (enc := intC) (fun _ => rfl) (xs := cur) (i := i2) (post := post) (show (b, Obj.cells ((cur).flatMap intC ++ post).toArray 3 (0, 0)) ∈ _ from mauto) (gd_some (by omega))) 0 rfl)) ?_
          refine dr_l (x_indexAddrN (i2) Try.underlying134 sz3 rfl rfl rfl (by omega) (by omega)) ?_
          refine dr_store0 rfl rfl (wtd_none rfl) (x_store sz3 rfl rfl rfl rfl rfl Repl.auto (spl_flat0 (n := 1) (enc := intC) (fun _ => rfl) (xs := cur) (post := post) (i := (i2)) (x' := gd cur (j2)) (by first | omega | (rw [List.length_set]; omega)))) (by first | rfl | simp [keys_append, keys_cons]) ?_
          refine dr_l (x_indexAddrN (j2) Try.underlying134 sz3 rfl rfl rfl (by omega) (by omega)) ?_
          refine dr_store0 rfl rfl (wtd_none rfl) (x_store sz3 rfl rfl rfl rfl rfl Repl.auto (spl_flat0 (n := 1) (enc := intC) (fun _ => rfl) (xs := ((cur).set (i2) (gd cur (j2)))) (post := post) (i := (j2)) (x' := gd cur (i2)) (by first | omega | (rw [List.length_set]; omega)))) (by first | rfl | simp [keys_append, keys_cons]) ?_
          refine dr_nil0 ?_
          refine aw_kp [0, 1, 9, 10, 46, 47, 48, 49, 50, 51, 52, 53, 54, 55, 56, 57, 58, 59, 62, 63, 64, 65, 66, 67, 68, 69, 70, 71, 72, 73, 74, 75, 76, 77, 78] ?_
          refine aw_seq_region ?_
          refine sr_mv ?_
          refine sr_rd (x_cast (u := .int .i64 ((i2 + 1 : Nat) : Int)) (x_add' rfl rfl (i64w (by omega) (by omega))) (by congr 1)) ?_
          refine sr_as ?_
          refine sr_nil ?_
          refine aw_kp [0, 1, 9, 10, 46, 47, 48, 49, 50, 51, 52, 53, 54, 55, 56, 57, 58, 59, 62, 63, 64, 65, 66, 67, 68, 69, 70, 71, 72, 73, 74, 75, 76, 77, 78, 79, 80] ?_
          refine aw_region ?_
          refine sr_mv ?_
          refine sr_rd (x_cast (u := .int .i64 ((j2 - 1 : Nat) : Int)) (x_sub' rfl rfl (i64w (by omega) (by omega))) (by congr 1; omega)) ?_
          refine sr_as ?_
          refine sr_nil ?_
          show ∃ s', _ ∧ _ ∧ _ ∧ _
          exact ⟨⟨i2 + 1, j2 - 1, sw cur i2 j2⟩, ⟨by dsimp only; omega, by dsimp only; omega, by dsimp only; omega, sw_len.trans hcl, hpq.trans (Pq.sw (by omega) (by omega) (by omega)), (gd_swn (by omega) (by omega) (by omega) (by omega)).trans hpa, (hA2.swo (by omega) (by omega) (by omega) (by omega)).up (by (rw [gd_swl (by omega) (by omega)]); (have q9 := of_decide_eq_false hd2); (rw [hpa] at q9); exact Int.not_lt.1 q9), (Al.down (hB2.swo (by omega) (by omega) (by omega) (by omega)) (by (rw [gd_swr (by omega) (by omega)]); (have q9 := of_decide_eq_true hd1); (rw [hpa] at q9); exact q9)).mono (by dsimp only; omega) (Nat.le_refl _)⟩, by dsimp only; omega, KeepF.auto, Sub.autoP⟩
        · refine dr_l (x_pick_t rfl rfl rfl) ?_
          refine dr_nil0 ?_
          refine aw_kp [0, 1, 9, 10, 46, 47, 48, 49, 50, 51, 52, 53, 54, 55, 56, 57, 58, 59] ?_
          refine aw_true rfl ?_
          refine aw_skip ?_
          show AW _ _ _ _ _ _ _
          refine aw_block ?_
          refine aw_region ?_
          refine sr_mv ?_
          refine sr_rd (x_cast (u := .int .i64 ((j2 - 1 : Nat) : Int)) (x_sub' rfl rfl (i64w (by omega) (by omega))) (by congr 1; omega)) ?_
          refine sr_as ?_
          refine sr_nil ?_
          show ∃ s', _ ∧ _ ∧ _ ∧ _
          exact ⟨j2 - 1, ⟨by omega, by omega, (Al.down hB2 (by (have q9 := of_decide_eq_true hd2); (rw [hpa] at q9); exact q9)).mono (by omega) (Nat.le_refl _)⟩, by omega, KeepF.auto, Sub.autoP⟩
      · refine dr_l (x_move rfl) ?_
        refine dr_sk ?_
        refine dr_sk ?_
        refine dr_sk ?_
        refine dr_sk ?_
        refine dr_sk ?_
        refine dr_sk ?_
        refine dr_sk ?_
        refine dr_sk ?_
        refine dr_sk ?_
        refine dr_l (x_pick_f rfl rfl rfl) ?_
        refine dr_nil0 ?_
        refine aw_kp [0, 1, 9, 10, 46, 47, 48, 49, 50, 51, 52, 53, 54, 55, 56, 57, 58, 59] ?_
        refine aw_false rfl ?_
        refine aw_exit ?_
        show AW _ _ _ _ _ _ _
        refine aw_seq ?_
        refine aw_seq_region ?_
        refine sr_mv ?_
        refine sr_mv ?_
        refine sr_c (x_gt rfl rfl) (fun h4 => ?_) (fun h4 => absurd (by first | omega | decide) h4)
        refine sr_nil ?_
        refine aw_kp [0, 1, 9, 10, 46, 47, 48, 49, 50, 51, 52, 53, 54, 55, 56, 57, 58, 59, 62, 63, 64] ?_
        refine aw_true rfl ?_
        refine aw_exit ?_
        show AW _ _ _ _ _ _ _
        refine aw_seq_region ?_
        refine sr_mv ?_
        refine sr_as ?_
        refine sr_nil ?_
        refine aw_kp [8] ?_
        refine aw_ret ?_
        show ∃ v H2, ResV _ _ _ _ _ _ v ∧ Sub H2 _ ∧ _
        exact ⟨_, _, resV rfl (.cons rfl .nil), Sub.refl _, cur, i2, by omega, by omega, hpq, hA2, hB2.mono (by omega) (Nat.le_refl _), rfl, rfl⟩
  · refine dr_l (x_move rfl) ?_
    refine dr_sk ?_
    refine dr_sk ?_
    refine dr_sk ?_
    refine dr_sk ?_
    refine dr_sk ?_
    refine dr_sk ?_
    refine dr_sk ?_
    refine dr_sk ?_
    refine dr_sk ?_
    refine dr_sk ?_
    refine dr_l (x_pick_f rfl rfl rfl) ?_
    refine dr_nil0 ?_
    refine aw_kp [0, 1, 9, 10, 29, 30, 31, 32, 33, 34, 35, 36, 37, 38, 39, 40, 41, 42, 43] ?_
    refine aw_false rfl ?_
    refine aw_exit ?_
    show AW _ _ _ _ _ _ _
    refine aw_seq ?_
    refine aw_block ?_
    refine aw_loop (ι := Nat) (fun k => k ≤ j ∧ i2 ≤ k + 1 ∧ Al cur (k + 1) e (fun x => gd W q < x)) (fun k => [(0, .slice (some ⟨b, 0, none⟩) n cap), (1, .int .i64 a), (9, .int .i64 i2), (10, .int .i64 k)]) (fun _ => (b, .cells ((cur).flatMap intC ++ post).toArray 3 (0, 0)) :: G) (fun k => k) j (⟨Nat.le_refl _, hi3, hB⟩) KeepF.auto Sub.autoP ?_
    intro j2 hj9
    obtain ⟨hj2, hj3, hB2⟩ := hj9
    refine aw_seq ?_
    refine aw_seq_dr ⟨_, 14, 84, [[], [], [0, 1], [0, 1, 2], [0, 1, 2, 3], [0, 1, 2, 3], [0, 1, 2, 3, 4, 5], [0, 1, 2, 3, 4, 5, 6], [0, 1, 2, 3], [0, 1, 2, 3], [0, 1, 2, 3, 8, 9], [0, 1, 2, 3, 8, 9, 10], [0, 1, 2, 3, 4, 5, 6, 7, 8, 9, 10, 11], [0, 1, 2, 3, 4, 5, 6, 7, 8, 9, 10, 11, 12]], [.light, .light, .light, .light, .light, .light, .light, .mem, .light, .light, .light, .mem, .call, .light]⟩ (by kernel_rfl) rfl rfl mix ?_
    refine dr_l (x_move rfl) ?_
    refine dr_l (x_move rfl) ?_
    refine dr_cmp rfl rfl (wtd_none rfl) (x_le rfl rfl) (fun h5 => ?_) (fun h5 => ?_)
    · refine dr_l (x_move rfl) ?_
      refine dr_y (x_move rfl) ?_
      refine dr_y (x_move rfl) ?_
      refine dr_y (x_indexAddrN (a) Try.underlying134 sz3 rfl rfl rfl (by omega) (by omega)) ?_
      refine dr_mem0 rfl rfl (wtd_yes rfl rfl rfl) (x_load ag3 rfl (cells_get (cells_flat0 (n := 1) (enc := intC) (fun _ => rfl) (xs := cur) (i := a) (post := post) (show (b, Obj.cells ((cur).flatMap intC ++ post).toArray 3 (0, 0)) ∈ _ from mauto) (gd_some (by omega))) 0 rfl)) ?_
      refine dr_y (x_move rfl) ?_
      refine dr_y (x_move rfl) ?_
      refine dr_y (x_indexAddrN (j2) Try.underlying134 sz3 rfl rfl rfl (by omega) (by omega)) ?_
      refine dr_mem0 rfl rfl (wtd_yes rfl rfl rfl) (x_load ag3 rfl (cells_get (cells_flat0 (n := 1) (enc := intC) (fun _ => rfl) (xs := cur) (i := j2) (post := post) (show (b, Obj.cells ((cur).flatMap intC ++ post).toArray 3 (0, 0)) ∈ _ from mauto) (gd_some (by omega))) 0 rfl)) ?_
      refine dr_callq0 rfl rfl (wtd_yes rfl rfl rfl) (opS_F rfl rfl rfl rfl cl162 ((mLess_s (gd cur a) (gd cur j2) _))) (⟨_, rfl⟩) ?_
      rintro _ rfl
      generalize hd2 : decide (gd cur a < gd cur j2) = d2
      cases d2
      · refine dr_l (x_pick_t rfl rfl rfl) ?_
        refine dr_nil0 ?_
        refine aw_kp [0, 1, 9, 10, 46, 47, 48, 49, 50, 51, 52, 53, 54, 55, 56, 57, 58, 59] ?_
        refine aw_false rfl ?_
        refine aw_exit ?_
        show AW _ _ _ _ _ _ _
        refine aw_seq ?_
        refine aw_seq_region ?_
        refine sr_mv ?_
        refine sr_mv ?_
        refine sr_c (x_gt rfl rfl) (fun h6 => ?_) (fun h6 => absurd (by first | omega | decide) h6)
        refine sr_nil ?_
        refine aw_kp [0, 1, 9, 10, 46, 47, 48, 49, 50, 51, 52, 53, 54, 55, 56, 57, 58, 59, 62, 63, 64] ?_
        refine aw_true rfl ?_
        refine aw_exit ?_
        show AW _ _ _ _ _ _ _
        refine aw_seq_region ?_
        refine sr_mv ?_
        refine sr_as ?_
        refine sr_nil ?_
        refine aw_kp [8] ?_
        refine aw_ret ?_
        show ∃ v H2, ResV _ _ _ _ _ _ v ∧ Sub H2 _ ∧ _
        exact ⟨_, _, resV rfl (.cons rfl .nil), Sub.refl _, cur, i2, by omega, by omega, hpq, hA2, hB2.mono (by omega) (Nat.le_refl _), rfl, rfl⟩
      · refine dr_l (x_pick_t rfl rfl rfl) ?_
        refine dr_nil0 ?_
        refine aw_kp [0, 1, 9, 10, 46, 47, 48, 49, 50, 51, 52, 53, 54, 55, 56, 57, 58, 59] ?_
        refine aw_true rfl ?_
        refine aw_skip ?_
        show AW _ _ _ _ _ _ _
        refine aw_block ?_
        refine aw_region ?_
        refine sr_mv ?_
        refine sr_rd (x_cast (u := .int .i64 ((j2 - 1 : Nat) : Int)) (x_sub' rfl rfl (i64w (by omega) (by omega))) (by congr 1; omega)) ?_
        refine sr_as ?_
        refine sr_nil ?_
        show ∃ s', _ ∧ _ ∧ _ ∧ _
        exact ⟨j2 - 1, ⟨by omega, by omega, (Al.down hB2 (by (have q9 := of_decide_eq_true hd2); (rw [hpa] at q9); exact q9)).mono (by omega) (Nat.le_refl _)⟩, by omega, KeepF.auto, Sub.autoP⟩
    · refine dr_l (x_move rfl) ?_
      refine dr_sk ?_
      refine dr_sk ?_
      refine dr_sk ?_
      refine dr_sk ?_
      refine dr_sk ?_
      refine dr_sk ?_
      refine dr_sk ?_
      refine dr_sk ?_
      refine dr_sk ?_
      refine dr_l (x_pick_f rfl rfl rfl) ?_
      refine dr_nil0 ?_
      refine aw_kp [0, 1, 9, 10, 46, 47, 48, 49, 50, 51, 52, 53, 54, 55, 56, 57, 58, 59] ?_
      refine aw_false rfl ?_
      refine aw_exit ?_
      show AW _ _ _ _ _ _ _
      refine aw_seq ?_
      refine aw_seq_region ?_
      refine sr_mv ?_
      refine sr_mv ?_
      refine sr_c (x_gt rfl rfl) (fun h7 => ?_) (fun h7 => absurd (by first | omega | decide) h7)
      refine sr_nil ?_
      refine aw_kp [0, 1, 9, 10, 46, 47, 48, 49, 50, 51, 52, 53, 54, 55, 56, 57, 58, 59, 62, 63, 64] ?_
      refine aw_true rfl ?_
      refine aw_exit ?_
      show AW _ _ _ _ _ _ _
      refine aw_seq_region ?_
      refine sr_mv ?_
      refine sr_as ?_
      refine sr_nil ?_
      refine aw_kp [8] ?_
      refine aw_ret ?_
      show ∃ v H2, ResV _ _ _ _ _ _ v ∧ Sub H2 _ ∧ _
      exact ⟨_, _, resV rfl (.cons rfl .nil), Sub.refl _, cur, i2, by omega, by omega, hpq, hA2, hB2.mono (by omega) (Nat.le_refl _), rfl, rfl⟩
end
end Go.Proofs.Yteilocpjikmmdaa
