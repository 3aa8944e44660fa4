/- Jobs are put in order: what the library's sorting comes to. -/
import Derived.Test.YteilocpjikmmdaaJobCall
import Derived.Test.YteilocpjikmmdaaSymPlace
namespace Go.Proofs.Yteilocpjikmmdaa
open Go.Proofs.Yteilocpjikmmdaa.Sym
open Go.RowKit (Below)
set_option linter.unusedVariables false
set_option linter.unusedSimpArgs false
def cmpI (x y : Int) : Int := if x < y then -1 else if y < x then 1 else 0
def firstNZ : List Int → Int
  | [] => 0
  | x :: l => if x ≠ 0 then x else firstNZ l
theorem firstNZ_z {xs : List Int} {k : Nat} (hk : k < xs.length) (h : ¬ (xs.getD k 0 ≠ 0)) : firstNZ (xs.drop k) = firstNZ (xs.drop (k + 1)) := by
  rw [List.drop_eq_getElem_cons hk]
  have : xs.getD k 0 = xs[k] := by simp [hk]
  rw [this] at h
  simp only [firstNZ]; rw [if_neg h]
theorem firstNZ_n {xs : List Int} {k : Nat} (hk : k < xs.length) (h : xs.getD k 0 ≠ 0) : firstNZ (xs.drop k) = xs.getD k 0 := by
  rw [List.drop_eq_getElem_cons hk]
  have : xs.getD k 0 = xs[k] := by simp [hk]
  rw [this] at h ⊢
  simp only [firstNZ]; rw [if_pos h]
def ahead (a b : Job) : Prop := b.prio < a.prio ∨ (a.prio = b.prio ∧ a.id < b.id)
def cmpJ (a b : Job) : Int := firstNZ [cmpI b.prio a.prio, cmpI a.id b.id]
theorem cmpJ_lt (a b : Job) : cmpJ a b < 0 ↔ ahead a b := by
  unfold cmpJ firstNZ firstNZ firstNZ cmpI ahead
  (repeat split) <;> omega
theorem cmpJ_spec (a b : Job) : (ahead a b ∧ ¬ ahead b a ∧ cmpJ a b = -1) ∨ (¬ ahead a b ∧ ahead b a ∧ cmpJ a b = 1) ∨ (¬ ahead a b ∧ ¬ ahead b a ∧ cmpJ a b = 0) := by
  unfold cmpJ firstNZ firstNZ firstNZ cmpI ahead
  (repeat split) <;> omega
instance : Inhabited Job := ⟨⟨0, 0, 0, 0, 0, 0, 0, 0, 0, 0⟩⟩
theorem swoJ : Swo cmpJ := ⟨fun x => by rw [cmpJ_lt]; unfold ahead; omega, fun {x y z} => by rw [cmpJ_lt, cmpJ_lt, cmpJ_lt]; unfold ahead; omega, fun {x y z} => by rw [cmpJ_lt, cmpJ_lt, cmpJ_lt]; unfold ahead; omega⟩
theorem cl136 : Callable Try.prog 136 := ⟨Try.f136, Try.func136, by kernel_rfl, by kernel_rfl⟩
theorem cl143 : Callable Try.prog 143 := ⟨Try.f143, Try.func143, by kernel_rfl, by kernel_rfl⟩
theorem cl149 : Callable Try.prog 149 := ⟨Try.f149, Try.func149, by kernel_rfl, by kernel_rfl⟩
theorem cl152 : Callable Try.prog 152 := ⟨Try.f152, Try.func152, by kernel_rfl, by kernel_rfl⟩
theorem cl153 : Callable Try.prog 153 := ⟨Try.f153, Try.func153, by kernel_rfl, by kernel_rfl⟩
theorem cl171 : Callable Try.prog 171 := ⟨Try.f171, Try.func171, by kernel_rfl, by kernel_rfl⟩
theorem cl172 : Callable Try.prog 172 := ⟨Try.f172, Try.func172, by kernel_rfl, by kernel_rfl⟩
theorem cl180 : Callable Try.prog 180 := ⟨Try.f180, Try.func180, by kernel_rfl, by kernel_rfl⟩
theorem cl184 : Callable Try.prog 184 := ⟨Try.f184, Try.func184, by kernel_rfl, by kernel_rfl⟩
theorem fd91_4 : fldOf Try.prog 91 4 = some (4, 3, 1) := by kernel_rfl
section
variable {W0 : World}
set_option maxRecDepth 100000 in
set_option maxHeartbeats 400000 in
theorem jisNaN_s (x : Int) (H : SHeap) : AC Try.prog W0 149 [.int .i64 x] H (fun v H' => v = .bool false ∧ H' = H) := by
  refine ac_of Try.func149 rfl rfl rfl ?_
  refine aw_seq_region ?_
  refine sr_x rfl (wtd_none rfl) rfl (Rd.x (x_assign rfl)) ?_
  refine sr_nil ?_
  refine aw_keep (keep_cons (t := 0) rfl (keep_cons (t := 2) rfl keep_nil)) ?_
  refine aw_seq_region ?_
  refine sr_x rfl (wtd_none rfl) rfl (Rd.x (x_move rfl)) ?_
  refine sr_x rfl (wtd_none rfl) rfl (Rd.x (x_move rfl)) ?_
  refine sr_x rfl (wtd_none rfl) rfl (Rd.x (x_cast (u := .bool false) (x_ne rfl rfl) (by simp))) ?_
  refine sr_x rfl (wtd_none rfl) rfl (Rd.x (x_assign rfl)) ?_
  refine sr_nil ?_
  refine aw_keep (keep_cons (t := 2) rfl keep_nil) ?_
  refine aw_ret ?_
  show ∃ v H2, ResV _ _ _ _ _ _ v ∧ Sub H2 _ ∧ _
  exact ⟨_, H, resV rfl (.cons rfl .nil), (by repeat (first | exact Sub.refl _ | apply Sub.drop)), ⟨rfl, rfl⟩⟩
set_option maxRecDepth 100000 in
set_option maxHeartbeats 400000 in
theorem jcmp_s (x y : Int) (H : SHeap) : AC Try.prog W0 136 [.int .i64 x, .int .i64 y] H (fun v H' => v = .int .i64 (cmpI x y) ∧ H' = H) := by
  refine ac_of Try.func136 rfl rfl rfl ?_
  refine aw_seq_region ?_
  refine sr_x rfl (wtd_none rfl) rfl (Rd.x (x_assign rfl)) ?_
  refine sr_nil ?_
  refine aw_keep (keep_cons (t := 0) rfl (keep_cons (t := 1) rfl (keep_cons (t := 4) rfl keep_nil))) ?_
  refine aw_seq_region ?_
  refine sr_x rfl (wtd_none rfl) rfl (Rd.x (x_move rfl)) ?_
  refine sr_d rfl (wtd_none rfl) rfl (opS_call rfl rfl rfl rfl cl149 (jisNaN_s _ _)) ?_
  rintro _ H ⟨rfl, rfl⟩
  refine sr_x rfl (wtd_none rfl) rfl (Rd.x (x_assign rfl)) ?_
  refine sr_nil ?_
  refine aw_keep (keep_cons (t := 0) rfl (keep_cons (t := 1) rfl (keep_cons (t := 4) rfl (keep_cons (t := 5) rfl keep_nil)))) ?_
  refine aw_seq_region ?_
  refine sr_x rfl (wtd_none rfl) rfl (Rd.x (x_move rfl)) ?_
  refine sr_d rfl (wtd_none rfl) rfl (opS_call rfl rfl rfl rfl cl149 (jisNaN_s _ _)) ?_
  rintro _ H ⟨rfl, rfl⟩
  refine sr_x rfl (wtd_none rfl) rfl (Rd.x (x_assign rfl)) ?_
  refine sr_nil ?_
  refine aw_keep (keep_cons (t := 0) rfl (keep_cons (t := 1) rfl (keep_cons (t := 4) rfl (keep_cons (t := 5) rfl (keep_cons (t := 6) rfl keep_nil))))) ?_
  refine aw_seq ?_
  refine aw_seq_region ?_
  refine sr_x rfl (wtd_none rfl) rfl (Rd.x (x_move rfl)) ?_
  refine sr_nil ?_
  refine aw_keep (keep_cons (t := 0) rfl (keep_cons (t := 1) rfl (keep_cons (t := 4) rfl (keep_cons (t := 6) rfl (keep_cons (t := 11) rfl keep_nil))))) ?_
  refine aw_false rfl ?_
  refine aw_skip ?_
  show AW _ _ _ _ _ _ _
  refine aw_seq ?_
  refine aw_seq_region ?_
  refine sr_x rfl (wtd_none rfl) rfl (Rd.x (x_move rfl)) ?_
  refine sr_nil ?_
  refine aw_keep (keep_cons (t := 0) rfl (keep_cons (t := 1) rfl (keep_cons (t := 4) rfl (keep_cons (t := 13) rfl keep_nil)))) ?_
  refine aw_false rfl ?_
  refine aw_skip ?_
  show AW _ _ _ _ _ _ _
  refine aw_seq ?_
  refine aw_seq_region ?_
  refine sr_x rfl (wtd_none rfl) rfl (Rd.x (x_move rfl)) ?_
  refine sr_x rfl (wtd_none rfl) rfl (Rd.x (x_move rfl)) ?_
  refine sr_cmp rfl (wtd_none rfl) rfl (Rd.x (x_lt rfl rfl)) (fun h1 => ?_) (fun h1 => ?_)
  · refine sr_nil ?_
    refine aw_keep (keep_cons (t := 0) rfl (keep_cons (t := 1) rfl (keep_cons (t := 4) rfl (keep_cons (t := 16) rfl keep_nil)))) ?_
    refine aw_true rfl ?_
    refine aw_seq_region ?_
    refine sr_x rfl (wtd_none rfl) rfl (Rd.x (x_assign rfl)) ?_
    refine sr_nil ?_
    refine aw_keep (keep_cons (t := 0) rfl (keep_cons (t := 1) rfl (keep_cons (t := 4) rfl keep_nil))) ?_
    refine aw_ret ?_
    show ∃ v H2, ResV _ _ _ _ _ _ v ∧ Sub H2 _ ∧ _
    exact ⟨_, H, resV rfl (.cons rfl .nil), (by repeat (first | exact Sub.refl _ | apply Sub.drop)), ⟨congrArg (Value.int .i64) (by unfold cmpI; (repeat (first | rw [if_pos (by omega)] | rw [if_neg (by omega)]))), rfl⟩⟩
  · refine sr_nil ?_
    refine aw_keep (keep_cons (t := 0) rfl (keep_cons (t := 1) rfl (keep_cons (t := 4) rfl (keep_cons (t := 16) rfl keep_nil)))) ?_
    refine aw_false rfl ?_
    refine aw_skip ?_
    show AW _ _ _ _ _ _ _
    refine aw_seq ?_
    refine aw_seq_region ?_
    refine sr_x rfl (wtd_none rfl) rfl (Rd.x (x_move rfl)) ?_
    refine sr_x rfl (wtd_none rfl) rfl (Rd.x (x_move rfl)) ?_
    refine sr_cmp rfl (wtd_none rfl) rfl (Rd.x (x_gt rfl rfl)) (fun h2 => ?_) (fun h2 => ?_)
    · refine sr_nil ?_
      refine aw_keep (keep_cons (t := 4) rfl (keep_cons (t := 19) rfl keep_nil)) ?_
      refine aw_true rfl ?_
      refine aw_seq_region ?_
      refine sr_x rfl (wtd_none rfl) rfl (Rd.x (x_assign rfl)) ?_
      refine sr_nil ?_
      refine aw_keep (keep_cons (t := 4) rfl keep_nil) ?_
      refine aw_ret ?_
      show ∃ v H2, ResV _ _ _ _ _ _ v ∧ Sub H2 _ ∧ _
      exact ⟨_, H, resV rfl (.cons rfl .nil), (by repeat (first | exact Sub.refl _ | apply Sub.drop)), ⟨congrArg (Value.int .i64) (by unfold cmpI; (repeat (first | rw [if_pos (by omega)] | rw [if_neg (by omega)]))), rfl⟩⟩
    · refine sr_nil ?_
      refine aw_keep (keep_cons (t := 4) rfl (keep_cons (t := 19) rfl keep_nil)) ?_
      refine aw_false rfl ?_
      refine aw_skip ?_
      show AW _ _ _ _ _ _ _
      refine aw_seq_region ?_
      refine sr_x rfl (wtd_none rfl) rfl (Rd.x (x_assign rfl)) ?_
      refine sr_nil ?_
      refine aw_keep (keep_cons (t := 4) rfl keep_nil) ?_
      refine aw_ret ?_
      show ∃ v H2, ResV _ _ _ _ _ _ v ∧ Sub H2 _ ∧ _
      exact ⟨_, H, resV rfl (.cons rfl .nil), (by repeat (first | exact Sub.refl _ | apply Sub.drop)), ⟨congrArg (Value.int .i64) (by unfold cmpI; (repeat (first | rw [if_pos (by omega)] | rw [if_neg (by omega)]))), rfl⟩⟩
set_option maxRecDepth 100000 in
set_option maxHeartbeats 400000 in
theorem jor_s (b n : Nat) (xs : List Int) (H : SHeap) (hn : n = xs.length) (hm : n ≤ 1000000) (hc : Cells W0 H b 0 (xs.map (.int .i64))) : AC Try.prog W0 153 [.slice (some ⟨b, 0, none⟩) n n] H (fun v H' => v = .int .i64 (firstNZ xs) ∧ H' = H) := by
  refine ac_of Try.func153 rfl rfl rfl ?_
  refine aw_seq_region ?_
  refine sr_x rfl (wtd_none rfl) rfl (Rd.x (x_assign rfl)) ?_
  refine sr_nil ?_
  refine aw_keep (keep_cons (t := 0) rfl (keep_cons (t := 2) rfl keep_nil)) ?_
  refine aw_seq_region ?_
  refine sr_x rfl (wtd_none rfl) rfl (Rd.x (x_assign rfl)) ?_
  refine sr_nil ?_
  refine aw_keep (keep_cons (t := 0) rfl (keep_cons (t := 2) rfl (keep_cons (t := 3) rfl keep_nil))) ?_
  refine aw_seq ?_
  refine aw_seq_region ?_
  refine sr_x rfl (wtd_none rfl) rfl (Rd.x (x_move rfl)) ?_
  refine sr_x rfl (wtd_none rfl) rfl (Rd.x (x_lenSlice Try.underlying134 rfl)) ?_
  refine sr_x rfl (wtd_none rfl) rfl (Rd.x (x_move rfl)) ?_
  refine sr_nil ?_
  refine aw_keep (keep_cons (t := 2) rfl (keep_cons (t := 3) rfl (keep_cons (t := 6) rfl (keep_cons (t := 7) rfl (keep_cons (t := 8) rfl keep_nil))))) ?_
  refine aw_block ?_
  refine aw_loop (ι := Nat) (fun k => k ≤ xs.length ∧ firstNZ xs = firstNZ (xs.drop k)) (fun k => [(2, .int .i64 0), (3, .int .i64 0), (6, .slice (some ⟨b, 0, none⟩) n n), (7, .int .i64 n), (8, .int .i64 k)]) (fun _ => H) (fun k => xs.length - k) 0 (⟨Nat.zero_le _, by simp⟩) (by (repeat (first | exact keep_nil | refine keep_cons rfl ?_)); first | done | fail) (by repeat (first | exact Sub.refl _ | apply Sub.drop)) ?_
  intro k hk
  obtain ⟨hk1, hk2⟩ := hk
  refine aw_seq_region ?_
  refine sr_cmp rfl (wtd_none rfl) rfl (Rd.x (x_lt rfl rfl)) (fun h1 => ?_) (fun h1 => ?_)
  · refine sr_nil ?_
    refine aw_keep (keep_cons (t := 2) rfl (keep_cons (t := 3) rfl (keep_cons (t := 6) rfl (keep_cons (t := 7) rfl (keep_cons (t := 8) rfl (keep_cons (t := 9) rfl keep_nil)))))) ?_
    refine aw_seq ?_
    refine aw_true rfl ?_
    refine aw_skip ?_
    show AW _ _ _ _ _ _ _
    refine aw_seq ?_
    refine aw_block ?_
    refine aw_seq_region ?_
    refine sr_x rfl (wtd_none rfl) rfl (Rd.x (x_indexAddr Try.underlying134 sz3 rfl rfl (by omega) (by omega))) ?_
    refine sr_x rfl (wtd_none rfl) rfl (Rd.x (x_load ag3 rfl (cells_get hc _ (v := .int .i64 (xs.getD k 0)) (by simp [show k < xs.length by omega])))) ?_
    refine sr_x rfl (wtd_none rfl) rfl (Rd.x (x_assign rfl)) ?_
    refine sr_nil ?_
    refine aw_keep (keep_cons (t := 2) rfl (keep_cons (t := 3) rfl (keep_cons (t := 5) rfl (keep_cons (t := 6) rfl (keep_cons (t := 7) rfl (keep_cons (t := 8) rfl (keep_cons (t := 9) rfl (keep_cons (t := 10) rfl (keep_cons (t := 11) rfl keep_nil))))))))) ?_
    refine aw_seq_region ?_
    refine sr_x rfl (wtd_none rfl) rfl (Rd.x (x_move rfl)) ?_
    refine sr_x rfl (wtd_none rfl) rfl (Rd.x (x_move rfl)) ?_
    refine sr_cmp rfl (wtd_none rfl) rfl (Rd.x (x_ne rfl rfl)) (fun h2 => ?_) (fun h2 => ?_)
    · refine sr_nil ?_
      refine aw_keep (keep_cons (t := 2) rfl (keep_cons (t := 3) rfl (keep_cons (t := 5) rfl (keep_cons (t := 6) rfl (keep_cons (t := 7) rfl (keep_cons (t := 8) rfl (keep_cons (t := 9) rfl (keep_cons (t := 10) rfl (keep_cons (t := 11) rfl (keep_cons (t := 12) rfl (keep_cons (t := 13) rfl (keep_cons (t := 14) rfl keep_nil)))))))))))) ?_
      refine aw_true rfl ?_
      refine aw_seq_region ?_
      refine sr_x rfl (wtd_none rfl) rfl (Rd.x (x_move rfl)) ?_
      refine sr_x rfl (wtd_none rfl) rfl (Rd.x (x_assign rfl)) ?_
      refine sr_nil ?_
      refine aw_keep (keep_cons (t := 2) rfl (keep_cons (t := 3) rfl (keep_cons (t := 5) rfl (keep_cons (t := 6) rfl (keep_cons (t := 7) rfl (keep_cons (t := 8) rfl (keep_cons (t := 9) rfl (keep_cons (t := 10) rfl (keep_cons (t := 11) rfl (keep_cons (t := 12) rfl (keep_cons (t := 13) rfl (keep_cons (t := 14) rfl (keep_cons (t := 15) rfl keep_nil))))))))))))) ?_
      refine aw_ret ?_
      show ∃ v H2, ResV _ _ _ _ _ _ v ∧ Sub H2 _ ∧ _
      exact ⟨_, H, resV rfl (.cons rfl .nil), (by repeat (first | exact Sub.refl _ | apply Sub.drop)), (by first | exact ⟨congrArg (Value.int .i64) (by rw [hk2, firstNZ_n (by omega) (by assumption)]), rfl⟩ | exact ⟨congrArg (Value.int .i64) (by rw [hk2, List.drop_eq_nil_of_le (by omega)]; rfl), rfl⟩)⟩
    · refine sr_nil ?_
      refine aw_keep (keep_cons (t := 2) rfl (keep_cons (t := 3) rfl (keep_cons (t := 5) rfl (keep_cons (t := 6) rfl (keep_cons (t := 7) rfl (keep_cons (t := 8) rfl (keep_cons (t := 9) rfl (keep_cons (t := 10) rfl (keep_cons (t := 11) rfl (keep_cons (t := 12) rfl (keep_cons (t := 13) rfl (keep_cons (t := 14) rfl keep_nil)))))))))))) ?_
      refine aw_false rfl ?_
      refine aw_skip ?_
      show AW _ _ _ _ _ _ _
      refine aw_region ?_
      refine sr_x rfl (wtd_none rfl) rfl (Rd.x (x_add' rfl rfl (i64w (by omega) (by omega)))) ?_
      refine sr_x rfl (wtd_none rfl) rfl (Rd.x (x_move rfl)) ?_
      refine sr_nil ?_
      show ∃ s', _ ∧ _ ∧ _ ∧ _
      exact ⟨k + 1, ⟨by omega, by rw [hk2]; exact firstNZ_z (by omega) (by assumption)⟩, by omega, (by (repeat (first | exact keep_nil | refine keep_cons rfl ?_)); first | done | fail), (by repeat (first | exact Sub.refl _ | apply Sub.drop))⟩
  · refine sr_nil ?_
    refine aw_keep (keep_cons (t := 2) rfl (keep_cons (t := 3) rfl (keep_cons (t := 6) rfl (keep_cons (t := 7) rfl (keep_cons (t := 8) rfl (keep_cons (t := 9) rfl keep_nil)))))) ?_
    refine aw_seq ?_
    refine aw_false rfl ?_
    refine aw_exit ?_
    show AW _ _ _ _ _ _ _
    refine aw_seq_region ?_
    refine sr_x rfl (wtd_none rfl) rfl (Rd.x (x_move rfl)) ?_
    refine sr_x rfl (wtd_none rfl) rfl (Rd.x (x_assign rfl)) ?_
    refine sr_nil ?_
    refine aw_keep (keep_cons (t := 2) rfl keep_nil) ?_
    refine aw_ret ?_
    show ∃ v H2, ResV _ _ _ _ _ _ v ∧ Sub H2 _ ∧ _
    exact ⟨_, H, resV rfl (.cons rfl .nil), (by repeat (first | exact Sub.refl _ | apply Sub.drop)), (by first | exact ⟨congrArg (Value.int .i64) (by rw [hk2, firstNZ_n (by omega) (by assumption)]), rfl⟩ | exact ⟨congrArg (Value.int .i64) (by rw [hk2, List.drop_eq_nil_of_le (by omega)]; rfl), rfl⟩)⟩
set_option maxRecDepth 100000 in
set_option maxHeartbeats 400000 in
theorem jcompare_s (a b : Job) (H : SHeap) : AC Try.prog W0 143 [a.v, b.v] H (fun v H' => v = .int .i64 (cmpJ a b) ∧ H' = H) := by
  refine ac_of Try.func143 rfl rfl rfl ?_
  refine aw_seq_region ?_
  refine sr_new rfl (wtd_none rfl) rfl (x_box rfl rfl) ?_
  intro r0_0 hr0_0 gr0_0
  refine sr_new rfl (wtd_none rfl) rfl (x_box rfl rfl) ?_
  intro r0_1 hr0_1 gr0_1
  refine sr_x rfl (wtd_none rfl) rfl (Rd.x (x_assign rfl)) ?_
  refine sr_nil ?_
  refine aw_keep (keep_cons (t := 2) rfl (keep_cons (t := 3) rfl (keep_cons (t := 4) rfl keep_nil))) ?_
  refine aw_seq_dr ⟨_, 13, 17, [[], [0], [], [2], [0, 1, 2, 3], [], [5], [], [7], [0, 1, 2, 3, 4, 5, 6, 7, 8], [0, 1, 2, 3, 4, 5, 6, 7, 8, 9], [0, 1, 2, 3, 4, 5, 6, 7, 8, 9, 10], [0, 1, 2, 3, 4, 5, 6, 7, 8, 9, 10, 11]], [.light, .mem, .light, .mem, .call, .light, .mem, .light, .mem, .call, .alloc, .call, .light]⟩ (by kernel_rfl) rfl rfl mix ?_
  refine dr_light rfl rfl (wtd_none rfl) (x_fieldAddr fd91_4 rfl) ?_
  refine dr_mem0 rfl rfl (wtd_none rfl) (x_load ag3 rfl (cells_ext (by repeat (first | exact List.mem_cons_self | apply List.mem_cons_of_mem | apply List.mem_append_right)) (by repeat (first | exact Ext.all _ | exact Ext.done | apply Ext.take | apply Ext.skip)))) ?_
  refine dr_light rfl rfl (wtd_none rfl) (x_fieldAddr fd91_4 rfl) ?_
  refine dr_mem0 rfl rfl (wtd_none rfl) (x_load ag3 rfl (cells_ext (by repeat (first | exact List.mem_cons_self | apply List.mem_cons_of_mem | apply List.mem_append_right)) (by repeat (first | exact Ext.all _ | exact Ext.done | apply Ext.take | apply Ext.skip)))) ?_
  refine dr_callq0 rfl rfl (wtd_none rfl) (opS_F rfl rfl rfl rfl cl136 (jcmp_s _ _ _)) (⟨_, rfl⟩) ?_
  rintro _ rfl
  refine dr_light rfl rfl (wtd_none rfl) (x_fieldAddr fd91_0 rfl) ?_
  refine dr_mem0 rfl rfl (wtd_none rfl) (x_load ag3 rfl (cells_ext (by repeat (first | exact List.mem_cons_self | apply List.mem_cons_of_mem | apply List.mem_append_right)) (by repeat (first | exact Ext.all _ | exact Ext.done | apply Ext.take | apply Ext.skip)))) ?_
  refine dr_light rfl rfl (wtd_none rfl) (x_fieldAddr fd91_0 rfl) ?_
  refine dr_mem0 rfl rfl (wtd_none rfl) (x_load ag3 rfl (cells_ext (by repeat (first | exact List.mem_cons_self | apply List.mem_cons_of_mem | apply List.mem_append_right)) (by repeat (first | exact Ext.all _ | exact Ext.done | apply Ext.take | apply Ext.skip)))) ?_
  refine dr_callq0 rfl rfl (wtd_none rfl) (opS_F rfl rfl rfl rfl cl136 (jcmp_s _ _ _)) (⟨_, rfl⟩) ?_
  rintro _ rfl
  refine dr_alloc rfl rfl (wtd_none rfl) (x_buildSlice Try.underlying134 sz3 zr3 rfl rfl rfl rfl (by repeat (first | exact Parts.nil | (apply Parts.cons; rfl))) (by repeat (first | exact Fill.done | (apply Fill.part; rfl; rfl; rfl; focus (repeat (first | exact Spl.done | exact Spl.all rfl | apply Spl.put | apply Spl.skip)))))) ?_
  intro r1_10 hr1_10 gr1_10
  refine dr_callq rfl (V := [(r1_10, _)]) rfl rfl rfl (wtd_none rfl) (opS_F rfl rfl rfl rfl cl153 (jor_s _ _ [_, _] _ rfl (by omega) (cells_ext (by repeat (first | exact List.mem_cons_self | apply List.mem_cons_of_mem | apply List.mem_append_right)) (by repeat (first | exact Ext.all _ | exact Ext.done | apply Ext.take | apply Ext.skip))))) (⟨_, rfl⟩) ?_
  rintro _ rfl
  refine dr_light rfl rfl (wtd_none rfl) (x_assign rfl) ?_
  refine dr_drop ?_
  refine aw_keep (keep_cons (t := 4) rfl keep_nil) ?_
  refine aw_ret ?_
  show ∃ v H2, ResV _ _ _ _ _ _ v ∧ Sub H2 _ ∧ _
  exact ⟨_, H, resV rfl (.cons rfl .nil), (by repeat (first | exact Sub.refl _ | apply Sub.drop)), ⟨rfl, rfl⟩⟩
set_option maxRecDepth 100000 in
set_option maxHeartbeats 400000 in
theorem jsSwr_s (b cap n : Nat) (W : List Job) (post : List Value) (G : SHeap) (hl : W.length = n) (hn : n ≤ 100000) (hcap : n ≤ cap) (hcb : cap ≤ 9223372036854775807) (a k2 n2 : Nat) (h1 : a + n2 ≤ k2) (h2 : k2 + n2 ≤ n) : AC Try.prog W0 184 [.slice (some ⟨b, 0, none⟩) n cap, .int .i64 a, .int .i64 k2, .int .i64 n2, .func (.func 143) #[] #[]] ((b, .cells ((W).flatMap Job.cells ++ post).toArray 91 (0, 0)) :: G) (fun v H' => ∃ W', Mv W (swF a k2 n2) W' ∧ v = .tuple #[] ∧ H' = (b, .cells ((W').flatMap Job.cells ++ post).toArray 91 (0, 0)) :: G) := by
  refine ac_of Try.func184 rfl rfl rfl ?_
  refine aw_seq_region ?_
  refine sr_x rfl (wtd_none rfl) rfl (Rd.x (x_assign rfl)) ?_
  refine sr_nil ?_
  refine aw_keep (keep_cons (t := 0) rfl (keep_cons (t := 1) rfl (keep_cons (t := 2) rfl (keep_cons (t := 3) rfl (keep_cons (t := 10) rfl keep_nil))))) ?_
  refine aw_block ?_
  refine aw_loop (ι := SortG Job) (fun s => s.k ≤ n2 ∧ s.W.length = n ∧ Mv W (swF a k2 s.k) s.W) (fun s => [(0, .slice (some ⟨b, 0, none⟩) n cap), (1, .int .i64 a), (2, .int .i64 k2), (3, .int .i64 n2), (10, .int .i64 s.k)]) (fun s => (b, .cells ((s.W).flatMap Job.cells ++ post).toArray 91 (0, 0)) :: G) (fun s => n2 - s.k) ⟨0, W⟩ (⟨Nat.zero_le _, hl, Mv.refl W (swF_zero a k2)⟩) (by (repeat (first | exact keep_nil | refine keep_cons rfl ?_)); first | done | fail) (by repeat (first | exact Sub.refl _ | refine Sub.take (by repeat (first | exact Take.here | apply Take.there | apply Take.app)) ?_ | refine Sub.takeE (by repeat (first | exact TakeE.here | apply TakeE.there | apply TakeE.app)) ?_ | exact Sub.nil _ | apply Sub.drop | apply Sub.dropE)) ?_
  intro s hs9
  obtain ⟨k, cur⟩ := s
  dsimp only at hs9 ⊢
  obtain ⟨hk, hcl, hmv⟩ := hs9
  refine aw_seq ?_
  refine aw_seq_region ?_
  refine sr_x rfl (wtd_none rfl) rfl (Rd.x (x_move rfl)) ?_
  refine sr_x rfl (wtd_none rfl) rfl (Rd.x (x_move rfl)) ?_
  refine sr_cmp rfl (wtd_none rfl) rfl (Rd.x (x_lt rfl rfl)) (fun h1 => ?_) (fun h1 => ?_)
  · refine sr_nil ?_
    refine aw_keep (keep_cons (t := 0) rfl (keep_cons (t := 1) rfl (keep_cons (t := 2) rfl (keep_cons (t := 3) rfl (keep_cons (t := 10) rfl (keep_cons (t := 11) rfl (keep_cons (t := 12) rfl (keep_cons (t := 13) rfl keep_nil)))))))) ?_
    refine aw_true rfl ?_
    refine aw_skip ?_
    show AW _ _ _ _ _ _ _
    refine aw_seq ?_
    refine aw_block ?_
    refine aw_dr ⟨_, 24, 38, [[], [], [], [1, 2], [], [], [], [5, 6], [], [], [], [9, 10], [8, 9, 10, 11], [8, 9, 10, 11, 12], [], [], [], [15, 16], [14, 15, 16, 17], [14, 15, 16, 17, 18], [0, 1, 2, 3, 8, 9, 10, 11, 12, 13, 14, 15, 16, 17, 18, 19], [0, 1, 2, 3, 8, 9, 10, 11, 12, 13, 14, 15, 16, 17, 18, 19, 20], [0, 1, 2, 3, 4, 5, 6, 7, 8, 9, 10, 11, 12, 13, 14, 15, 16, 17, 18, 19, 20, 21], [0, 1, 2, 3, 4, 5, 6, 7, 8, 9, 10, 11, 12, 13, 14, 15, 16, 17, 18, 19, 20, 21, 22]], [.light, .light, .light, .light, .light, .light, .light, .light, .light, .light, .light, .light, .light, .mem, .light, .light, .light, .light, .light, .mem, .light, .eff, .light, .eff]⟩ (by kernel_rfl) rfl rfl mix ?_
    refine dr_light rfl rfl (wtd_none rfl) (x_move rfl) ?_
    refine dr_light rfl rfl (wtd_none rfl) (x_move rfl) ?_
    refine dr_light rfl rfl (wtd_none rfl) (x_move rfl) ?_
    refine dr_light rfl rfl (wtd_none rfl) (x_add' rfl rfl (i64w (by omega) (by omega))) ?_
    refine dr_light rfl rfl (wtd_none rfl) (x_move rfl) ?_
    refine dr_light rfl rfl (wtd_none rfl) (x_move rfl) ?_
    refine dr_light rfl rfl (wtd_none rfl) (x_move rfl) ?_
    refine dr_light rfl rfl (wtd_none rfl) (x_add' rfl rfl (i64w (by omega) (by omega))) ?_
    refine dr_light rfl rfl (wtd_none rfl) (x_move rfl) ?_
    refine dr_light rfl rfl (wtd_none rfl) (x_move rfl) ?_
    refine dr_light rfl rfl (wtd_none rfl) (x_move rfl) ?_
    refine dr_light rfl rfl (wtd_none rfl) (x_add' rfl rfl (i64w (by omega) (by omega))) ?_
    refine dr_light rfl rfl (wtd_none rfl) (x_indexAddrN (k2 + k) Try.underlying22 sz91 rfl rfl rfl (by omega) (by omega)) ?_
    refine dr_mem0 rfl rfl (wtd_none rfl) (x_loadN ag91 sz91 rfl ((cells_flat0 (n := 10) (enc := Job.cells) (fun _ => rfl) (xs := cur) (post := post) (show (b, Obj.cells ((cur).flatMap Job.cells ++ post).toArray 91 (0, 0)) ∈ _ from (by repeat (first | exact List.mem_cons_self | apply List.mem_cons_of_mem | apply List.mem_append_right))) (gd_some (by omega)))) rfl) ?_
    refine dr_light rfl rfl (wtd_none rfl) (x_move rfl) ?_
    refine dr_light rfl rfl (wtd_none rfl) (x_move rfl) ?_
    refine dr_light rfl rfl (wtd_none rfl) (x_move rfl) ?_
    refine dr_light rfl rfl (wtd_none rfl) (x_add' rfl rfl (i64w (by omega) (by omega))) ?_
    refine dr_light rfl rfl (wtd_none rfl) (x_indexAddrN (a + k) Try.underlying22 sz91 rfl rfl rfl (by omega) (by omega)) ?_
    refine dr_mem0 rfl rfl (wtd_none rfl) (x_loadN ag91 sz91 rfl ((cells_flat0 (n := 10) (enc := Job.cells) (fun _ => rfl) (xs := cur) (post := post) (show (b, Obj.cells ((cur).flatMap Job.cells ++ post).toArray 91 (0, 0)) ∈ _ from (by repeat (first | exact List.mem_cons_self | apply List.mem_cons_of_mem | apply List.mem_append_right))) (gd_some (by omega)))) rfl) ?_
    refine dr_light rfl rfl (wtd_none rfl) (x_indexAddrN (a + k) Try.underlying22 sz91 rfl rfl rfl (by omega) (by omega)) ?_
    refine dr_store0 rfl rfl (wtd_none rfl) (x_store sz91 rfl rfl rfl rfl rfl (by repeat (first | exact Repl.here | apply Repl.there | apply Repl.app)) (Sym.spl_flat0 (n := 10) (enc := Job.cells) (fun _ => rfl) (xs := cur) (post := post) (i := (a + k)) (x' := gd cur (k2 + k)) (by first | omega | (rw [List.length_set]; omega)))) (by first | rfl | simp [keys_append, keys_cons]) ?_
    refine dr_light rfl rfl (wtd_none rfl) (x_indexAddrN (k2 + k) Try.underlying22 sz91 rfl rfl rfl (by omega) (by omega)) ?_
    refine dr_store0 rfl rfl (wtd_none rfl) (x_store sz91 rfl rfl rfl rfl rfl (by repeat (first | exact Repl.here | apply Repl.there | apply Repl.app)) (Sym.spl_flat0 (n := 10) (enc := Job.cells) (fun _ => rfl) (xs := ((cur).set (a + k) (gd cur (k2 + k)))) (post := post) (i := (k2 + k)) (x' := gd cur (a + k)) (by first | omega | (rw [List.length_set]; omega)))) (by first | rfl | simp [keys_append, keys_cons]) ?_
    refine dr_nil0 ?_
    show AW _ _ _ _ _ _ _
    refine aw_region ?_
    refine sr_x rfl (wtd_none rfl) rfl (Rd.x (x_move rfl)) ?_
    refine sr_x rfl (wtd_none rfl) rfl (Rd.x (x_add' rfl rfl (i64w (by omega) (by omega)))) ?_
    refine sr_x rfl (wtd_none rfl) rfl (Rd.x (x_assign rfl)) ?_
    refine sr_nil ?_
    show ∃ s', _ ∧ _ ∧ _ ∧ _
    exact ⟨⟨k + 1, sw cur (a + k) (k2 + k)⟩, ⟨by dsimp only; omega, sw_len.trans hcl, hmv.sw (by omega) (by omega) (swF_step (by omega))⟩, by dsimp only; omega, (by (repeat (first | exact keep_nil | refine keep_cons rfl ?_)); first | done | fail), (by repeat (first | exact Sub.refl _ | refine Sub.take (by repeat (first | exact Take.here | apply Take.there | apply Take.app)) ?_ | refine Sub.takeE (by repeat (first | exact TakeE.here | apply TakeE.there | apply TakeE.app)) ?_ | exact Sub.nil _ | apply Sub.drop | apply Sub.dropE))⟩
  · refine sr_nil ?_
    refine aw_keep (keep_cons (t := 0) rfl (keep_cons (t := 1) rfl (keep_cons (t := 2) rfl (keep_cons (t := 3) rfl (keep_cons (t := 10) rfl (keep_cons (t := 11) rfl (keep_cons (t := 12) rfl (keep_cons (t := 13) rfl keep_nil)))))))) ?_
    refine aw_false rfl ?_
    refine aw_exit ?_
    show ∃ v H2, ResV _ _ _ _ _ _ v ∧ Sub H2 _ ∧ _
    (obtain rfl : k = n2 := (by omega)); exact ⟨_, _, resV rfl .nil, Sub.refl _, cur, hmv, rfl, rfl⟩
set_option maxRecDepth 100000 in
set_option maxHeartbeats 1000000 in
theorem jsRot_s (b cap n : Nat) (W : List Job) (post : List Value) (G : SHeap) (hl : W.length = n) (hn : n ≤ 100000) (hcap : n ≤ cap) (hcb : cap ≤ 9223372036854775807) (s m e : Nat) (h1 : s < m) (h2 : m < e) (h3 : e ≤ n) : AC Try.prog W0 180 [.slice (some ⟨b, 0, none⟩) n cap, .int .i64 s, .int .i64 m, .int .i64 e, .func (.func 143) #[] #[]] ((b, .cells ((W).flatMap Job.cells ++ post).toArray 91 (0, 0)) :: G) (fun v H' => ∃ W', Mv W (rotF s m e) W' ∧ v = .tuple #[] ∧ H' = (b, .cells ((W').flatMap Job.cells ++ post).toArray 91 (0, 0)) :: G) := by
  refine ac_of Try.func180 rfl rfl rfl ?_
  refine aw_seq_region ?_
  refine sr_x rfl (wtd_none rfl) rfl (Rd.x (x_move rfl)) ?_
  refine sr_x rfl (wtd_none rfl) rfl (Rd.x (x_move rfl)) ?_
  refine sr_x rfl (wtd_none rfl) rfl (Rd.x (x_cast (u := .int .i64 ((m - s : Nat) : Int)) (x_sub' rfl rfl (i64w (by omega) (by omega))) (by congr 1; omega))) ?_
  refine sr_x rfl (wtd_none rfl) rfl (Rd.x (x_assign rfl)) ?_
  refine sr_nil ?_
  refine aw_keep (keep_cons (t := 0) rfl (keep_cons (t := 2) rfl (keep_cons (t := 3) rfl (keep_cons (t := 4) rfl (keep_cons (t := 10) rfl keep_nil))))) ?_
  refine aw_seq_region ?_
  refine sr_x rfl (wtd_none rfl) rfl (Rd.x (x_move rfl)) ?_
  refine sr_x rfl (wtd_none rfl) rfl (Rd.x (x_move rfl)) ?_
  refine sr_x rfl (wtd_none rfl) rfl (Rd.x (x_cast (u := .int .i64 ((e - m : Nat) : Int)) (x_sub' rfl rfl (i64w (by omega) (by omega))) (by congr 1; omega))) ?_
  refine sr_x rfl (wtd_none rfl) rfl (Rd.x (x_assign rfl)) ?_
  refine sr_nil ?_
  refine aw_keep (keep_cons (t := 0) rfl (keep_cons (t := 2) rfl (keep_cons (t := 4) rfl (keep_cons (t := 10) rfl (keep_cons (t := 11) rfl keep_nil))))) ?_
  refine aw_seq ?_
  refine aw_block ?_
  refine aw_loop (ι := RotG Job) (fun s' => RotI W s m e s'.W s'.i s'.j) (fun s' => [(0, .slice (some ⟨b, 0, none⟩) n cap), (2, .int .i64 m), (4, .func (.func 143) #[] #[]), (10, .int .i64 s'.i), (11, .int .i64 s'.j)]) (fun s' => (b, .cells ((s'.W).flatMap Job.cells ++ post).toArray 91 (0, 0)) :: G) (fun s' => s'.i + s'.j) ⟨m - s, e - m, W⟩ (RotI.start h1 h2) (by (repeat (first | exact keep_nil | refine keep_cons rfl ?_)); first | done | fail) (by repeat (first | exact Sub.refl _ | refine Sub.take (by repeat (first | exact Take.here | apply Take.there | apply Take.app)) ?_ | refine Sub.takeE (by repeat (first | exact TakeE.here | apply TakeE.there | apply TakeE.app)) ?_ | exact Sub.nil _ | apply Sub.drop | apply Sub.dropE)) ?_
  intro s' hs9
  obtain ⟨i, j, cur⟩ := s'
  dsimp only at hs9 ⊢
  have hri := hs9
  obtain ⟨hcl, ⟨hb1, hb2, hb3, hb4⟩, -⟩ := hs9
  refine aw_seq ?_
  refine aw_seq_region ?_
  refine sr_x rfl (wtd_none rfl) rfl (Rd.x (x_move rfl)) ?_
  refine sr_x rfl (wtd_none rfl) rfl (Rd.x (x_move rfl)) ?_
  refine sr_cmp rfl (wtd_none rfl) rfl (Rd.x (x_ne rfl rfl)) (fun h1 => ?_) (fun h1 => ?_)
  · refine sr_nil ?_
    refine aw_keep (keep_cons (t := 0) rfl (keep_cons (t := 2) rfl (keep_cons (t := 4) rfl (keep_cons (t := 10) rfl (keep_cons (t := 11) rfl (keep_cons (t := 18) rfl (keep_cons (t := 19) rfl (keep_cons (t := 20) rfl keep_nil)))))))) ?_
    refine aw_true rfl ?_
    refine aw_skip ?_
    show AW _ _ _ _ _ _ _
    refine aw_block ?_
    refine aw_seq_region ?_
    refine sr_x rfl (wtd_none rfl) rfl (Rd.x (x_move rfl)) ?_
    refine sr_x rfl (wtd_none rfl) rfl (Rd.x (x_move rfl)) ?_
    refine sr_cmp rfl (wtd_none rfl) rfl (Rd.x (x_gt rfl rfl)) (fun h2 => ?_) (fun h2 => ?_)
    · refine sr_nil ?_
      refine aw_keep (keep_cons (t := 0) rfl (keep_cons (t := 2) rfl (keep_cons (t := 4) rfl (keep_cons (t := 10) rfl (keep_cons (t := 11) rfl (keep_cons (t := 18) rfl (keep_cons (t := 19) rfl (keep_cons (t := 20) rfl (keep_cons (t := 21) rfl (keep_cons (t := 22) rfl (keep_cons (t := 23) rfl keep_nil))))))))))) ?_
      refine aw_true rfl ?_
      refine aw_seq_region ?_
      refine sr_x rfl (wtd_none rfl) rfl (Rd.x (x_move rfl)) ?_
      refine sr_x rfl (wtd_none rfl) rfl (Rd.x (x_move rfl)) ?_
      refine sr_x rfl (wtd_none rfl) rfl (Rd.x (x_move rfl)) ?_
      refine sr_x rfl (wtd_none rfl) rfl (Rd.x (x_cast (u := .int .i64 ((m - i : Nat) : Int)) (x_sub' rfl rfl (i64w (by omega) (by omega))) (by congr 1; omega))) ?_
      refine sr_x rfl (wtd_none rfl) rfl (Rd.x (x_move rfl)) ?_
      refine sr_x rfl (wtd_none rfl) rfl (Rd.x (x_move rfl)) ?_
      refine sr_x rfl (wtd_none rfl) rfl (Rd.x (x_move rfl)) ?_
      refine sr_d rfl (wtd_none rfl) rfl (opS_call rfl rfl rfl rfl cl184 (AC.sub (by repeat (first | exact Sub.refl _ | refine Sub.take (by repeat (first | exact Take.here | apply Take.there | apply Take.app)) ?_ | refine Sub.takeE (by repeat (first | exact TakeE.here | apply TakeE.there | apply TakeE.app)) ?_ | exact Sub.nil _ | apply Sub.drop | apply Sub.dropE)) (jsSwr_s b cap n cur post G (by omega) hn hcap hcb (m - i) m j (by omega) (by omega)))) ?_
      rintro _ _ ⟨W9, hm9, rfl, rfl⟩
      refine sr_nil ?_
      refine aw_keep (keep_cons (t := 0) rfl (keep_cons (t := 2) rfl (keep_cons (t := 4) rfl (keep_cons (t := 10) rfl (keep_cons (t := 11) rfl (keep_cons (t := 18) rfl (keep_cons (t := 19) rfl (keep_cons (t := 20) rfl (keep_cons (t := 21) rfl (keep_cons (t := 22) rfl (keep_cons (t := 23) rfl (keep_cons (t := 24) rfl (keep_cons (t := 25) rfl (keep_cons (t := 26) rfl (keep_cons (t := 27) rfl (keep_cons (t := 28) rfl (keep_cons (t := 29) rfl (keep_cons (t := 30) rfl keep_nil)))))))))))))))))) ?_
      refine aw_region ?_
      refine sr_x rfl (wtd_none rfl) rfl (Rd.x (x_move rfl)) ?_
      refine sr_x rfl (wtd_none rfl) rfl (Rd.x (x_move rfl)) ?_
      refine sr_x rfl (wtd_none rfl) rfl (Rd.x (x_cast (u := .int .i64 ((i - j : Nat) : Int)) (x_sub' rfl rfl (i64w (by omega) (by omega))) (by congr 1; omega))) ?_
      refine sr_x rfl (wtd_none rfl) rfl (Rd.x (x_assign rfl)) ?_
      refine sr_nil ?_
      show ∃ s', _ ∧ _ ∧ _ ∧ _
      first | exact ⟨⟨i - j, j, W9⟩, hri.gt (by omega) hm9, by dsimp only; omega, (by (repeat (first | exact keep_nil | refine keep_cons rfl ?_)); first | done | fail), (by repeat (first | exact Sub.refl _ | refine Sub.take (by repeat (first | exact Take.here | apply Take.there | apply Take.app)) ?_ | refine Sub.takeE (by repeat (first | exact TakeE.here | apply TakeE.there | apply TakeE.app)) ?_ | exact Sub.nil _ | apply Sub.drop | apply Sub.dropE))⟩ | exact ⟨⟨i, j - i, W9⟩, hri.lt (by omega) hm9, by dsimp only; omega, (by (repeat (first | exact keep_nil | refine keep_cons rfl ?_)); first | done | fail), (by repeat (first | exact Sub.refl _ | refine Sub.take (by repeat (first | exact Take.here | apply Take.there | apply Take.app)) ?_ | refine Sub.takeE (by repeat (first | exact TakeE.here | apply TakeE.there | apply TakeE.app)) ?_ | exact Sub.nil _ | apply Sub.drop | apply Sub.dropE))⟩
    · refine sr_nil ?_
      refine aw_keep (keep_cons (t := 0) rfl (keep_cons (t := 2) rfl (keep_cons (t := 4) rfl (keep_cons (t := 10) rfl (keep_cons (t := 11) rfl (keep_cons (t := 18) rfl (keep_cons (t := 19) rfl (keep_cons (t := 20) rfl (keep_cons (t := 21) rfl (keep_cons (t := 22) rfl (keep_cons (t := 23) rfl keep_nil))))))))))) ?_
      refine aw_false rfl ?_
      refine aw_seq_region ?_
      refine sr_x rfl (wtd_none rfl) rfl (Rd.x (x_move rfl)) ?_
      refine sr_x rfl (wtd_none rfl) rfl (Rd.x (x_move rfl)) ?_
      refine sr_x rfl (wtd_none rfl) rfl (Rd.x (x_move rfl)) ?_
      refine sr_x rfl (wtd_none rfl) rfl (Rd.x (x_cast (u := .int .i64 ((m - i : Nat) : Int)) (x_sub' rfl rfl (i64w (by omega) (by omega))) (by congr 1; omega))) ?_
      refine sr_x rfl (wtd_none rfl) rfl (Rd.x (x_move rfl)) ?_
      refine sr_x rfl (wtd_none rfl) rfl (Rd.x (x_move rfl)) ?_
      refine sr_x rfl (wtd_none rfl) rfl (Rd.x (x_cast (u := .int .i64 ((m + j : Nat) : Int)) (x_add' rfl rfl (i64w (by omega) (by omega))) (by congr 1))) ?_
      refine sr_x rfl (wtd_none rfl) rfl (Rd.x (x_move rfl)) ?_
      refine sr_x rfl (wtd_none rfl) rfl (Rd.x (x_cast (u := .int .i64 ((m + j - i : Nat) : Int)) (x_sub' rfl rfl (i64w (by omega) (by omega))) (by congr 1; omega))) ?_
      refine sr_x rfl (wtd_none rfl) rfl (Rd.x (x_move rfl)) ?_
      refine sr_x rfl (wtd_none rfl) rfl (Rd.x (x_move rfl)) ?_
      refine sr_d rfl (wtd_none rfl) rfl (opS_call rfl rfl rfl rfl cl184 (AC.sub (by repeat (first | exact Sub.refl _ | refine Sub.take (by repeat (first | exact Take.here | apply Take.there | apply Take.app)) ?_ | refine Sub.takeE (by repeat (first | exact TakeE.here | apply TakeE.there | apply TakeE.app)) ?_ | exact Sub.nil _ | apply Sub.drop | apply Sub.dropE)) (jsSwr_s b cap n cur post G (by omega) hn hcap hcb (m - i) (m + j - i) i (by omega) (by omega)))) ?_
      rintro _ _ ⟨W9, hm9, rfl, rfl⟩
      refine sr_nil ?_
      refine aw_keep (keep_cons (t := 0) rfl (keep_cons (t := 2) rfl (keep_cons (t := 4) rfl (keep_cons (t := 10) rfl (keep_cons (t := 11) rfl (keep_cons (t := 18) rfl (keep_cons (t := 19) rfl (keep_cons (t := 20) rfl (keep_cons (t := 21) rfl (keep_cons (t := 22) rfl (keep_cons (t := 23) rfl (keep_cons (t := 35) rfl (keep_cons (t := 36) rfl (keep_cons (t := 37) rfl (keep_cons (t := 38) rfl (keep_cons (t := 39) rfl (keep_cons (t := 40) rfl (keep_cons (t := 41) rfl (keep_cons (t := 42) rfl (keep_cons (t := 43) rfl (keep_cons (t := 44) rfl (keep_cons (t := 45) rfl keep_nil)))))))))))))))))))))) ?_
      refine aw_region ?_
      refine sr_x rfl (wtd_none rfl) rfl (Rd.x (x_move rfl)) ?_
      refine sr_x rfl (wtd_none rfl) rfl (Rd.x (x_move rfl)) ?_
      refine sr_x rfl (wtd_none rfl) rfl (Rd.x (x_cast (u := .int .i64 ((j - i : Nat) : Int)) (x_sub' rfl rfl (i64w (by omega) (by omega))) (by congr 1; omega))) ?_
      refine sr_x rfl (wtd_none rfl) rfl (Rd.x (x_assign rfl)) ?_
      refine sr_nil ?_
      show ∃ s', _ ∧ _ ∧ _ ∧ _
      first | exact ⟨⟨i - j, j, W9⟩, hri.gt (by omega) hm9, by dsimp only; omega, (by (repeat (first | exact keep_nil | refine keep_cons rfl ?_)); first | done | fail), (by repeat (first | exact Sub.refl _ | refine Sub.take (by repeat (first | exact Take.here | apply Take.there | apply Take.app)) ?_ | refine Sub.takeE (by repeat (first | exact TakeE.here | apply TakeE.there | apply TakeE.app)) ?_ | exact Sub.nil _ | apply Sub.drop | apply Sub.dropE))⟩ | exact ⟨⟨i, j - i, W9⟩, hri.lt (by omega) hm9, by dsimp only; omega, (by (repeat (first | exact keep_nil | refine keep_cons rfl ?_)); first | done | fail), (by repeat (first | exact Sub.refl _ | refine Sub.take (by repeat (first | exact Take.here | apply Take.there | apply Take.app)) ?_ | refine Sub.takeE (by repeat (first | exact TakeE.here | apply TakeE.there | apply TakeE.app)) ?_ | exact Sub.nil _ | apply Sub.drop | apply Sub.dropE))⟩
  · refine sr_nil ?_
    refine aw_keep (keep_cons (t := 0) rfl (keep_cons (t := 2) rfl (keep_cons (t := 4) rfl (keep_cons (t := 10) rfl (keep_cons (t := 11) rfl (keep_cons (t := 18) rfl (keep_cons (t := 19) rfl (keep_cons (t := 20) rfl keep_nil)))))))) ?_
    refine aw_false rfl ?_
    refine aw_exit ?_
    show AW _ _ _ _ _ _ _
    refine aw_region ?_
    obtain rfl : i = j := by omega
    refine sr_x rfl (wtd_none rfl) rfl (Rd.x (x_move rfl)) ?_
    refine sr_x rfl (wtd_none rfl) rfl (Rd.x (x_move rfl)) ?_
    refine sr_x rfl (wtd_none rfl) rfl (Rd.x (x_move rfl)) ?_
    refine sr_x rfl (wtd_none rfl) rfl (Rd.x (x_cast (u := .int .i64 ((m - i : Nat) : Int)) (x_sub' rfl rfl (i64w (by omega) (by omega))) (by congr 1; omega))) ?_
    refine sr_x rfl (wtd_none rfl) rfl (Rd.x (x_move rfl)) ?_
    refine sr_x rfl (wtd_none rfl) rfl (Rd.x (x_move rfl)) ?_
    refine sr_x rfl (wtd_none rfl) rfl (Rd.x (x_move rfl)) ?_
    refine sr_d rfl (wtd_none rfl) rfl (opS_call rfl rfl rfl rfl cl184 (AC.sub (by repeat (first | exact Sub.refl _ | refine Sub.take (by repeat (first | exact Take.here | apply Take.there | apply Take.app)) ?_ | refine Sub.takeE (by repeat (first | exact TakeE.here | apply TakeE.there | apply TakeE.app)) ?_ | exact Sub.nil _ | apply Sub.drop | apply Sub.dropE)) (jsSwr_s b cap n cur post G (by omega) hn hcap hcb (m - i) m i (by omega) (by omega)))) ?_
    rintro _ _ ⟨W9, hm9, rfl, rfl⟩
    refine sr_nil ?_
    show ∃ v H2, ResV _ _ _ _ _ _ v ∧ Sub H2 _ ∧ _
    exact ⟨_, _, resV rfl .nil, Sub.refl _, W9, hri.eq hm9, rfl, rfl⟩
set_option maxRecDepth 100000 in
set_option maxHeartbeats 2000000 in
theorem jsIns_s (b cap n : Nat) (W : List Job) (post : List Value) (G : SHeap) (hl : W.length = n) (hn : n ≤ 100000) (hcap : n ≤ cap) (hcb : cap ≤ 9223372036854775807) (a e : Nat) (h1 : a ≤ e) (h2 : e ≤ n) (c : Job → Job → Int) (hcmp : ∀ x y V, Sub G V → AC Try.prog W0 143 [Job.v x, Job.v y] V (fun v H' => v = .int .i64 (c x y) ∧ H' = V)) (hsw : Swo c) : AC Try.prog W0 171 [.slice (some ⟨b, 0, none⟩) n cap, .int .i64 a, .int .i64 e, .func (.func 143) #[] #[]] ((b, .cells ((W).flatMap Job.cells ++ post).toArray 91 (0, 0)) :: G) (fun v H' => ∃ W', Mg c W a e W' ∧ v = .tuple #[] ∧ H' = (b, .cells ((W').flatMap Job.cells ++ post).toArray 91 (0, 0)) :: G) := by
  refine ac_of Try.func171 rfl rfl rfl ?_
  refine aw_seq_region ?_
  refine sr_x rfl (wtd_none rfl) rfl (Rd.x (x_move rfl)) ?_
  refine sr_x rfl (wtd_none rfl) rfl (Rd.x (x_add' rfl rfl (i64w (by omega) (by omega)))) ?_
  refine sr_x rfl (wtd_none rfl) rfl (Rd.x (x_assign rfl)) ?_
  refine sr_nil ?_
  refine aw_keep (keep_cons (t := 0) rfl (keep_cons (t := 1) rfl (keep_cons (t := 2) rfl (keep_cons (t := 3) rfl (keep_cons (t := 8) rfl keep_nil))))) ?_
  refine aw_block ?_
  refine aw_loop (ι := SortG Job) (fun s => a + 1 ≤ s.k ∧ (s.k ≤ e ∨ s.k = a + 1) ∧ s.W.length = n ∧ St c W s.W ∧ InR W a e s.W ∧ SrtI c s.W a s.k) (fun s => [(0, .slice (some ⟨b, 0, none⟩) n cap), (1, .int .i64 a), (2, .int .i64 e), (3, .func (.func 143) #[] #[]), (8, .int .i64 s.k)]) (fun s => (b, .cells ((s.W).flatMap Job.cells ++ post).toArray 91 (0, 0)) :: G) (fun s => e - s.k) ⟨a + 1, W⟩ (⟨Nat.le_refl _, .inr rfl, hl, St.refl _, InR.refl _ _ _, SrtI.one (Nat.le_refl _)⟩) (by (repeat (first | exact keep_nil | refine keep_cons rfl ?_)); first | done | fail) (by repeat (first | exact Sub.refl _ | refine Sub.take (by repeat (first | exact Take.here | apply Take.there | apply Take.app)) ?_ | refine Sub.takeE (by repeat (first | exact TakeE.here | apply TakeE.there | apply TakeE.app)) ?_ | exact Sub.nil _ | apply Sub.drop | apply Sub.dropE)) ?_
  intro s hs9
  obtain ⟨i, cur⟩ := s
  dsimp only at hs9 ⊢
  obtain ⟨hi1, hi2, hcl, hst, hin, hsr⟩ := hs9
  refine aw_seq ?_
  refine aw_seq_region ?_
  refine sr_x rfl (wtd_none rfl) rfl (Rd.x (x_move rfl)) ?_
  refine sr_x rfl (wtd_none rfl) rfl (Rd.x (x_move rfl)) ?_
  refine sr_cmp rfl (wtd_none rfl) rfl (Rd.x (x_lt rfl rfl)) (fun h1 => ?_) (fun h1 => ?_)
  · refine sr_nil ?_
    refine aw_keep (keep_cons (t := 0) rfl (keep_cons (t := 1) rfl (keep_cons (t := 2) rfl (keep_cons (t := 3) rfl (keep_cons (t := 8) rfl (keep_cons (t := 12) rfl (keep_cons (t := 13) rfl (keep_cons (t := 14) rfl keep_nil)))))))) ?_
    refine aw_true rfl ?_
    refine aw_skip ?_
    show AW _ _ _ _ _ _ _
    refine aw_seq ?_
    refine aw_block ?_
    refine aw_seq_region ?_
    refine sr_x rfl (wtd_none rfl) rfl (Rd.x (x_move rfl)) ?_
    refine sr_x rfl (wtd_none rfl) rfl (Rd.x (x_assign rfl)) ?_
    refine sr_nil ?_
    refine aw_keep (keep_cons (t := 0) rfl (keep_cons (t := 1) rfl (keep_cons (t := 2) rfl (keep_cons (t := 3) rfl (keep_cons (t := 8) rfl (keep_cons (t := 9) rfl (keep_cons (t := 12) rfl (keep_cons (t := 13) rfl (keep_cons (t := 14) rfl (keep_cons (t := 17) rfl keep_nil)))))))))) ?_
    refine aw_block ?_
    refine aw_loop (ι := SortG Job) (fun s => a ≤ s.k ∧ s.k ≤ i ∧ s.W.length = n ∧ Mv cur (rotF s.k i (i + 1)) s.W ∧ ∀ h, s.k ≤ h → h < i → c (gd cur i) (gd cur h) < 0) (fun s => [(0, .slice (some ⟨b, 0, none⟩) n cap), (1, .int .i64 a), (2, .int .i64 e), (3, .func (.func 143) #[] #[]), (8, .int .i64 i), (9, .int .i64 s.k)]) (fun s => (b, .cells ((s.W).flatMap Job.cells ++ post).toArray 91 (0, 0)) :: G) (fun s => s.k) ⟨i, cur⟩ (⟨by dsimp only; omega, Nat.le_refl _, hcl, Mv.refl _ (rotF_self i), fun h q1 q2 => by dsimp only at q1; omega⟩) (by (repeat (first | exact keep_nil | refine keep_cons rfl ?_)); first | done | fail) (by repeat (first | exact Sub.refl _ | refine Sub.take (by repeat (first | exact Take.here | apply Take.there | apply Take.app)) ?_ | refine Sub.takeE (by repeat (first | exact TakeE.here | apply TakeE.there | apply TakeE.app)) ?_ | exact Sub.nil _ | apply Sub.drop | apply Sub.dropE)) ?_
    intro s hs8
    obtain ⟨j, cur2⟩ := s
    dsimp only at hs8 ⊢
    obtain ⟨hj1, hj2, hcl2, hmv2, hlt2⟩ := hs8
    refine aw_seq ?_
    refine aw_seq_dr ⟨_, 17, 53, [[], [], [0, 1], [0, 1, 2], [0, 1, 2, 3], [0, 1, 2, 3], [0, 1, 2, 3], [0, 1, 2, 3, 5, 6], [0, 1, 2, 3, 5, 6, 7], [0, 1, 2, 3], [0, 1, 2, 3], [0, 1, 2, 3, 10], [0, 1, 2, 3, 9, 10, 11], [0, 1, 2, 3, 9, 10, 11, 12], [0, 1, 2, 3, 4, 5, 6, 7, 8, 9, 10, 11, 12, 13], [0, 1, 2, 3, 4, 5, 6, 7, 8, 9, 10, 11, 12, 13, 14], [0, 1, 2, 3, 4, 5, 6, 7, 8, 9, 10, 11, 12, 13, 14, 15]], [.light, .light, .light, .light, .light, .light, .light, .light, .mem, .light, .light, .light, .light, .mem, .call, .light, .light]⟩ (by kernel_rfl) rfl rfl mix ?_
    refine dr_light rfl rfl (wtd_none rfl) (x_move rfl) ?_
    refine dr_light rfl rfl (wtd_none rfl) (x_move rfl) ?_
    refine dr_cmp rfl rfl (wtd_none rfl) (x_gt rfl rfl) (fun h2 => ?_) (fun h2 => ?_)
    · refine dr_light rfl rfl (wtd_none rfl) (x_move rfl) ?_
      refine dr_light rfl rfl (wtd_yes rfl rfl rfl) (x_move rfl) ?_
      refine dr_light rfl rfl (wtd_yes rfl rfl rfl) (x_move rfl) ?_
      refine dr_light rfl rfl (wtd_yes rfl rfl rfl) (x_move rfl) ?_
      refine dr_light rfl rfl (wtd_yes rfl rfl rfl) (x_indexAddrN (j) Try.underlying22 sz91 rfl rfl rfl (by omega) (by omega)) ?_
      refine dr_mem0 rfl rfl (wtd_yes rfl rfl rfl) (x_loadN ag91 sz91 rfl ((cells_flat0 (n := 10) (enc := Job.cells) (fun _ => rfl) (xs := cur2) (post := post) (show (b, Obj.cells ((cur2).flatMap Job.cells ++ post).toArray 91 (0, 0)) ∈ _ from (by repeat (first | exact List.mem_cons_self | apply List.mem_cons_of_mem | apply List.mem_append_right))) (gd_some (by omega)))) rfl) ?_
      refine dr_light rfl rfl (wtd_yes rfl rfl rfl) (x_move rfl) ?_
      refine dr_light rfl rfl (wtd_yes rfl rfl rfl) (x_move rfl) ?_
      refine dr_light rfl rfl (wtd_yes rfl rfl rfl) (x_cast (u := .int .i64 ((j - 1 : Nat) : Int)) (x_sub' rfl rfl (i64w (by omega) (by omega))) (by congr 1; omega)) ?_
      refine dr_light rfl rfl (wtd_yes rfl rfl rfl) (x_indexAddrN (j - 1) Try.underlying22 sz91 rfl rfl rfl (by omega) (by omega)) ?_
      refine dr_mem0 rfl rfl (wtd_yes rfl rfl rfl) (x_loadN ag91 sz91 rfl ((cells_flat0 (n := 10) (enc := Job.cells) (fun _ => rfl) (xs := cur2) (post := post) (show (b, Obj.cells ((cur2).flatMap Job.cells ++ post).toArray 91 (0, 0)) ∈ _ from (by repeat (first | exact List.mem_cons_self | apply List.mem_cons_of_mem | apply List.mem_append_right))) (gd_some (by omega)))) rfl) ?_
      refine dr_callq0 rfl rfl (wtd_yes rfl rfl rfl) (opS_F rfl rfl rfl rfl cl143 ((hcmp (gd cur2 j) (gd cur2 (j - 1)) _ (by repeat (first | exact Sub.refl _ | apply Sub.drop | apply Sub.dropE))))) (⟨_, rfl⟩) ?_
      rintro _ rfl
      refine dr_cmp rfl rfl (wtd_yes rfl rfl rfl) (x_lt rfl rfl) (fun h3 => ?_) (fun h3 => ?_)
      · refine dr_light rfl rfl (wtd_none rfl) (x_pick_t rfl rfl rfl) ?_
        refine dr_nil0 ?_
        refine aw_keep (keep_cons (t := 0) rfl (keep_cons (t := 1) rfl (keep_cons (t := 2) rfl (keep_cons (t := 3) rfl (keep_cons (t := 8) rfl (keep_cons (t := 9) rfl (keep_cons (t := 18) rfl (keep_cons (t := 19) rfl (keep_cons (t := 20) rfl (keep_cons (t := 21) rfl (keep_cons (t := 22) rfl (keep_cons (t := 23) rfl (keep_cons (t := 24) rfl (keep_cons (t := 25) rfl (keep_cons (t := 26) rfl (keep_cons (t := 27) rfl (keep_cons (t := 28) rfl (keep_cons (t := 29) rfl (keep_cons (t := 30) rfl (keep_cons (t := 31) rfl (keep_cons (t := 32) rfl (keep_cons (t := 33) rfl (keep_cons (t := 34) rfl keep_nil))))))))))))))))))))))) ?_
        refine aw_true rfl ?_
        refine aw_skip ?_
        show AW _ _ _ _ _ _ _
        refine aw_seq ?_
        refine aw_block ?_
        refine aw_dr ⟨_, 18, 53, [[], [], [], [], [3], [], [], [6], [5, 6, 7], [5, 6, 7, 8], [], [], [10, 11], [10, 11, 12], [0, 1, 5, 6, 7, 8, 9, 10, 11, 12, 13], [0, 1, 5, 6, 7, 8, 9, 10, 11, 12, 13, 14], [0, 1, 2, 3, 4, 5, 6, 7, 8, 9, 10, 11, 12, 13, 14, 15], [0, 1, 2, 3, 4, 5, 6, 7, 8, 9, 10, 11, 12, 13, 14, 15, 16]], [.light, .light, .light, .light, .light, .light, .light, .light, .light, .mem, .light, .light, .light, .mem, .light, .eff, .light, .eff]⟩ (by kernel_rfl) rfl rfl mix ?_
        refine dr_light rfl rfl (wtd_none rfl) (x_move rfl) ?_
        refine dr_light rfl rfl (wtd_none rfl) (x_move rfl) ?_
        refine dr_light rfl rfl (wtd_none rfl) (x_move rfl) ?_
        refine dr_light rfl rfl (wtd_none rfl) (x_move rfl) ?_
        refine dr_light rfl rfl (wtd_none rfl) (x_cast (u := .int .i64 ((j - 1 : Nat) : Int)) (x_sub' rfl rfl (i64w (by omega) (by omega))) (by congr 1; omega)) ?_
        refine dr_light rfl rfl (wtd_none rfl) (x_move rfl) ?_
        refine dr_light rfl rfl (wtd_none rfl) (x_move rfl) ?_
        refine dr_light rfl rfl (wtd_none rfl) (x_cast (u := .int .i64 ((j - 1 : Nat) : Int)) (x_sub' rfl rfl (i64w (by omega) (by omega))) (by congr 1; omega)) ?_
        refine dr_light rfl rfl (wtd_none rfl) (x_indexAddrN (j - 1) Try.underlying22 sz91 rfl rfl rfl (by omega) (by omega)) ?_
        refine dr_mem0 rfl rfl (wtd_none rfl) (x_loadN ag91 sz91 rfl ((cells_flat0 (n := 10) (enc := Job.cells) (fun _ => rfl) (xs := cur2) (post := post) (show (b, Obj.cells ((cur2).flatMap Job.cells ++ post).toArray 91 (0, 0)) ∈ _ from (by repeat (first | exact List.mem_cons_self | apply List.mem_cons_of_mem | apply List.mem_append_right))) (gd_some (by omega)))) rfl) ?_
        refine dr_light rfl rfl (wtd_none rfl) (x_move rfl) ?_
        refine dr_light rfl rfl (wtd_none rfl) (x_move rfl) ?_
        refine dr_light rfl rfl (wtd_none rfl) (x_indexAddrN (j) Try.underlying22 sz91 rfl rfl rfl (by omega) (by omega)) ?_
        refine dr_mem0 rfl rfl (wtd_none rfl) (x_loadN ag91 sz91 rfl ((cells_flat0 (n := 10) (enc := Job.cells) (fun _ => rfl) (xs := cur2) (post := post) (show (b, Obj.cells ((cur2).flatMap Job.cells ++ post).toArray 91 (0, 0)) ∈ _ from (by repeat (first | exact List.mem_cons_self | apply List.mem_cons_of_mem | apply List.mem_append_right))) (gd_some (by omega)))) rfl) ?_
        refine dr_light rfl rfl (wtd_none rfl) (x_indexAddrN (j) Try.underlying22 sz91 rfl rfl rfl (by omega) (by omega)) ?_
        refine dr_store0 rfl rfl (wtd_none rfl) (x_store sz91 rfl rfl rfl rfl rfl (by repeat (first | exact Repl.here | apply Repl.there | apply Repl.app)) (Sym.spl_flat0 (n := 10) (enc := Job.cells) (fun _ => rfl) (xs := cur2) (post := post) (i := (j)) (x' := gd cur2 (j - 1)) (by first | omega | (rw [List.length_set]; omega)))) (by first | rfl | simp [keys_append, keys_cons]) ?_
        refine dr_light rfl rfl (wtd_none rfl) (x_indexAddrN (j - 1) Try.underlying22 sz91 rfl rfl rfl (by omega) (by omega)) ?_
        refine dr_store0 rfl rfl (wtd_none rfl) (x_store sz91 rfl rfl rfl rfl rfl (by repeat (first | exact Repl.here | apply Repl.there | apply Repl.app)) (Sym.spl_flat0 (n := 10) (enc := Job.cells) (fun _ => rfl) (xs := ((cur2).set (j) (gd cur2 (j - 1)))) (post := post) (i := (j - 1)) (x' := gd cur2 (j)) (by first | omega | (rw [List.length_set]; omega)))) (by first | rfl | simp [keys_append, keys_cons]) ?_
        refine dr_nil0 ?_
        show AW _ _ _ _ _ _ _
        refine aw_region ?_
        refine sr_x rfl (wtd_none rfl) rfl (Rd.x (x_move rfl)) ?_
        refine sr_x rfl (wtd_none rfl) rfl (Rd.x (x_cast (u := .int .i64 ((j - 1 : Nat) : Int)) (x_sub' rfl rfl (i64w (by omega) (by omega))) (by congr 1; omega))) ?_
        refine sr_x rfl (wtd_none rfl) rfl (Rd.x (x_assign rfl)) ?_
        refine sr_nil ?_
        show ∃ s', _ ∧ _ ∧ _ ∧ _
        exact ⟨⟨j - 1, sw cur2 j (j - 1)⟩, ⟨by dsimp only; omega, by dsimp only; omega, sw_len.trans hcl2, insr_step (by omega) hj2 (by omega) hlt2 hmv2 (by assumption)⟩, by dsimp only; omega, (by (repeat (first | exact keep_nil | refine keep_cons rfl ?_)); first | done | fail), (by repeat (first | exact Sub.refl _ | refine Sub.take (by repeat (first | exact Take.here | apply Take.there | apply Take.app)) ?_ | refine Sub.takeE (by repeat (first | exact TakeE.here | apply TakeE.there | apply TakeE.app)) ?_ | exact Sub.nil _ | apply Sub.drop | apply Sub.dropE))⟩
      · refine dr_light rfl rfl (wtd_none rfl) (x_pick_t rfl rfl rfl) ?_
        refine dr_nil0 ?_
        refine aw_keep (keep_cons (t := 0) rfl (keep_cons (t := 1) rfl (keep_cons (t := 2) rfl (keep_cons (t := 3) rfl (keep_cons (t := 8) rfl (keep_cons (t := 9) rfl (keep_cons (t := 18) rfl (keep_cons (t := 19) rfl (keep_cons (t := 20) rfl (keep_cons (t := 21) rfl (keep_cons (t := 22) rfl (keep_cons (t := 23) rfl (keep_cons (t := 24) rfl (keep_cons (t := 25) rfl (keep_cons (t := 26) rfl (keep_cons (t := 27) rfl (keep_cons (t := 28) rfl (keep_cons (t := 29) rfl (keep_cons (t := 30) rfl (keep_cons (t := 31) rfl (keep_cons (t := 32) rfl (keep_cons (t := 33) rfl (keep_cons (t := 34) rfl keep_nil))))))))))))))))))))))) ?_
        refine aw_false rfl ?_
        refine aw_exit ?_
        show AW _ _ _ _ _ _ _
        refine aw_region ?_
        refine sr_x rfl (wtd_none rfl) rfl (Rd.x (x_move rfl)) ?_
        refine sr_x rfl (wtd_none rfl) rfl (Rd.x (x_add' rfl rfl (i64w (by omega) (by omega)))) ?_
        refine sr_x rfl (wtd_none rfl) rfl (Rd.x (x_assign rfl)) ?_
        refine sr_nil ?_
        show ∃ s', _ ∧ _ ∧ _ ∧ _
        first | exact ⟨⟨i + 1, cur2⟩, ⟨by dsimp only; omega, .inl (by dsimp only; omega), hcl2, hst.trans (insr_end hsw hj1 hj2 (by omega) hsr hlt2 hmv2 (fun _ => by assumption)).1, hin.trans ((insr_end hsw hj1 hj2 (by omega) hsr hlt2 hmv2 (fun _ => by assumption)).2.1.wide (Nat.le_refl _) (by omega)), (insr_end hsw hj1 hj2 (by omega) hsr hlt2 hmv2 (fun _ => by assumption)).2.2⟩, by dsimp only; omega, (by (repeat (first | exact keep_nil | refine keep_cons rfl ?_)); first | done | fail), (by repeat (first | exact Sub.refl _ | refine Sub.take (by repeat (first | exact Take.here | apply Take.there | apply Take.app)) ?_ | refine Sub.takeE (by repeat (first | exact TakeE.here | apply TakeE.there | apply TakeE.app)) ?_ | exact Sub.nil _ | apply Sub.drop | apply Sub.dropE))⟩ | exact ⟨⟨i + 1, cur2⟩, ⟨by dsimp only; omega, .inl (by dsimp only; omega), hcl2, hst.trans (insr_end hsw hj1 hj2 (by omega) hsr hlt2 hmv2 (fun h => by omega)).1, hin.trans ((insr_end hsw hj1 hj2 (by omega) hsr hlt2 hmv2 (fun h => by omega)).2.1.wide (Nat.le_refl _) (by omega)), (insr_end hsw hj1 hj2 (by omega) hsr hlt2 hmv2 (fun h => by omega)).2.2⟩, by dsimp only; omega, (by (repeat (first | exact keep_nil | refine keep_cons rfl ?_)); first | done | fail), (by repeat (first | exact Sub.refl _ | refine Sub.take (by repeat (first | exact Take.here | apply Take.there | apply Take.app)) ?_ | refine Sub.takeE (by repeat (first | exact TakeE.here | apply TakeE.there | apply TakeE.app)) ?_ | exact Sub.nil _ | apply Sub.drop | apply Sub.dropE))⟩
    · refine dr_light rfl rfl (wtd_none rfl) (x_move rfl) ?_
      refine dr_skip rfl (wtd_no rfl rfl rfl rfl) ?_
      refine dr_skip rfl (wtd_no rfl rfl rfl rfl) ?_
      refine dr_skip rfl (wtd_no rfl rfl rfl rfl) ?_
      refine dr_skip rfl (wtd_no rfl rfl rfl rfl) ?_
      refine dr_skip rfl (wtd_no rfl rfl rfl rfl) ?_
      refine dr_skip rfl (wtd_no rfl rfl rfl rfl) ?_
      refine dr_skip rfl (wtd_no rfl rfl rfl rfl) ?_
      refine dr_skip rfl (wtd_no rfl rfl rfl rfl) ?_
      refine dr_skip rfl (wtd_no rfl rfl rfl rfl) ?_
      refine dr_skip rfl (wtd_no rfl rfl rfl rfl) ?_
      refine dr_skip rfl (wtd_no rfl rfl rfl rfl) ?_
      refine dr_skip rfl (wtd_no rfl rfl rfl rfl) ?_
      refine dr_light rfl rfl (wtd_none rfl) (x_pick_f rfl rfl rfl) ?_
      refine dr_nil0 ?_
      refine aw_keep (keep_cons (t := 0) rfl (keep_cons (t := 1) rfl (keep_cons (t := 2) rfl (keep_cons (t := 3) rfl (keep_cons (t := 8) rfl (keep_cons (t := 9) rfl (keep_cons (t := 18) rfl (keep_cons (t := 19) rfl (keep_cons (t := 20) rfl (keep_cons (t := 21) rfl (keep_cons (t := 22) rfl (keep_cons (t := 23) rfl (keep_cons (t := 24) rfl (keep_cons (t := 25) rfl (keep_cons (t := 26) rfl (keep_cons (t := 27) rfl (keep_cons (t := 28) rfl (keep_cons (t := 29) rfl (keep_cons (t := 30) rfl (keep_cons (t := 31) rfl (keep_cons (t := 32) rfl (keep_cons (t := 33) rfl (keep_cons (t := 34) rfl keep_nil))))))))))))))))))))))) ?_
      refine aw_false rfl ?_
      refine aw_exit ?_
      show AW _ _ _ _ _ _ _
      refine aw_region ?_
      refine sr_x rfl (wtd_none rfl) rfl (Rd.x (x_move rfl)) ?_
      refine sr_x rfl (wtd_none rfl) rfl (Rd.x (x_add' rfl rfl (i64w (by omega) (by omega)))) ?_
      refine sr_x rfl (wtd_none rfl) rfl (Rd.x (x_assign rfl)) ?_
      refine sr_nil ?_
      show ∃ s', _ ∧ _ ∧ _ ∧ _
      first | exact ⟨⟨i + 1, cur2⟩, ⟨by dsimp only; omega, .inl (by dsimp only; omega), hcl2, hst.trans (insr_end hsw hj1 hj2 (by omega) hsr hlt2 hmv2 (fun _ => by assumption)).1, hin.trans ((insr_end hsw hj1 hj2 (by omega) hsr hlt2 hmv2 (fun _ => by assumption)).2.1.wide (Nat.le_refl _) (by omega)), (insr_end hsw hj1 hj2 (by omega) hsr hlt2 hmv2 (fun _ => by assumption)).2.2⟩, by dsimp only; omega, (by (repeat (first | exact keep_nil | refine keep_cons rfl ?_)); first | done | fail), (by repeat (first | exact Sub.refl _ | refine Sub.take (by repeat (first | exact Take.here | apply Take.there | apply Take.app)) ?_ | refine Sub.takeE (by repeat (first | exact TakeE.here | apply TakeE.there | apply TakeE.app)) ?_ | exact Sub.nil _ | apply Sub.drop | apply Sub.dropE))⟩ | exact ⟨⟨i + 1, cur2⟩, ⟨by dsimp only; omega, .inl (by dsimp only; omega), hcl2, hst.trans (insr_end hsw hj1 hj2 (by omega) hsr hlt2 hmv2 (fun h => by omega)).1, hin.trans ((insr_end hsw hj1 hj2 (by omega) hsr hlt2 hmv2 (fun h => by omega)).2.1.wide (Nat.le_refl _) (by omega)), (insr_end hsw hj1 hj2 (by omega) hsr hlt2 hmv2 (fun h => by omega)).2.2⟩, by dsimp only; omega, (by (repeat (first | exact keep_nil | refine keep_cons rfl ?_)); first | done | fail), (by repeat (first | exact Sub.refl _ | refine Sub.take (by repeat (first | exact Take.here | apply Take.there | apply Take.app)) ?_ | refine Sub.takeE (by repeat (first | exact TakeE.here | apply TakeE.there | apply TakeE.app)) ?_ | exact Sub.nil _ | apply Sub.drop | apply Sub.dropE))⟩
  · refine sr_nil ?_
    refine aw_keep (keep_cons (t := 0) rfl (keep_cons (t := 1) rfl (keep_cons (t := 2) rfl (keep_cons (t := 3) rfl (keep_cons (t := 8) rfl (keep_cons (t := 12) rfl (keep_cons (t := 13) rfl (keep_cons (t := 14) rfl keep_nil)))))))) ?_
    refine aw_false rfl ?_
    refine aw_exit ?_
    show ∃ v H2, ResV _ _ _ _ _ _ v ∧ Sub H2 _ ∧ _
    exact ⟨_, _, resV rfl .nil, Sub.refl _, cur, ⟨hst, hin, hsr.up (by omega)⟩, rfl, rfl⟩
set_option maxRecDepth 100000 in
set_option maxHeartbeats 8000000 in
theorem jsSmW_s (b cap n : Nat) (W : List Job) (post : List Value) (G : SHeap) (hl : W.length = n) (hn : n ≤ 100000) (hcap : n ≤ cap) (hcb : cap ≤ 9223372036854775807) (a m e : Nat) (h1 : a < m) (h2 : m < e) (h3 : e ≤ n) (c : Job → Job → Int) (hcmp : ∀ x y V, Sub G V → AC Try.prog W0 143 [Job.v x, Job.v y] V (fun v H' => v = .int .i64 (c x y) ∧ H' = V)) (hsw : Swo c) (hA : SrtI c W a m) (hB : SrtI c W m e) (ih : ∀ (W1 : List Job) (a1 m1 e1 : Nat), W1.length = n → e1 - a1 < e - a → a1 < m1 → m1 < e1 → e1 ≤ n → SrtI c W1 a1 m1 → SrtI c W1 m1 e1 → AC Try.prog W0 172 [.slice (some ⟨b, 0, none⟩) n cap, .int .i64 (a1 : Nat), .int .i64 (m1 : Nat), .int .i64 (e1 : Nat), .func (.func 143) #[] #[]] ((b, .cells ((W1).flatMap Job.cells ++ post).toArray 91 (0, 0)) :: G) (fun v H' => ∃ W', Mg c W1 a1 e1 W' ∧ v = .tuple #[] ∧ H' = (b, .cells ((W').flatMap Job.cells ++ post).toArray 91 (0, 0)) :: G)) : AC Try.prog W0 172 [.slice (some ⟨b, 0, none⟩) n cap, .int .i64 a, .int .i64 m, .int .i64 e, .func (.func 143) #[] #[]] ((b, .cells ((W).flatMap Job.cells ++ post).toArray 91 (0, 0)) :: G) (fun v H' => ∃ W', Mg c W a e W' ∧ v = .tuple #[] ∧ H' = (b, .cells ((W').flatMap Job.cells ++ post).toArray 91 (0, 0)) :: G) := by
  refine ac_of Try.func172 rfl rfl rfl ?_
  refine aw_seq ?_
  refine aw_seq_region ?_
  refine sr_x rfl (wtd_none rfl) rfl (Rd.x (x_move rfl)) ?_
  refine sr_x rfl (wtd_none rfl) rfl (Rd.x (x_move rfl)) ?_
  refine sr_x rfl (wtd_none rfl) rfl (Rd.x (x_sub' rfl rfl (i64w (by omega) (by omega)))) ?_
  refine sr_cmp rfl (wtd_none rfl) rfl (Rd.x (x_eq rfl rfl)) (fun h1 => ?_) (fun h1 => ?_)
  · refine sr_nil ?_
    refine aw_keep (keep_cons (t := 0) rfl (keep_cons (t := 1) rfl (keep_cons (t := 2) rfl (keep_cons (t := 3) rfl (keep_cons (t := 4) rfl (keep_cons (t := 28) rfl keep_nil)))))) ?_
    refine aw_true rfl ?_
    refine aw_seq_region ?_
    refine sr_x rfl (wtd_none rfl) rfl (Rd.x (x_move rfl)) ?_
    refine sr_x rfl (wtd_none rfl) rfl (Rd.x (x_assign rfl)) ?_
    refine sr_nil ?_
    refine aw_keep (keep_cons (t := 0) rfl (keep_cons (t := 1) rfl (keep_cons (t := 2) rfl (keep_cons (t := 3) rfl (keep_cons (t := 4) rfl (keep_cons (t := 10) rfl keep_nil)))))) ?_
    refine aw_seq_region ?_
    refine sr_x rfl (wtd_none rfl) rfl (Rd.x (x_move rfl)) ?_
    refine sr_x rfl (wtd_none rfl) rfl (Rd.x (x_assign rfl)) ?_
    refine sr_nil ?_
    refine aw_keep (keep_cons (t := 0) rfl (keep_cons (t := 1) rfl (keep_cons (t := 2) rfl (keep_cons (t := 3) rfl (keep_cons (t := 4) rfl (keep_cons (t := 10) rfl (keep_cons (t := 11) rfl keep_nil))))))) ?_
    refine aw_seq ?_
    refine aw_block ?_
    refine aw_loop (ι := SeaG) (fun s => Sea (fun h => ¬ c (gd W h) (gd W a) < 0) m e s.i s.j) (fun s => [(0, .slice (some ⟨b, 0, none⟩) n cap), (1, .int .i64 a), (4, .func (.func 143) #[] #[]), (10, .int .i64 s.i), (11, .int .i64 s.j)]) (fun _ => (b, .cells ((W).flatMap Job.cells ++ post).toArray 91 (0, 0)) :: G) (fun s => s.j - s.i) ⟨m, e⟩ (Sea.start (by omega)) (by (repeat (first | exact keep_nil | refine keep_cons rfl ?_)); first | done | fail) (by repeat (first | exact Sub.refl _ | refine Sub.take (by repeat (first | exact Take.here | apply Take.there | apply Take.app)) ?_ | refine Sub.takeE (by repeat (first | exact TakeE.here | apply TakeE.there | apply TakeE.app)) ?_ | exact Sub.nil _ | apply Sub.drop | apply Sub.dropE)) ?_
    intro s hs9
    obtain ⟨i, j⟩ := s
    dsimp only at hs9 ⊢
    have hse := hs9
    obtain ⟨hb1, hb2, hb3, hb4, hb5⟩ := hs9
    refine aw_seq ?_
    refine aw_seq_region ?_
    refine sr_x rfl (wtd_none rfl) rfl (Rd.x (x_move rfl)) ?_
    refine sr_x rfl (wtd_none rfl) rfl (Rd.x (x_move rfl)) ?_
    refine sr_cmp rfl (wtd_none rfl) rfl (Rd.x (x_lt rfl rfl)) (fun h2 => ?_) (fun h2 => ?_)
    · refine sr_nil ?_
      refine aw_keep (keep_cons (t := 0) rfl (keep_cons (t := 1) rfl (keep_cons (t := 4) rfl (keep_cons (t := 10) rfl (keep_cons (t := 11) rfl (keep_cons (t := 31) rfl (keep_cons (t := 32) rfl (keep_cons (t := 33) rfl keep_nil)))))))) ?_
      refine aw_true rfl ?_
      refine aw_skip ?_
      show AW _ _ _ _ _ _ _
      refine aw_block ?_
      refine aw_seq_region ?_
      refine sr_x rfl (wtd_none rfl) rfl (Rd.x (x_move rfl)) ?_
      refine sr_x rfl (wtd_none rfl) rfl (Rd.x (x_move rfl)) ?_
      refine sr_x rfl (wtd_none rfl) rfl (Rd.x (x_add' rfl rfl (i64w (by omega) (by omega)))) ?_
      refine sr_x rfl (wtd_none rfl) rfl (Rd.x (x_conv' Try.underlying3 Try.underlying207 rfl (u64w (by omega) (by omega)))) ?_
      refine sr_x rfl (wtd_none rfl) rfl (Rd.x (x_cast (x_shr rfl rfl (by omega)) (shrH (i) (j)))) ?_
      refine sr_x rfl (wtd_none rfl) rfl (Rd.x (x_conv' Try.underlying207 Try.underlying3 rfl (i64w (by omega) (by omega)))) ?_
      refine sr_x rfl (wtd_none rfl) rfl (Rd.x (x_assign rfl)) ?_
      refine sr_nil ?_
      refine aw_keep (keep_cons (t := 0) rfl (keep_cons (t := 1) rfl (keep_cons (t := 4) rfl (keep_cons (t := 10) rfl (keep_cons (t := 11) rfl (keep_cons (t := 12) rfl (keep_cons (t := 31) rfl (keep_cons (t := 32) rfl (keep_cons (t := 33) rfl (keep_cons (t := 34) rfl (keep_cons (t := 35) rfl (keep_cons (t := 36) rfl (keep_cons (t := 37) rfl (keep_cons (t := 38) rfl (keep_cons (t := 39) rfl keep_nil))))))))))))))) ?_
      refine aw_seq_dr ⟨_, 11, 220, [[], [], [], [1, 2], [1, 2, 3], [], [], [5, 6], [5, 6, 7], [0, 1, 2, 3, 4, 5, 6, 7, 8], [0, 1, 2, 3, 4, 5, 6, 7, 8, 9]], [.light, .light, .light, .light, .mem, .light, .light, .light, .mem, .call, .light]⟩ (by kernel_rfl) rfl rfl mix ?_
      refine dr_light rfl rfl (wtd_none rfl) (x_move rfl) ?_
      refine dr_light rfl rfl (wtd_none rfl) (x_move rfl) ?_
      refine dr_light rfl rfl (wtd_none rfl) (x_move rfl) ?_
      refine dr_light rfl rfl (wtd_none rfl) (x_indexAddrN ((i + j) / 2) Try.underlying22 sz91 rfl rfl rfl (by omega) (by omega)) ?_
      refine dr_mem0 rfl rfl (wtd_none rfl) (x_loadN ag91 sz91 rfl ((cells_flat0 (n := 10) (enc := Job.cells) (fun _ => rfl) (xs := W) (post := post) (show (b, Obj.cells ((W).flatMap Job.cells ++ post).toArray 91 (0, 0)) ∈ _ from (by repeat (first | exact List.mem_cons_self | apply List.mem_cons_of_mem | apply List.mem_append_right))) (gd_some (by omega)))) rfl) ?_
      refine dr_light rfl rfl (wtd_none rfl) (x_move rfl) ?_
      refine dr_light rfl rfl (wtd_none rfl) (x_move rfl) ?_
      refine dr_light rfl rfl (wtd_none rfl) (x_indexAddrN (a) Try.underlying22 sz91 rfl rfl rfl (by omega) (by omega)) ?_
      refine dr_mem0 rfl rfl (wtd_none rfl) (x_loadN ag91 sz91 rfl ((cells_flat0 (n := 10) (enc := Job.cells) (fun _ => rfl) (xs := W) (post := post) (show (b, Obj.cells ((W).flatMap Job.cells ++ post).toArray 91 (0, 0)) ∈ _ from (by repeat (first | exact List.mem_cons_self | apply List.mem_cons_of_mem | apply List.mem_append_right))) (gd_some (by omega)))) rfl) ?_
      refine dr_callq0 rfl rfl (wtd_none rfl) (opS_F rfl rfl rfl rfl cl143 ((hcmp (gd W ((i + j) / 2)) (gd W a) _ (by repeat (first | exact Sub.refl _ | apply Sub.drop | apply Sub.dropE))))) (⟨_, rfl⟩) ?_
      rintro _ rfl
      refine dr_cmp rfl rfl (wtd_none rfl) (x_lt rfl rfl) (fun h3 => ?_) (fun h3 => ?_)
      · refine dr_nil0 ?_
        refine aw_keep (keep_cons (t := 0) rfl (keep_cons (t := 1) rfl (keep_cons (t := 4) rfl (keep_cons (t := 10) rfl (keep_cons (t := 11) rfl (keep_cons (t := 12) rfl (keep_cons (t := 31) rfl (keep_cons (t := 32) rfl (keep_cons (t := 33) rfl (keep_cons (t := 34) rfl (keep_cons (t := 35) rfl (keep_cons (t := 36) rfl (keep_cons (t := 37) rfl (keep_cons (t := 38) rfl (keep_cons (t := 39) rfl (keep_cons (t := 40) rfl (keep_cons (t := 41) rfl (keep_cons (t := 42) rfl (keep_cons (t := 43) rfl (keep_cons (t := 44) rfl (keep_cons (t := 45) rfl (keep_cons (t := 46) rfl (keep_cons (t := 47) rfl (keep_cons (t := 48) rfl (keep_cons (t := 49) rfl (keep_cons (t := 50) rfl keep_nil)))))))))))))))))))))))))) ?_
        refine aw_true rfl ?_
        refine aw_region ?_
        refine sr_x rfl (wtd_none rfl) rfl (Rd.x (x_move rfl)) ?_
        refine sr_x rfl (wtd_none rfl) rfl (Rd.x (x_add' rfl rfl (i64w (by omega) (by omega)))) ?_
        refine sr_x rfl (wtd_none rfl) rfl (Rd.x (x_assign rfl)) ?_
        refine sr_nil ?_
        show ∃ s', _ ∧ _ ∧ _ ∧ _
        first | exact ⟨⟨(i + j) / 2 + 1, j⟩, hse.right (mono_up hsw hB) (by omega) (fun h => h (by assumption)), by dsimp only; omega, (by (repeat (first | exact keep_nil | refine keep_cons rfl ?_)); first | done | fail), (by repeat (first | exact Sub.refl _ | refine Sub.take (by repeat (first | exact Take.here | apply Take.there | apply Take.app)) ?_ | refine Sub.takeE (by repeat (first | exact TakeE.here | apply TakeE.there | apply TakeE.app)) ?_ | exact Sub.nil _ | apply Sub.drop | apply Sub.dropE))⟩ | exact ⟨⟨i, (i + j) / 2⟩, hse.left (mono_up hsw hB) (by omega) (by assumption), by dsimp only; omega, (by (repeat (first | exact keep_nil | refine keep_cons rfl ?_)); first | done | fail), (by repeat (first | exact Sub.refl _ | refine Sub.take (by repeat (first | exact Take.here | apply Take.there | apply Take.app)) ?_ | refine Sub.takeE (by repeat (first | exact TakeE.here | apply TakeE.there | apply TakeE.app)) ?_ | exact Sub.nil _ | apply Sub.drop | apply Sub.dropE))⟩
      · refine dr_nil0 ?_
        refine aw_keep (keep_cons (t := 0) rfl (keep_cons (t := 1) rfl (keep_cons (t := 4) rfl (keep_cons (t := 10) rfl (keep_cons (t := 11) rfl (keep_cons (t := 12) rfl (keep_cons (t := 31) rfl (keep_cons (t := 32) rfl (keep_cons (t := 33) rfl (keep_cons (t := 34) rfl (keep_cons (t := 35) rfl (keep_cons (t := 36) rfl (keep_cons (t := 37) rfl (keep_cons (t := 38) rfl (keep_cons (t := 39) rfl (keep_cons (t := 40) rfl (keep_cons (t := 41) rfl (keep_cons (t := 42) rfl (keep_cons (t := 43) rfl (keep_cons (t := 44) rfl (keep_cons (t := 45) rfl (keep_cons (t := 46) rfl (keep_cons (t := 47) rfl (keep_cons (t := 48) rfl (keep_cons (t := 49) rfl (keep_cons (t := 50) rfl keep_nil)))))))))))))))))))))))))) ?_
        refine aw_false rfl ?_
        refine aw_region ?_
        refine sr_x rfl (wtd_none rfl) rfl (Rd.x (x_move rfl)) ?_
        refine sr_x rfl (wtd_none rfl) rfl (Rd.x (x_assign rfl)) ?_
        refine sr_nil ?_
        show ∃ s', _ ∧ _ ∧ _ ∧ _
        first | exact ⟨⟨(i + j) / 2 + 1, j⟩, hse.right (mono_up hsw hB) (by omega) (fun h => h (by assumption)), by dsimp only; omega, (by (repeat (first | exact keep_nil | refine keep_cons rfl ?_)); first | done | fail), (by repeat (first | exact Sub.refl _ | refine Sub.take (by repeat (first | exact Take.here | apply Take.there | apply Take.app)) ?_ | refine Sub.takeE (by repeat (first | exact TakeE.here | apply TakeE.there | apply TakeE.app)) ?_ | exact Sub.nil _ | apply Sub.drop | apply Sub.dropE))⟩ | exact ⟨⟨i, (i + j) / 2⟩, hse.left (mono_up hsw hB) (by omega) (by assumption), by dsimp only; omega, (by (repeat (first | exact keep_nil | refine keep_cons rfl ?_)); first | done | fail), (by repeat (first | exact Sub.refl _ | refine Sub.take (by repeat (first | exact Take.here | apply Take.there | apply Take.app)) ?_ | refine Sub.takeE (by repeat (first | exact TakeE.here | apply TakeE.there | apply TakeE.app)) ?_ | exact Sub.nil _ | apply Sub.drop | apply Sub.dropE))⟩
    · refine sr_nil ?_
      refine aw_keep (keep_cons (t := 0) rfl (keep_cons (t := 1) rfl (keep_cons (t := 4) rfl (keep_cons (t := 10) rfl (keep_cons (t := 11) rfl (keep_cons (t := 31) rfl (keep_cons (t := 32) rfl (keep_cons (t := 33) rfl keep_nil)))))))) ?_
      refine aw_false rfl ?_
      refine aw_exit ?_
      show AW _ _ _ _ _ _ _
      refine aw_seq ?_
      refine aw_seq_region ?_
      refine sr_x rfl (wtd_none rfl) rfl (Rd.x (x_move rfl)) ?_
      refine sr_x rfl (wtd_none rfl) rfl (Rd.x (x_assign rfl)) ?_
      refine sr_nil ?_
      refine aw_keep (keep_cons (t := 0) rfl (keep_cons (t := 1) rfl (keep_cons (t := 4) rfl (keep_cons (t := 10) rfl (keep_cons (t := 13) rfl keep_nil))))) ?_
      refine aw_block ?_
      refine aw_loop (ι := SortG Job) (fun s => a ≤ s.k ∧ s.k + 1 ≤ i ∧ s.W.length = n ∧ Mv W (rotF a (a + 1) (s.k + 1)) s.W) (fun s => [(0, .slice (some ⟨b, 0, none⟩) n cap), (10, .int .i64 i), (13, .int .i64 s.k)]) (fun s => (b, .cells ((s.W).flatMap Job.cells ++ post).toArray 91 (0, 0)) :: G) (fun s => i - s.k) ⟨a, W⟩ (⟨Nat.le_refl _, by dsimp only; omega, hl, Mv.refl _ (rotF_one a)⟩) (by (repeat (first | exact keep_nil | refine keep_cons rfl ?_)); first | done | fail) (by repeat (first | exact Sub.refl _ | refine Sub.take (by repeat (first | exact Take.here | apply Take.there | apply Take.app)) ?_ | refine Sub.takeE (by repeat (first | exact TakeE.here | apply TakeE.there | apply TakeE.app)) ?_ | exact Sub.nil _ | apply Sub.drop | apply Sub.dropE)) ?_
      intro s hs9
      obtain ⟨k, cur⟩ := s
      dsimp only at hs9 ⊢
      obtain ⟨hk1, hk2, hcl, hmv⟩ := hs9
      refine aw_seq ?_
      refine aw_seq_region ?_
      refine sr_x rfl (wtd_none rfl) rfl (Rd.x (x_move rfl)) ?_
      refine sr_x rfl (wtd_none rfl) rfl (Rd.x (x_move rfl)) ?_
      refine sr_x rfl (wtd_none rfl) rfl (Rd.x (x_sub' rfl rfl (i64w (by omega) (by omega)))) ?_
      refine sr_cmp rfl (wtd_none rfl) rfl (Rd.x (x_lt rfl rfl)) (fun h4 => ?_) (fun h4 => ?_)
      · refine sr_nil ?_
        refine aw_keep (keep_cons (t := 0) rfl (keep_cons (t := 10) rfl (keep_cons (t := 13) rfl (keep_cons (t := 55) rfl (keep_cons (t := 56) rfl (keep_cons (t := 57) rfl (keep_cons (t := 58) rfl keep_nil))))))) ?_
        refine aw_true rfl ?_
        refine aw_skip ?_
        show AW _ _ _ _ _ _ _
        refine aw_seq ?_
        refine aw_block ?_
        refine aw_dr ⟨_, 18, 220, [[], [], [], [], [3], [], [], [6], [5, 6, 7], [5, 6, 7, 8], [], [], [10, 11], [10, 11, 12], [0, 1, 5, 6, 7, 8, 9, 10, 11, 12, 13], [0, 1, 5, 6, 7, 8, 9, 10, 11, 12, 13, 14], [0, 1, 2, 3, 4, 5, 6, 7, 8, 9, 10, 11, 12, 13, 14, 15], [0, 1, 2, 3, 4, 5, 6, 7, 8, 9, 10, 11, 12, 13, 14, 15, 16]], [.light, .light, .light, .light, .light, .light, .light, .light, .light, .mem, .light, .light, .light, .mem, .light, .eff, .light, .eff]⟩ (by kernel_rfl) rfl rfl mix ?_
        refine dr_light rfl rfl (wtd_none rfl) (x_move rfl) ?_
        refine dr_light rfl rfl (wtd_none rfl) (x_move rfl) ?_
        refine dr_light rfl rfl (wtd_none rfl) (x_move rfl) ?_
        refine dr_light rfl rfl (wtd_none rfl) (x_move rfl) ?_
        refine dr_light rfl rfl (wtd_none rfl) (x_add' rfl rfl (i64w (by omega) (by omega))) ?_
        refine dr_light rfl rfl (wtd_none rfl) (x_move rfl) ?_
        refine dr_light rfl rfl (wtd_none rfl) (x_move rfl) ?_
        refine dr_light rfl rfl (wtd_none rfl) (x_add' rfl rfl (i64w (by omega) (by omega))) ?_
        refine dr_light rfl rfl (wtd_none rfl) (x_indexAddrN (k + 1) Try.underlying22 sz91 rfl rfl rfl (by omega) (by omega)) ?_
        refine dr_mem0 rfl rfl (wtd_none rfl) (x_loadN ag91 sz91 rfl ((cells_flat0 (n := 10) (enc := Job.cells) (fun _ => rfl) (xs := cur) (post := post) (show (b, Obj.cells ((cur).flatMap Job.cells ++ post).toArray 91 (0, 0)) ∈ _ from (by repeat (first | exact List.mem_cons_self | apply List.mem_cons_of_mem | apply List.mem_append_right))) (gd_some (by omega)))) rfl) ?_
        refine dr_light rfl rfl (wtd_none rfl) (x_move rfl) ?_
        refine dr_light rfl rfl (wtd_none rfl) (x_move rfl) ?_
        refine dr_light rfl rfl (wtd_none rfl) (x_indexAddrN (k) Try.underlying22 sz91 rfl rfl rfl (by omega) (by omega)) ?_
        refine dr_mem0 rfl rfl (wtd_none rfl) (x_loadN ag91 sz91 rfl ((cells_flat0 (n := 10) (enc := Job.cells) (fun _ => rfl) (xs := cur) (post := post) (show (b, Obj.cells ((cur).flatMap Job.cells ++ post).toArray 91 (0, 0)) ∈ _ from (by repeat (first | exact List.mem_cons_self | apply List.mem_cons_of_mem | apply List.mem_append_right))) (gd_some (by omega)))) rfl) ?_
        refine dr_light rfl rfl (wtd_none rfl) (x_indexAddrN (k) Try.underlying22 sz91 rfl rfl rfl (by omega) (by omega)) ?_
        refine dr_store0 rfl rfl (wtd_none rfl) (x_store sz91 rfl rfl rfl rfl rfl (by repeat (first | exact Repl.here | apply Repl.there | apply Repl.app)) (Sym.spl_flat0 (n := 10) (enc := Job.cells) (fun _ => rfl) (xs := cur) (post := post) (i := (k)) (x' := gd cur (k + 1)) (by first | omega | (rw [List.length_set]; omega)))) (by first | rfl | simp [keys_append, keys_cons]) ?_
        refine dr_light rfl rfl (wtd_none rfl) (x_indexAddrN (k + 1) Try.underlying22 sz91 rfl rfl rfl (by omega) (by omega)) ?_
        refine dr_store0 rfl rfl (wtd_none rfl) (x_store sz91 rfl rfl rfl rfl rfl (by repeat (first | exact Repl.here | apply Repl.there | apply Repl.app)) (Sym.spl_flat0 (n := 10) (enc := Job.cells) (fun _ => rfl) (xs := ((cur).set (k) (gd cur (k + 1)))) (post := post) (i := (k + 1)) (x' := gd cur (k)) (by first | omega | (rw [List.length_set]; omega)))) (by first | rfl | simp [keys_append, keys_cons]) ?_
        refine dr_nil0 ?_
        show AW _ _ _ _ _ _ _
        refine aw_region ?_
        refine sr_x rfl (wtd_none rfl) rfl (Rd.x (x_move rfl)) ?_
        refine sr_x rfl (wtd_none rfl) rfl (Rd.x (x_add' rfl rfl (i64w (by omega) (by omega)))) ?_
        refine sr_x rfl (wtd_none rfl) rfl (Rd.x (x_assign rfl)) ?_
        refine sr_nil ?_
        show ∃ s', _ ∧ _ ∧ _ ∧ _
        exact ⟨⟨k + 1, sw cur k (k + 1)⟩, ⟨by dsimp only; omega, by dsimp only; omega, sw_len.trans hcl, hmv.sw (by omega) (by omega) (rotF_up hk1)⟩, by dsimp only; omega, (by (repeat (first | exact keep_nil | refine keep_cons rfl ?_)); first | done | fail), (by repeat (first | exact Sub.refl _ | refine Sub.take (by repeat (first | exact Take.here | apply Take.there | apply Take.app)) ?_ | refine Sub.takeE (by repeat (first | exact TakeE.here | apply TakeE.there | apply TakeE.app)) ?_ | exact Sub.nil _ | apply Sub.drop | apply Sub.dropE))⟩
      · refine sr_nil ?_
        refine aw_keep (keep_cons (t := 0) rfl (keep_cons (t := 10) rfl (keep_cons (t := 13) rfl (keep_cons (t := 55) rfl (keep_cons (t := 56) rfl (keep_cons (t := 57) rfl (keep_cons (t := 58) rfl keep_nil))))))) ?_
        refine aw_false rfl ?_
        refine aw_exit ?_
        show AW _ _ _ _ _ _ _
        refine aw_ret ?_
        show ∃ v H2, ResV _ _ _ _ _ _ v ∧ Sub H2 _ ∧ _
        first | (obtain rfl : i = j := (by omega); obtain rfl : m = a + 1 := (by omega); obtain rfl : i = k + 1 := (by omega); exact ⟨_, _, resV rfl .nil, Sub.refl _, cur, Mg.one_up hsw (by omega) (by omega) (by omega) hB (fun h q1 q2 => Classical.not_not.1 (hb4 h q1 q2)) hb5 hmv, rfl, rfl⟩) | (obtain rfl : i = j := (by omega); obtain rfl : e = m + 1 := (by omega); obtain rfl : k = i := (by omega); exact ⟨_, _, resV rfl .nil, Sub.refl _, cur, Mg.one_down hsw (by omega) (by omega) (by omega) hA hb4 hb5 hmv, rfl, rfl⟩) | exact ⟨_, _, resV rfl .nil, Sub.refl _, W3, merge_end (by omega) hst1 hin1 hp4 hmg2 hmg3, rfl, rfl⟩ | exact ⟨_, _, resV rfl .nil, Sub.refl _, W2, merge_end (by omega) hst1 hin1 hp4 hmg2 (Mg.triv (s := d + m - i) (by omega) (hp4.2.2.1.same fun k q1 q2 => hmg2.2.1.2.1 k (by omega)) (hp4.2.2.2.1.same fun k q1 q2 => hmg2.2.1.2.1 k (by omega))), rfl, rfl⟩
  · refine sr_nil ?_
    refine aw_keep (keep_cons (t := 0) rfl (keep_cons (t := 1) rfl (keep_cons (t := 2) rfl (keep_cons (t := 3) rfl (keep_cons (t := 4) rfl (keep_cons (t := 28) rfl keep_nil)))))) ?_
    refine aw_false rfl ?_
    refine aw_skip ?_
    show AW _ _ _ _ _ _ _
    refine aw_seq ?_
    refine aw_seq_region ?_
    refine sr_x rfl (wtd_none rfl) rfl (Rd.x (x_move rfl)) ?_
    refine sr_x rfl (wtd_none rfl) rfl (Rd.x (x_move rfl)) ?_
    refine sr_x rfl (wtd_none rfl) rfl (Rd.x (x_sub' rfl rfl (i64w (by omega) (by omega)))) ?_
    refine sr_cmp rfl (wtd_none rfl) rfl (Rd.x (x_eq rfl rfl)) (fun h5 => ?_) (fun h5 => ?_)
    · refine sr_nil ?_
      refine aw_keep (keep_cons (t := 0) rfl (keep_cons (t := 1) rfl (keep_cons (t := 2) rfl (keep_cons (t := 3) rfl (keep_cons (t := 4) rfl (keep_cons (t := 80) rfl keep_nil)))))) ?_
      refine aw_true rfl ?_
      refine aw_seq_region ?_
      refine sr_x rfl (wtd_none rfl) rfl (Rd.x (x_move rfl)) ?_
      refine sr_x rfl (wtd_none rfl) rfl (Rd.x (x_assign rfl)) ?_
      refine sr_nil ?_
      refine aw_keep (keep_cons (t := 0) rfl (keep_cons (t := 1) rfl (keep_cons (t := 2) rfl (keep_cons (t := 3) rfl (keep_cons (t := 4) rfl (keep_cons (t := 14) rfl keep_nil)))))) ?_
      refine aw_seq_region ?_
      refine sr_x rfl (wtd_none rfl) rfl (Rd.x (x_move rfl)) ?_
      refine sr_x rfl (wtd_none rfl) rfl (Rd.x (x_assign rfl)) ?_
      refine sr_nil ?_
      refine aw_keep (keep_cons (t := 0) rfl (keep_cons (t := 1) rfl (keep_cons (t := 2) rfl (keep_cons (t := 3) rfl (keep_cons (t := 4) rfl (keep_cons (t := 14) rfl (keep_cons (t := 15) rfl keep_nil))))))) ?_
      refine aw_seq ?_
      refine aw_block ?_
      refine aw_loop (ι := SeaG) (fun s => Sea (fun h => c (gd W m) (gd W h) < 0) a m s.i s.j) (fun s => [(0, .slice (some ⟨b, 0, none⟩) n cap), (2, .int .i64 m), (4, .func (.func 143) #[] #[]), (14, .int .i64 s.i), (15, .int .i64 s.j)]) (fun _ => (b, .cells ((W).flatMap Job.cells ++ post).toArray 91 (0, 0)) :: G) (fun s => s.j - s.i) ⟨a, m⟩ (Sea.start (by omega)) (by (repeat (first | exact keep_nil | refine keep_cons rfl ?_)); first | done | fail) (by repeat (first | exact Sub.refl _ | refine Sub.take (by repeat (first | exact Take.here | apply Take.there | apply Take.app)) ?_ | refine Sub.takeE (by repeat (first | exact TakeE.here | apply TakeE.there | apply TakeE.app)) ?_ | exact Sub.nil _ | apply Sub.drop | apply Sub.dropE)) ?_
      intro s hs9
      obtain ⟨i, j⟩ := s
      dsimp only at hs9 ⊢
      have hse := hs9
      obtain ⟨hb1, hb2, hb3, hb4, hb5⟩ := hs9
      refine aw_seq ?_
      refine aw_seq_region ?_
      refine sr_x rfl (wtd_none rfl) rfl (Rd.x (x_move rfl)) ?_
      refine sr_x rfl (wtd_none rfl) rfl (Rd.x (x_move rfl)) ?_
      refine sr_cmp rfl (wtd_none rfl) rfl (Rd.x (x_lt rfl rfl)) (fun h6 => ?_) (fun h6 => ?_)
      · refine sr_nil ?_
        refine aw_keep (keep_cons (t := 0) rfl (keep_cons (t := 2) rfl (keep_cons (t := 4) rfl (keep_cons (t := 14) rfl (keep_cons (t := 15) rfl (keep_cons (t := 83) rfl (keep_cons (t := 84) rfl (keep_cons (t := 85) rfl keep_nil)))))))) ?_
        refine aw_true rfl ?_
        refine aw_skip ?_
        show AW _ _ _ _ _ _ _
        refine aw_block ?_
        refine aw_seq_region ?_
        refine sr_x rfl (wtd_none rfl) rfl (Rd.x (x_move rfl)) ?_
        refine sr_x rfl (wtd_none rfl) rfl (Rd.x (x_move rfl)) ?_
        refine sr_x rfl (wtd_none rfl) rfl (Rd.x (x_add' rfl rfl (i64w (by omega) (by omega)))) ?_
        refine sr_x rfl (wtd_none rfl) rfl (Rd.x (x_conv' Try.underlying3 Try.underlying207 rfl (u64w (by omega) (by omega)))) ?_
        refine sr_x rfl (wtd_none rfl) rfl (Rd.x (x_cast (x_shr rfl rfl (by omega)) (shrH (i) (j)))) ?_
        refine sr_x rfl (wtd_none rfl) rfl (Rd.x (x_conv' Try.underlying207 Try.underlying3 rfl (i64w (by omega) (by omega)))) ?_
        refine sr_x rfl (wtd_none rfl) rfl (Rd.x (x_assign rfl)) ?_
        refine sr_nil ?_
        refine aw_keep (keep_cons (t := 0) rfl (keep_cons (t := 2) rfl (keep_cons (t := 4) rfl (keep_cons (t := 14) rfl (keep_cons (t := 15) rfl (keep_cons (t := 16) rfl (keep_cons (t := 83) rfl (keep_cons (t := 84) rfl (keep_cons (t := 85) rfl (keep_cons (t := 86) rfl (keep_cons (t := 87) rfl (keep_cons (t := 88) rfl (keep_cons (t := 89) rfl (keep_cons (t := 90) rfl (keep_cons (t := 91) rfl keep_nil))))))))))))))) ?_
        refine aw_seq_dr ⟨_, 12, 220, [[], [], [], [1, 2], [1, 2, 3], [], [], [5, 6], [5, 6, 7], [0, 1, 2, 3, 4, 5, 6, 7, 8], [0, 1, 2, 3, 4, 5, 6, 7, 8, 9], [0, 1, 2, 3, 4, 5, 6, 7, 8, 9, 10]], [.light, .light, .light, .light, .mem, .light, .light, .light, .mem, .call, .light, .light]⟩ (by kernel_rfl) rfl rfl mix ?_
        refine dr_light rfl rfl (wtd_none rfl) (x_move rfl) ?_
        refine dr_light rfl rfl (wtd_none rfl) (x_move rfl) ?_
        refine dr_light rfl rfl (wtd_none rfl) (x_move rfl) ?_
        refine dr_light rfl rfl (wtd_none rfl) (x_indexAddrN (m) Try.underlying22 sz91 rfl rfl rfl (by omega) (by omega)) ?_
        refine dr_mem0 rfl rfl (wtd_none rfl) (x_loadN ag91 sz91 rfl ((cells_flat0 (n := 10) (enc := Job.cells) (fun _ => rfl) (xs := W) (post := post) (show (b, Obj.cells ((W).flatMap Job.cells ++ post).toArray 91 (0, 0)) ∈ _ from (by repeat (first | exact List.mem_cons_self | apply List.mem_cons_of_mem | apply List.mem_append_right))) (gd_some (by omega)))) rfl) ?_
        refine dr_light rfl rfl (wtd_none rfl) (x_move rfl) ?_
        refine dr_light rfl rfl (wtd_none rfl) (x_move rfl) ?_
        refine dr_light rfl rfl (wtd_none rfl) (x_indexAddrN ((i + j) / 2) Try.underlying22 sz91 rfl rfl rfl (by omega) (by omega)) ?_
        refine dr_mem0 rfl rfl (wtd_none rfl) (x_loadN ag91 sz91 rfl ((cells_flat0 (n := 10) (enc := Job.cells) (fun _ => rfl) (xs := W) (post := post) (show (b, Obj.cells ((W).flatMap Job.cells ++ post).toArray 91 (0, 0)) ∈ _ from (by repeat (first | exact List.mem_cons_self | apply List.mem_cons_of_mem | apply List.mem_append_right))) (gd_some (by omega)))) rfl) ?_
        refine dr_callq0 rfl rfl (wtd_none rfl) (opS_F rfl rfl rfl rfl cl143 ((hcmp (gd W m) (gd W ((i + j) / 2)) _ (by repeat (first | exact Sub.refl _ | apply Sub.drop | apply Sub.dropE))))) (⟨_, rfl⟩) ?_
        rintro _ rfl
        refine dr_cmp rfl rfl (wtd_none rfl) (x_lt rfl rfl) (fun h7 => ?_) (fun h7 => ?_)
        · refine dr_light rfl rfl (wtd_none rfl) (x_not rfl) ?_
          refine dr_nil0 ?_
          refine aw_keep (keep_cons (t := 0) rfl (keep_cons (t := 2) rfl (keep_cons (t := 4) rfl (keep_cons (t := 14) rfl (keep_cons (t := 15) rfl (keep_cons (t := 16) rfl (keep_cons (t := 83) rfl (keep_cons (t := 84) rfl (keep_cons (t := 85) rfl (keep_cons (t := 86) rfl (keep_cons (t := 87) rfl (keep_cons (t := 88) rfl (keep_cons (t := 89) rfl (keep_cons (t := 90) rfl (keep_cons (t := 91) rfl (keep_cons (t := 92) rfl (keep_cons (t := 93) rfl (keep_cons (t := 94) rfl (keep_cons (t := 95) rfl (keep_cons (t := 96) rfl (keep_cons (t := 97) rfl (keep_cons (t := 98) rfl (keep_cons (t := 99) rfl (keep_cons (t := 100) rfl (keep_cons (t := 101) rfl (keep_cons (t := 102) rfl (keep_cons (t := 103) rfl keep_nil))))))))))))))))))))))))))) ?_
          refine aw_false rfl ?_
          refine aw_region ?_
          refine sr_x rfl (wtd_none rfl) rfl (Rd.x (x_move rfl)) ?_
          refine sr_x rfl (wtd_none rfl) rfl (Rd.x (x_assign rfl)) ?_
          refine sr_nil ?_
          show ∃ s', _ ∧ _ ∧ _ ∧ _
          first | exact ⟨⟨(i + j) / 2 + 1, j⟩, hse.right (mono_dn hsw hA) (by omega) (by assumption), by dsimp only; omega, (by (repeat (first | exact keep_nil | refine keep_cons rfl ?_)); first | done | fail), (by repeat (first | exact Sub.refl _ | refine Sub.take (by repeat (first | exact Take.here | apply Take.there | apply Take.app)) ?_ | refine Sub.takeE (by repeat (first | exact TakeE.here | apply TakeE.there | apply TakeE.app)) ?_ | exact Sub.nil _ | apply Sub.drop | apply Sub.dropE))⟩ | exact ⟨⟨i, (i + j) / 2⟩, hse.left (mono_dn hsw hA) (by omega) (by assumption), by dsimp only; omega, (by (repeat (first | exact keep_nil | refine keep_cons rfl ?_)); first | done | fail), (by repeat (first | exact Sub.refl _ | refine Sub.take (by repeat (first | exact Take.here | apply Take.there | apply Take.app)) ?_ | refine Sub.takeE (by repeat (first | exact TakeE.here | apply TakeE.there | apply TakeE.app)) ?_ | exact Sub.nil _ | apply Sub.drop | apply Sub.dropE))⟩
        · refine dr_light rfl rfl (wtd_none rfl) (x_not rfl) ?_
          refine dr_nil0 ?_
          refine aw_keep (keep_cons (t := 0) rfl (keep_cons (t := 2) rfl (keep_cons (t := 4) rfl (keep_cons (t := 14) rfl (keep_cons (t := 15) rfl (keep_cons (t := 16) rfl (keep_cons (t := 83) rfl (keep_cons (t := 84) rfl (keep_cons (t := 85) rfl (keep_cons (t := 86) rfl (keep_cons (t := 87) rfl (keep_cons (t := 88) rfl (keep_cons (t := 89) rfl (keep_cons (t := 90) rfl (keep_cons (t := 91) rfl (keep_cons (t := 92) rfl (keep_cons (t := 93) rfl (keep_cons (t := 94) rfl (keep_cons (t := 95) rfl (keep_cons (t := 96) rfl (keep_cons (t := 97) rfl (keep_cons (t := 98) rfl (keep_cons (t := 99) rfl (keep_cons (t := 100) rfl (keep_cons (t := 101) rfl (keep_cons (t := 102) rfl (keep_cons (t := 103) rfl keep_nil))))))))))))))))))))))))))) ?_
          refine aw_true rfl ?_
          refine aw_region ?_
          refine sr_x rfl (wtd_none rfl) rfl (Rd.x (x_move rfl)) ?_
          refine sr_x rfl (wtd_none rfl) rfl (Rd.x (x_add' rfl rfl (i64w (by omega) (by omega)))) ?_
          refine sr_x rfl (wtd_none rfl) rfl (Rd.x (x_assign rfl)) ?_
          refine sr_nil ?_
          show ∃ s', _ ∧ _ ∧ _ ∧ _
          first | exact ⟨⟨(i + j) / 2 + 1, j⟩, hse.right (mono_dn hsw hA) (by omega) (by assumption), by dsimp only; omega, (by (repeat (first | exact keep_nil | refine keep_cons rfl ?_)); first | done | fail), (by repeat (first | exact Sub.refl _ | refine Sub.take (by repeat (first | exact Take.here | apply Take.there | apply Take.app)) ?_ | refine Sub.takeE (by repeat (first | exact TakeE.here | apply TakeE.there | apply TakeE.app)) ?_ | exact Sub.nil _ | apply Sub.drop | apply Sub.dropE))⟩ | exact ⟨⟨i, (i + j) / 2⟩, hse.left (mono_dn hsw hA) (by omega) (by assumption), by dsimp only; omega, (by (repeat (first | exact keep_nil | refine keep_cons rfl ?_)); first | done | fail), (by repeat (first | exact Sub.refl _ | refine Sub.take (by repeat (first | exact Take.here | apply Take.there | apply Take.app)) ?_ | refine Sub.takeE (by repeat (first | exact TakeE.here | apply TakeE.there | apply TakeE.app)) ?_ | exact Sub.nil _ | apply Sub.drop | apply Sub.dropE))⟩
      · refine sr_nil ?_
        refine aw_keep (keep_cons (t := 0) rfl (keep_cons (t := 2) rfl (keep_cons (t := 4) rfl (keep_cons (t := 14) rfl (keep_cons (t := 15) rfl (keep_cons (t := 83) rfl (keep_cons (t := 84) rfl (keep_cons (t := 85) rfl keep_nil)))))))) ?_
        refine aw_false rfl ?_
        refine aw_exit ?_
        show AW _ _ _ _ _ _ _
        refine aw_seq ?_
        refine aw_seq_region ?_
        refine sr_x rfl (wtd_none rfl) rfl (Rd.x (x_move rfl)) ?_
        refine sr_x rfl (wtd_none rfl) rfl (Rd.x (x_assign rfl)) ?_
        refine sr_nil ?_
        refine aw_keep (keep_cons (t := 0) rfl (keep_cons (t := 2) rfl (keep_cons (t := 4) rfl (keep_cons (t := 14) rfl (keep_cons (t := 17) rfl keep_nil))))) ?_
        refine aw_block ?_
        refine aw_loop (ι := SortG Job) (fun s => i ≤ s.k ∧ s.k ≤ m ∧ s.W.length = n ∧ Mv W (rotF s.k m (m + 1)) s.W) (fun s => [(0, .slice (some ⟨b, 0, none⟩) n cap), (14, .int .i64 i), (17, .int .i64 s.k)]) (fun s => (b, .cells ((s.W).flatMap Job.cells ++ post).toArray 91 (0, 0)) :: G) (fun s => s.k) ⟨m, W⟩ (⟨by dsimp only; omega, Nat.le_refl _, hl, Mv.refl _ (rotF_self m)⟩) (by (repeat (first | exact keep_nil | refine keep_cons rfl ?_)); first | done | fail) (by repeat (first | exact Sub.refl _ | refine Sub.take (by repeat (first | exact Take.here | apply Take.there | apply Take.app)) ?_ | refine Sub.takeE (by repeat (first | exact TakeE.here | apply TakeE.there | apply TakeE.app)) ?_ | exact Sub.nil _ | apply Sub.drop | apply Sub.dropE)) ?_
        intro s hs9
        obtain ⟨k, cur⟩ := s
        dsimp only at hs9 ⊢
        obtain ⟨hk1, hk2, hcl, hmv⟩ := hs9
        refine aw_seq ?_
        refine aw_seq_region ?_
        refine sr_x rfl (wtd_none rfl) rfl (Rd.x (x_move rfl)) ?_
        refine sr_x rfl (wtd_none rfl) rfl (Rd.x (x_move rfl)) ?_
        refine sr_cmp rfl (wtd_none rfl) rfl (Rd.x (x_gt rfl rfl)) (fun h8 => ?_) (fun h8 => ?_)
        · refine sr_nil ?_
          refine aw_keep (keep_cons (t := 0) rfl (keep_cons (t := 14) rfl (keep_cons (t := 17) rfl (keep_cons (t := 108) rfl (keep_cons (t := 109) rfl (keep_cons (t := 110) rfl keep_nil)))))) ?_
          refine aw_true rfl ?_
          refine aw_skip ?_
          show AW _ _ _ _ _ _ _
          refine aw_seq ?_
          refine aw_block ?_
          refine aw_dr ⟨_, 18, 220, [[], [], [], [], [3], [], [], [6], [5, 6, 7], [5, 6, 7, 8], [], [], [10, 11], [10, 11, 12], [0, 1, 5, 6, 7, 8, 9, 10, 11, 12, 13], [0, 1, 5, 6, 7, 8, 9, 10, 11, 12, 13, 14], [0, 1, 2, 3, 4, 5, 6, 7, 8, 9, 10, 11, 12, 13, 14, 15], [0, 1, 2, 3, 4, 5, 6, 7, 8, 9, 10, 11, 12, 13, 14, 15, 16]], [.light, .light, .light, .light, .light, .light, .light, .light, .light, .mem, .light, .light, .light, .mem, .light, .eff, .light, .eff]⟩ (by kernel_rfl) rfl rfl mix ?_
          refine dr_light rfl rfl (wtd_none rfl) (x_move rfl) ?_
          refine dr_light rfl rfl (wtd_none rfl) (x_move rfl) ?_
          refine dr_light rfl rfl (wtd_none rfl) (x_move rfl) ?_
          refine dr_light rfl rfl (wtd_none rfl) (x_move rfl) ?_
          refine dr_light rfl rfl (wtd_none rfl) (x_cast (u := .int .i64 ((k - 1 : Nat) : Int)) (x_sub' rfl rfl (i64w (by omega) (by omega))) (by congr 1; omega)) ?_
          refine dr_light rfl rfl (wtd_none rfl) (x_move rfl) ?_
          refine dr_light rfl rfl (wtd_none rfl) (x_move rfl) ?_
          refine dr_light rfl rfl (wtd_none rfl) (x_cast (u := .int .i64 ((k - 1 : Nat) : Int)) (x_sub' rfl rfl (i64w (by omega) (by omega))) (by congr 1; omega)) ?_
          refine dr_light rfl rfl (wtd_none rfl) (x_indexAddrN (k - 1) Try.underlying22 sz91 rfl rfl rfl (by omega) (by omega)) ?_
          refine dr_mem0 rfl rfl (wtd_none rfl) (x_loadN ag91 sz91 rfl ((cells_flat0 (n := 10) (enc := Job.cells) (fun _ => rfl) (xs := cur) (post := post) (show (b, Obj.cells ((cur).flatMap Job.cells ++ post).toArray 91 (0, 0)) ∈ _ from (by repeat (first | exact List.mem_cons_self | apply List.mem_cons_of_mem | apply List.mem_append_right))) (gd_some (by omega)))) rfl) ?_
          refine dr_light rfl rfl (wtd_none rfl) (x_move rfl) ?_
          refine dr_light rfl rfl (wtd_none rfl) (x_move rfl) ?_
          refine dr_light rfl rfl (wtd_none rfl) (x_indexAddrN (k) Try.underlying22 sz91 rfl rfl rfl (by omega) (by omega)) ?_
          refine dr_mem0 rfl rfl (wtd_none rfl) (x_loadN ag91 sz91 rfl ((cells_flat0 (n := 10) (enc := Job.cells) (fun _ => rfl) (xs := cur) (post := post) (show (b, Obj.cells ((cur).flatMap Job.cells ++ post).toArray 91 (0, 0)) ∈ _ from (by repeat (first | exact List.mem_cons_self | apply List.mem_cons_of_mem | apply List.mem_append_right))) (gd_some (by omega)))) rfl) ?_
          refine dr_light rfl rfl (wtd_none rfl) (x_indexAddrN (k) Try.underlying22 sz91 rfl rfl rfl (by omega) (by omega)) ?_
          refine dr_store0 rfl rfl (wtd_none rfl) (x_store sz91 rfl rfl rfl rfl rfl (by repeat (first | exact Repl.here | apply Repl.there | apply Repl.app)) (Sym.spl_flat0 (n := 10) (enc := Job.cells) (fun _ => rfl) (xs := cur) (post := post) (i := (k)) (x' := gd cur (k - 1)) (by first | omega | (rw [List.length_set]; omega)))) (by first | rfl | simp [keys_append, keys_cons]) ?_
          refine dr_light rfl rfl (wtd_none rfl) (x_indexAddrN (k - 1) Try.underlying22 sz91 rfl rfl rfl (by omega) (by omega)) ?_
          refine dr_store0 rfl rfl (wtd_none rfl) (x_store sz91 rfl rfl rfl rfl rfl (by repeat (first | exact Repl.here | apply Repl.there | apply Repl.app)) (Sym.spl_flat0 (n := 10) (enc := Job.cells) (fun _ => rfl) (xs := ((cur).set (k) (gd cur (k - 1)))) (post := post) (i := (k - 1)) (x' := gd cur (k)) (by first | omega | (rw [List.length_set]; omega)))) (by first | rfl | simp [keys_append, keys_cons]) ?_
          refine dr_nil0 ?_
          show AW _ _ _ _ _ _ _
          refine aw_region ?_
          refine sr_x rfl (wtd_none rfl) rfl (Rd.x (x_move rfl)) ?_
          refine sr_x rfl (wtd_none rfl) rfl (Rd.x (x_cast (u := .int .i64 ((k - 1 : Nat) : Int)) (x_sub' rfl rfl (i64w (by omega) (by omega))) (by congr 1; omega))) ?_
          refine sr_x rfl (wtd_none rfl) rfl (Rd.x (x_assign rfl)) ?_
          refine sr_nil ?_
          show ∃ s', _ ∧ _ ∧ _ ∧ _
          exact ⟨⟨k - 1, sw cur k (k - 1)⟩, ⟨by dsimp only; omega, by dsimp only; omega, sw_len.trans hcl, hmv.sw (by omega) (by omega) (rotF_down (by omega) hk2)⟩, by dsimp only; omega, (by (repeat (first | exact keep_nil | refine keep_cons rfl ?_)); first | done | fail), (by repeat (first | exact Sub.refl _ | refine Sub.take (by repeat (first | exact Take.here | apply Take.there | apply Take.app)) ?_ | refine Sub.takeE (by repeat (first | exact TakeE.here | apply TakeE.there | apply TakeE.app)) ?_ | exact Sub.nil _ | apply Sub.drop | apply Sub.dropE))⟩
        · refine sr_nil ?_
          refine aw_keep (keep_cons (t := 0) rfl (keep_cons (t := 14) rfl (keep_cons (t := 17) rfl (keep_cons (t := 108) rfl (keep_cons (t := 109) rfl (keep_cons (t := 110) rfl keep_nil)))))) ?_
          refine aw_false rfl ?_
          refine aw_exit ?_
          show AW _ _ _ _ _ _ _
          refine aw_ret ?_
          show ∃ v H2, ResV _ _ _ _ _ _ v ∧ Sub H2 _ ∧ _
          first | (obtain rfl : i = j := (by omega); obtain rfl : m = a + 1 := (by omega); obtain rfl : i = k + 1 := (by omega); exact ⟨_, _, resV rfl .nil, Sub.refl _, cur, Mg.one_up hsw (by omega) (by omega) (by omega) hB (fun h q1 q2 => Classical.not_not.1 (hb4 h q1 q2)) hb5 hmv, rfl, rfl⟩) | (obtain rfl : i = j := (by omega); obtain rfl : e = m + 1 := (by omega); obtain rfl : k = i := (by omega); exact ⟨_, _, resV rfl .nil, Sub.refl _, cur, Mg.one_down hsw (by omega) (by omega) (by omega) hA hb4 hb5 hmv, rfl, rfl⟩) | exact ⟨_, _, resV rfl .nil, Sub.refl _, W3, merge_end (by omega) hst1 hin1 hp4 hmg2 hmg3, rfl, rfl⟩ | exact ⟨_, _, resV rfl .nil, Sub.refl _, W2, merge_end (by omega) hst1 hin1 hp4 hmg2 (Mg.triv (s := d + m - i) (by omega) (hp4.2.2.1.same fun k q1 q2 => hmg2.2.1.2.1 k (by omega)) (hp4.2.2.2.1.same fun k q1 q2 => hmg2.2.1.2.1 k (by omega))), rfl, rfl⟩
    · refine sr_nil ?_
      refine aw_keep (keep_cons (t := 0) rfl (keep_cons (t := 1) rfl (keep_cons (t := 2) rfl (keep_cons (t := 3) rfl (keep_cons (t := 4) rfl (keep_cons (t := 80) rfl keep_nil)))))) ?_
      refine aw_false rfl ?_
      refine aw_skip ?_
      show AW _ _ _ _ _ _ _
      refine aw_seq_region ?_
      refine sr_x rfl (wtd_none rfl) rfl (Rd.x (x_move rfl)) ?_
      refine sr_x rfl (wtd_none rfl) rfl (Rd.x (x_move rfl)) ?_
      refine sr_x rfl (wtd_none rfl) rfl (Rd.x (x_add' rfl rfl (i64w (by omega) (by omega)))) ?_
      refine sr_x rfl (wtd_none rfl) rfl (Rd.x (x_conv' Try.underlying3 Try.underlying207 rfl (u64w (by omega) (by omega)))) ?_
      refine sr_x rfl (wtd_none rfl) rfl (Rd.x (x_cast (x_shr rfl rfl (by omega)) (shrH (a) (e)))) ?_
      refine sr_x rfl (wtd_none rfl) rfl (Rd.x (x_conv' Try.underlying207 Try.underlying3 rfl (i64w (by omega) (by omega)))) ?_
      refine sr_x rfl (wtd_none rfl) rfl (Rd.x (x_assign rfl)) ?_
      refine sr_nil ?_
      refine aw_keep (keep_cons (t := 0) rfl (keep_cons (t := 1) rfl (keep_cons (t := 2) rfl (keep_cons (t := 3) rfl (keep_cons (t := 4) rfl (keep_cons (t := 18) rfl keep_nil)))))) ?_
      refine aw_seq_region ?_
      obtain ⟨d, hd⟩ : ∃ d, d = (a + e) / 2 := ⟨_, rfl⟩
      rw [← hd]
      refine sr_x rfl (wtd_none rfl) rfl (Rd.x (x_move rfl)) ?_
      refine sr_x rfl (wtd_none rfl) rfl (Rd.x (x_move rfl)) ?_
      refine sr_x rfl (wtd_none rfl) rfl (Rd.x (x_cast (u := .int .i64 ((d + m : Nat) : Int)) (x_add' rfl rfl (i64w (by omega) (by omega))) (by congr 1))) ?_
      refine sr_x rfl (wtd_none rfl) rfl (Rd.x (x_assign rfl)) ?_
      refine sr_nil ?_
      refine aw_keep (keep_cons (t := 0) rfl (keep_cons (t := 1) rfl (keep_cons (t := 2) rfl (keep_cons (t := 3) rfl (keep_cons (t := 4) rfl (keep_cons (t := 18) rfl (keep_cons (t := 19) rfl keep_nil))))))) ?_
      refine aw_seq_region ?_
      refine sr_x rfl (wtd_none rfl) rfl (Rd.x (x_assign rfl)) ?_
      refine sr_x rfl (wtd_none rfl) rfl (Rd.x (x_assign rfl)) ?_
      refine sr_nil ?_
      refine aw_keep (keep_cons (t := 0) rfl (keep_cons (t := 1) rfl (keep_cons (t := 2) rfl (keep_cons (t := 3) rfl (keep_cons (t := 4) rfl (keep_cons (t := 18) rfl (keep_cons (t := 19) rfl (keep_cons (t := 20) rfl (keep_cons (t := 21) rfl keep_nil))))))))) ?_
      refine aw_seq ?_
      refine aw_seq_region ?_
      refine sr_x rfl (wtd_none rfl) rfl (Rd.x (x_move rfl)) ?_
      refine sr_x rfl (wtd_none rfl) rfl (Rd.x (x_move rfl)) ?_
      refine sr_cmp rfl (wtd_none rfl) rfl (Rd.x (x_gt rfl rfl)) (fun h9 => ?_) (fun h9 => ?_)
      · refine sr_nil ?_
        refine aw_keep (keep_cons (t := 0) rfl (keep_cons (t := 1) rfl (keep_cons (t := 2) rfl (keep_cons (t := 3) rfl (keep_cons (t := 4) rfl (keep_cons (t := 18) rfl (keep_cons (t := 19) rfl (keep_cons (t := 20) rfl (keep_cons (t := 21) rfl (keep_cons (t := 140) rfl keep_nil)))))))))) ?_
        refine aw_true rfl ?_
        refine aw_seq_region ?_
        refine sr_x rfl (wtd_none rfl) rfl (Rd.x (x_move rfl)) ?_
        refine sr_x rfl (wtd_none rfl) rfl (Rd.x (x_move rfl)) ?_
        refine sr_x rfl (wtd_none rfl) rfl (Rd.x (x_cast (u := .int .i64 ((d + m - e : Nat) : Int)) (x_sub' rfl rfl (i64w (by omega) (by omega))) (by congr 1; omega))) ?_
        refine sr_x rfl (wtd_none rfl) rfl (Rd.x (x_assign rfl)) ?_
        refine sr_nil ?_
        refine aw_keep (keep_cons (t := 0) rfl (keep_cons (t := 1) rfl (keep_cons (t := 2) rfl (keep_cons (t := 3) rfl (keep_cons (t := 4) rfl (keep_cons (t := 18) rfl (keep_cons (t := 19) rfl (keep_cons (t := 20) rfl (keep_cons (t := 21) rfl keep_nil))))))))) ?_
        refine aw_region ?_
        refine sr_x rfl (wtd_none rfl) rfl (Rd.x (x_move rfl)) ?_
        refine sr_x rfl (wtd_none rfl) rfl (Rd.x (x_assign rfl)) ?_
        refine sr_nil ?_
        show AW _ _ _ _ _ _ _
        refine aw_seq_region ?_
        refine sr_x rfl (wtd_none rfl) rfl (Rd.x (x_move rfl)) ?_
        refine sr_x rfl (wtd_none rfl) rfl (Rd.x (x_cast (u := .int .i64 ((d + m - 1 : Nat) : Int)) (x_sub' rfl rfl (i64w (by omega) (by omega))) (by congr 1; omega))) ?_
        refine sr_x rfl (wtd_none rfl) rfl (Rd.x (x_assign rfl)) ?_
        refine sr_nil ?_
        refine aw_keep (keep_cons (t := 0) rfl (keep_cons (t := 1) rfl (keep_cons (t := 2) rfl (keep_cons (t := 3) rfl (keep_cons (t := 4) rfl (keep_cons (t := 18) rfl (keep_cons (t := 19) rfl (keep_cons (t := 20) rfl (keep_cons (t := 21) rfl (keep_cons (t := 22) rfl keep_nil)))))))))) ?_
        refine aw_seq ?_
        refine aw_block ?_
        refine aw_loop (ι := SeaG) (fun s => Sea (fun h => c (gd W (d + m - 1 - h)) (gd W h) < 0) (d + m - e) d s.i s.j) (fun s => [(0, .slice (some ⟨b, 0, none⟩) n cap), (1, .int .i64 a), (2, .int .i64 m), (3, .int .i64 e), (4, .func (.func 143) #[] #[]), (18, .int .i64 d), (19, .int .i64 ((d + m : Nat) : Int)), (20, .int .i64 s.i), (21, .int .i64 s.j), (22, .int .i64 ((d + m - 1 : Nat) : Int))]) (fun _ => (b, .cells ((W).flatMap Job.cells ++ post).toArray 91 (0, 0)) :: G) (fun s => s.j - s.i) ⟨(d + m - e), d⟩ (Sea.start (by omega)) (by (repeat (first | exact keep_nil | refine keep_cons rfl ?_)); first | done | fail) (by repeat (first | exact Sub.refl _ | refine Sub.take (by repeat (first | exact Take.here | apply Take.there | apply Take.app)) ?_ | refine Sub.takeE (by repeat (first | exact TakeE.here | apply TakeE.there | apply TakeE.app)) ?_ | exact Sub.nil _ | apply Sub.drop | apply Sub.dropE)) ?_
        intro s hs9
        obtain ⟨i, j⟩ := s
        dsimp only at hs9 ⊢
        have hse := hs9
        obtain ⟨hb1, hb2, hb3, hb4, hb5⟩ := hs9
        refine aw_seq ?_
        refine aw_seq_region ?_
        refine sr_x rfl (wtd_none rfl) rfl (Rd.x (x_move rfl)) ?_
        refine sr_x rfl (wtd_none rfl) rfl (Rd.x (x_move rfl)) ?_
        refine sr_cmp rfl (wtd_none rfl) rfl (Rd.x (x_lt rfl rfl)) (fun h10 => ?_) (fun h10 => ?_)
        · refine sr_nil ?_
          refine aw_keep (keep_cons (t := 0) rfl (keep_cons (t := 1) rfl (keep_cons (t := 2) rfl (keep_cons (t := 3) rfl (keep_cons (t := 4) rfl (keep_cons (t := 18) rfl (keep_cons (t := 19) rfl (keep_cons (t := 20) rfl (keep_cons (t := 21) rfl (keep_cons (t := 22) rfl (keep_cons (t := 149) rfl (keep_cons (t := 150) rfl (keep_cons (t := 151) rfl keep_nil))))))))))))) ?_
          refine aw_true rfl ?_
          refine aw_skip ?_
          show AW _ _ _ _ _ _ _
          refine aw_block ?_
          refine aw_seq_region ?_
          refine sr_x rfl (wtd_none rfl) rfl (Rd.x (x_move rfl)) ?_
          refine sr_x rfl (wtd_none rfl) rfl (Rd.x (x_move rfl)) ?_
          refine sr_x rfl (wtd_none rfl) rfl (Rd.x (x_add' rfl rfl (i64w (by omega) (by omega)))) ?_
          refine sr_x rfl (wtd_none rfl) rfl (Rd.x (x_conv' Try.underlying3 Try.underlying207 rfl (u64w (by omega) (by omega)))) ?_
          refine sr_x rfl (wtd_none rfl) rfl (Rd.x (x_cast (x_shr rfl rfl (by omega)) (shrH (i) (j)))) ?_
          refine sr_x rfl (wtd_none rfl) rfl (Rd.x (x_conv' Try.underlying207 Try.underlying3 rfl (i64w (by omega) (by omega)))) ?_
          refine sr_x rfl (wtd_none rfl) rfl (Rd.x (x_assign rfl)) ?_
          refine sr_nil ?_
          refine aw_keep (keep_cons (t := 0) rfl (keep_cons (t := 1) rfl (keep_cons (t := 2) rfl (keep_cons (t := 3) rfl (keep_cons (t := 4) rfl (keep_cons (t := 18) rfl (keep_cons (t := 19) rfl (keep_cons (t := 20) rfl (keep_cons (t := 21) rfl (keep_cons (t := 22) rfl (keep_cons (t := 23) rfl (keep_cons (t := 149) rfl (keep_cons (t := 150) rfl (keep_cons (t := 151) rfl (keep_cons (t := 152) rfl (keep_cons (t := 153) rfl (keep_cons (t := 154) rfl (keep_cons (t := 155) rfl (keep_cons (t := 156) rfl (keep_cons (t := 157) rfl keep_nil)))))))))))))))))))) ?_
          refine aw_seq_dr ⟨_, 14, 220, [[], [], [], [], [2, 3], [1, 2, 3, 4], [1, 2, 3, 4, 5], [], [], [7, 8], [7, 8, 9], [0, 1, 2, 3, 4, 5, 6, 7, 8, 9, 10], [0, 1, 2, 3, 4, 5, 6, 7, 8, 9, 10, 11], [0, 1, 2, 3, 4, 5, 6, 7, 8, 9, 10, 11, 12]], [.light, .light, .light, .light, .light, .light, .mem, .light, .light, .light, .mem, .call, .light, .light]⟩ (by kernel_rfl) rfl rfl mix ?_
          refine dr_light rfl rfl (wtd_none rfl) (x_move rfl) ?_
          refine dr_light rfl rfl (wtd_none rfl) (x_move rfl) ?_
          refine dr_light rfl rfl (wtd_none rfl) (x_move rfl) ?_
          refine dr_light rfl rfl (wtd_none rfl) (x_move rfl) ?_
          refine dr_light rfl rfl (wtd_none rfl) (x_cast (u := .int .i64 ((d + m - 1 - (i + j) / 2 : Nat) : Int)) (x_sub' rfl rfl (i64w (by omega) (by omega))) (by congr 1; omega)) ?_
          refine dr_light rfl rfl (wtd_none rfl) (x_indexAddrN (d + m - 1 - (i + j) / 2) Try.underlying22 sz91 rfl rfl rfl (by omega) (by omega)) ?_
          refine dr_mem0 rfl rfl (wtd_none rfl) (x_loadN ag91 sz91 rfl ((cells_flat0 (n := 10) (enc := Job.cells) (fun _ => rfl) (xs := W) (post := post) (show (b, Obj.cells ((W).flatMap Job.cells ++ post).toArray 91 (0, 0)) ∈ _ from (by repeat (first | exact List.mem_cons_self | apply List.mem_cons_of_mem | apply List.mem_append_right))) (gd_some (by omega)))) rfl) ?_
          refine dr_light rfl rfl (wtd_none rfl) (x_move rfl) ?_
          refine dr_light rfl rfl (wtd_none rfl) (x_move rfl) ?_
          refine dr_light rfl rfl (wtd_none rfl) (x_indexAddrN ((i + j) / 2) Try.underlying22 sz91 rfl rfl rfl (by omega) (by omega)) ?_
          refine dr_mem0 rfl rfl (wtd_none rfl) (x_loadN ag91 sz91 rfl ((cells_flat0 (n := 10) (enc := Job.cells) (fun _ => rfl) (xs := W) (post := post) (show (b, Obj.cells ((W).flatMap Job.cells ++ post).toArray 91 (0, 0)) ∈ _ from (by repeat (first | exact List.mem_cons_self | apply List.mem_cons_of_mem | apply List.mem_append_right))) (gd_some (by omega)))) rfl) ?_
          refine dr_callq0 rfl rfl (wtd_none rfl) (opS_F rfl rfl rfl rfl cl143 ((hcmp (gd W (d + m - 1 - (i + j) / 2)) (gd W ((i + j) / 2)) _ (by repeat (first | exact Sub.refl _ | apply Sub.drop | apply Sub.dropE))))) (⟨_, rfl⟩) ?_
          rintro _ rfl
          refine dr_cmp rfl rfl (wtd_none rfl) (x_lt rfl rfl) (fun h11 => ?_) (fun h11 => ?_)
          · refine dr_light rfl rfl (wtd_none rfl) (x_not rfl) ?_
            refine dr_nil0 ?_
            refine aw_keep (keep_cons (t := 0) rfl (keep_cons (t := 1) rfl (keep_cons (t := 2) rfl (keep_cons (t := 3) rfl (keep_cons (t := 4) rfl (keep_cons (t := 18) rfl (keep_cons (t := 19) rfl (keep_cons (t := 20) rfl (keep_cons (t := 21) rfl (keep_cons (t := 22) rfl (keep_cons (t := 23) rfl (keep_cons (t := 149) rfl (keep_cons (t := 150) rfl (keep_cons (t := 151) rfl (keep_cons (t := 152) rfl (keep_cons (t := 153) rfl (keep_cons (t := 154) rfl (keep_cons (t := 155) rfl (keep_cons (t := 156) rfl (keep_cons (t := 157) rfl (keep_cons (t := 158) rfl (keep_cons (t := 159) rfl (keep_cons (t := 160) rfl (keep_cons (t := 161) rfl (keep_cons (t := 162) rfl (keep_cons (t := 163) rfl (keep_cons (t := 164) rfl (keep_cons (t := 165) rfl (keep_cons (t := 166) rfl (keep_cons (t := 167) rfl (keep_cons (t := 168) rfl (keep_cons (t := 169) rfl (keep_cons (t := 170) rfl (keep_cons (t := 171) rfl keep_nil)))))))))))))))))))))))))))))))))) ?_
            refine aw_false rfl ?_
            refine aw_region ?_
            refine sr_x rfl (wtd_none rfl) rfl (Rd.x (x_move rfl)) ?_
            refine sr_x rfl (wtd_none rfl) rfl (Rd.x (x_assign rfl)) ?_
            refine sr_nil ?_
            show ∃ s', _ ∧ _ ∧ _ ∧ _
            first | exact ⟨⟨(i + j) / 2 + 1, j⟩, hse.right (mono_mid hsw hA hB (by omega) (by omega) (fun h q1 q2 => by omega) : ∀ x y, (d + m - e) ≤ x → x ≤ y → y < d → (fun h => c (gd W (d + m - 1 - h)) (gd W h) < 0) x → (fun h => c (gd W (d + m - 1 - h)) (gd W h) < 0) y) (by omega) (by assumption), by dsimp only; omega, (by (repeat (first | exact keep_nil | refine keep_cons rfl ?_)); first | done | fail), (by repeat (first | exact Sub.refl _ | refine Sub.take (by repeat (first | exact Take.here | apply Take.there | apply Take.app)) ?_ | refine Sub.takeE (by repeat (first | exact TakeE.here | apply TakeE.there | apply TakeE.app)) ?_ | exact Sub.nil _ | apply Sub.drop | apply Sub.dropE))⟩ | exact ⟨⟨i, (i + j) / 2⟩, hse.left (mono_mid hsw hA hB (by omega) (by omega) (fun h q1 q2 => by omega) : ∀ x y, (d + m - e) ≤ x → x ≤ y → y < d → (fun h => c (gd W (d + m - 1 - h)) (gd W h) < 0) x → (fun h => c (gd W (d + m - 1 - h)) (gd W h) < 0) y) (by omega) (by assumption), by dsimp only; omega, (by (repeat (first | exact keep_nil | refine keep_cons rfl ?_)); first | done | fail), (by repeat (first | exact Sub.refl _ | refine Sub.take (by repeat (first | exact Take.here | apply Take.there | apply Take.app)) ?_ | refine Sub.takeE (by repeat (first | exact TakeE.here | apply TakeE.there | apply TakeE.app)) ?_ | exact Sub.nil _ | apply Sub.drop | apply Sub.dropE))⟩
          · refine dr_light rfl rfl (wtd_none rfl) (x_not rfl) ?_
            refine dr_nil0 ?_
            refine aw_keep (keep_cons (t := 0) rfl (keep_cons (t := 1) rfl (keep_cons (t := 2) rfl (keep_cons (t := 3) rfl (keep_cons (t := 4) rfl (keep_cons (t := 18) rfl (keep_cons (t := 19) rfl (keep_cons (t := 20) rfl (keep_cons (t := 21) rfl (keep_cons (t := 22) rfl (keep_cons (t := 23) rfl (keep_cons (t := 149) rfl (keep_cons (t := 150) rfl (keep_cons (t := 151) rfl (keep_cons (t := 152) rfl (keep_cons (t := 153) rfl (keep_cons (t := 154) rfl (keep_cons (t := 155) rfl (keep_cons (t := 156) rfl (keep_cons (t := 157) rfl (keep_cons (t := 158) rfl (keep_cons (t := 159) rfl (keep_cons (t := 160) rfl (keep_cons (t := 161) rfl (keep_cons (t := 162) rfl (keep_cons (t := 163) rfl (keep_cons (t := 164) rfl (keep_cons (t := 165) rfl (keep_cons (t := 166) rfl (keep_cons (t := 167) rfl (keep_cons (t := 168) rfl (keep_cons (t := 169) rfl (keep_cons (t := 170) rfl (keep_cons (t := 171) rfl keep_nil)))))))))))))))))))))))))))))))))) ?_
            refine aw_true rfl ?_
            refine aw_region ?_
            refine sr_x rfl (wtd_none rfl) rfl (Rd.x (x_move rfl)) ?_
            refine sr_x rfl (wtd_none rfl) rfl (Rd.x (x_add' rfl rfl (i64w (by omega) (by omega)))) ?_
            refine sr_x rfl (wtd_none rfl) rfl (Rd.x (x_assign rfl)) ?_
            refine sr_nil ?_
            show ∃ s', _ ∧ _ ∧ _ ∧ _
            first | exact ⟨⟨(i + j) / 2 + 1, j⟩, hse.right (mono_mid hsw hA hB (by omega) (by omega) (fun h q1 q2 => by omega) : ∀ x y, (d + m - e) ≤ x → x ≤ y → y < d → (fun h => c (gd W (d + m - 1 - h)) (gd W h) < 0) x → (fun h => c (gd W (d + m - 1 - h)) (gd W h) < 0) y) (by omega) (by assumption), by dsimp only; omega, (by (repeat (first | exact keep_nil | refine keep_cons rfl ?_)); first | done | fail), (by repeat (first | exact Sub.refl _ | refine Sub.take (by repeat (first | exact Take.here | apply Take.there | apply Take.app)) ?_ | refine Sub.takeE (by repeat (first | exact TakeE.here | apply TakeE.there | apply TakeE.app)) ?_ | exact Sub.nil _ | apply Sub.drop | apply Sub.dropE))⟩ | exact ⟨⟨i, (i + j) / 2⟩, hse.left (mono_mid hsw hA hB (by omega) (by omega) (fun h q1 q2 => by omega) : ∀ x y, (d + m - e) ≤ x → x ≤ y → y < d → (fun h => c (gd W (d + m - 1 - h)) (gd W h) < 0) x → (fun h => c (gd W (d + m - 1 - h)) (gd W h) < 0) y) (by omega) (by assumption), by dsimp only; omega, (by (repeat (first | exact keep_nil | refine keep_cons rfl ?_)); first | done | fail), (by repeat (first | exact Sub.refl _ | refine Sub.take (by repeat (first | exact Take.here | apply Take.there | apply Take.app)) ?_ | refine Sub.takeE (by repeat (first | exact TakeE.here | apply TakeE.there | apply TakeE.app)) ?_ | exact Sub.nil _ | apply Sub.drop | apply Sub.dropE))⟩
        · refine sr_nil ?_
          refine aw_keep (keep_cons (t := 0) rfl (keep_cons (t := 1) rfl (keep_cons (t := 2) rfl (keep_cons (t := 3) rfl (keep_cons (t := 4) rfl (keep_cons (t := 18) rfl (keep_cons (t := 19) rfl (keep_cons (t := 20) rfl (keep_cons (t := 21) rfl (keep_cons (t := 22) rfl (keep_cons (t := 149) rfl (keep_cons (t := 150) rfl (keep_cons (t := 151) rfl keep_nil))))))))))))) ?_
          refine aw_false rfl ?_
          refine aw_exit ?_
          show AW _ _ _ _ _ _ _
          refine aw_seq_region ?_
          refine sr_x rfl (wtd_none rfl) rfl (Rd.x (x_move rfl)) ?_
          refine sr_x rfl (wtd_none rfl) rfl (Rd.x (x_move rfl)) ?_
          refine sr_x rfl (wtd_none rfl) rfl (Rd.x (x_cast (u := .int .i64 ((d + m - i : Nat) : Int)) (x_sub' rfl rfl (i64w (by omega) (by omega))) (by congr 1; omega))) ?_
          refine sr_x rfl (wtd_none rfl) rfl (Rd.x (x_assign rfl)) ?_
          refine sr_nil ?_
          refine aw_keep (keep_cons (t := 0) rfl (keep_cons (t := 1) rfl (keep_cons (t := 2) rfl (keep_cons (t := 3) rfl (keep_cons (t := 4) rfl (keep_cons (t := 18) rfl (keep_cons (t := 20) rfl (keep_cons (t := 24) rfl keep_nil)))))))) ?_
          refine aw_join (ι := List Job) (fun W1 => W1.length = n ∧ Mv W (rotF i m (d + m - i)) W1) (fun W1 => [(0, .slice (some ⟨b, 0, none⟩) n cap), (1, .int .i64 a), (3, .int .i64 e), (4, .func (.func 143) #[] #[]), (18, .int .i64 d), (20, .int .i64 i), (24, .int .i64 ((d + m - i : Nat) : Int))]) (fun W1 => (b, .cells ((W1).flatMap Job.cells ++ post).toArray 91 (0, 0)) :: G) ?_ ?_
          · refine aw_seq_region ?_
            refine sr_x rfl (wtd_none rfl) rfl (Rd.x (x_move rfl)) ?_
            refine sr_x rfl (wtd_none rfl) rfl (Rd.x (x_move rfl)) ?_
            refine sr_cmp rfl (wtd_none rfl) rfl (Rd.x (x_lt rfl rfl)) (fun h12 => ?_) (fun h12 => ?_)
            · refine sr_x rfl (wtd_none rfl) rfl (Rd.x (x_move rfl)) ?_
              refine sr_x rfl (wtd_yes rfl rfl rfl) rfl (Rd.x (x_move rfl)) ?_
              refine sr_x rfl (wtd_yes rfl rfl rfl) rfl (Rd.x (x_move rfl)) ?_
              refine sr_cmp rfl (wtd_yes rfl rfl rfl) rfl (Rd.x (x_lt rfl rfl)) (fun h13 => ?_) (fun h13 => ?_)
              · refine sr_x rfl (wtd_none rfl) rfl (Rd.x (x_pick_t rfl rfl rfl)) ?_
                refine sr_nil ?_
                refine aw_keep (keep_cons (t := 0) rfl (keep_cons (t := 1) rfl (keep_cons (t := 2) rfl (keep_cons (t := 3) rfl (keep_cons (t := 4) rfl (keep_cons (t := 18) rfl (keep_cons (t := 20) rfl (keep_cons (t := 24) rfl (keep_cons (t := 185) rfl keep_nil))))))))) ?_
                refine aw_true rfl ?_
                refine aw_region ?_
                refine sr_x rfl (wtd_none rfl) rfl (Rd.x (x_move rfl)) ?_
                refine sr_x rfl (wtd_none rfl) rfl (Rd.x (x_move rfl)) ?_
                refine sr_x rfl (wtd_none rfl) rfl (Rd.x (x_move rfl)) ?_
                refine sr_x rfl (wtd_none rfl) rfl (Rd.x (x_move rfl)) ?_
                refine sr_x rfl (wtd_none rfl) rfl (Rd.x (x_move rfl)) ?_
                refine sr_d rfl (wtd_none rfl) rfl (opS_call rfl rfl rfl rfl cl180 (AC.sub (by repeat (first | exact Sub.refl _ | refine Sub.take (by repeat (first | exact Take.here | apply Take.there | apply Take.app)) ?_ | refine Sub.takeE (by repeat (first | exact TakeE.here | apply TakeE.there | apply TakeE.app)) ?_ | exact Sub.nil _ | apply Sub.drop | apply Sub.dropE)) (jsRot_s b cap n W post G hl hn hcap hcb i m (d + m - i) (by omega) (by omega) (by omega)))) ?_
                rintro _ _ ⟨W9, hm9, rfl, rfl⟩
                refine sr_nil ?_
                show ∃ s', _ ∧ _ ∧ _
                first | exact ⟨W9, ⟨hm9.1.trans hl, hm9⟩, (by (repeat (first | exact keep_nil | refine keep_cons rfl ?_)); first | done | fail), (by repeat (first | exact Sub.refl _ | refine Sub.take (by repeat (first | exact Take.here | apply Take.there | apply Take.app)) ?_ | refine Sub.takeE (by repeat (first | exact TakeE.here | apply TakeE.there | apply TakeE.app)) ?_ | exact Sub.nil _ | apply Sub.drop | apply Sub.dropE))⟩ | exact ⟨W, ⟨hl, Mv.refl W (rotF_triv (by omega) (by omega) (by omega))⟩, (by (repeat (first | exact keep_nil | refine keep_cons rfl ?_)); first | done | fail), (by repeat (first | exact Sub.refl _ | refine Sub.take (by repeat (first | exact Take.here | apply Take.there | apply Take.app)) ?_ | refine Sub.takeE (by repeat (first | exact TakeE.here | apply TakeE.there | apply TakeE.app)) ?_ | exact Sub.nil _ | apply Sub.drop | apply Sub.dropE))⟩
              · refine sr_x rfl (wtd_none rfl) rfl (Rd.x (x_pick_t rfl rfl rfl)) ?_
                refine sr_nil ?_
                refine aw_keep (keep_cons (t := 0) rfl (keep_cons (t := 1) rfl (keep_cons (t := 2) rfl (keep_cons (t := 3) rfl (keep_cons (t := 4) rfl (keep_cons (t := 18) rfl (keep_cons (t := 20) rfl (keep_cons (t := 24) rfl (keep_cons (t := 185) rfl keep_nil))))))))) ?_
                refine aw_false rfl ?_
                refine aw_skip ?_
                show ∃ s', _ ∧ _ ∧ _
                first | exact ⟨W9, ⟨hm9.1.trans hl, hm9⟩, (by (repeat (first | exact keep_nil | refine keep_cons rfl ?_)); first | done | fail), (by repeat (first | exact Sub.refl _ | refine Sub.take (by repeat (first | exact Take.here | apply Take.there | apply Take.app)) ?_ | refine Sub.takeE (by repeat (first | exact TakeE.here | apply TakeE.there | apply TakeE.app)) ?_ | exact Sub.nil _ | apply Sub.drop | apply Sub.dropE))⟩ | exact ⟨W, ⟨hl, Mv.refl W (rotF_triv (by omega) (by omega) (by omega))⟩, (by (repeat (first | exact keep_nil | refine keep_cons rfl ?_)); first | done | fail), (by repeat (first | exact Sub.refl _ | refine Sub.take (by repeat (first | exact Take.here | apply Take.there | apply Take.app)) ?_ | refine Sub.takeE (by repeat (first | exact TakeE.here | apply TakeE.there | apply TakeE.app)) ?_ | exact Sub.nil _ | apply Sub.drop | apply Sub.dropE))⟩
            · refine sr_x rfl (wtd_none rfl) rfl (Rd.x (x_move rfl)) ?_
              refine sr_skip rfl (wtd_no rfl rfl rfl rfl) rfl ?_
              refine sr_skip rfl (wtd_no rfl rfl rfl rfl) rfl ?_
              refine sr_skip rfl (wtd_no rfl rfl rfl rfl) rfl ?_
              refine sr_x rfl (wtd_none rfl) rfl (Rd.x (x_pick_f rfl rfl rfl)) ?_
              refine sr_nil ?_
              refine aw_keep (keep_cons (t := 0) rfl (keep_cons (t := 1) rfl (keep_cons (t := 2) rfl (keep_cons (t := 3) rfl (keep_cons (t := 4) rfl (keep_cons (t := 18) rfl (keep_cons (t := 20) rfl (keep_cons (t := 24) rfl (keep_cons (t := 185) rfl keep_nil))))))))) ?_
              refine aw_false rfl ?_
              refine aw_skip ?_
              show ∃ s', _ ∧ _ ∧ _
              first | exact ⟨W9, ⟨hm9.1.trans hl, hm9⟩, (by (repeat (first | exact keep_nil | refine keep_cons rfl ?_)); first | done | fail), (by repeat (first | exact Sub.refl _ | refine Sub.take (by repeat (first | exact Take.here | apply Take.there | apply Take.app)) ?_ | refine Sub.takeE (by repeat (first | exact TakeE.here | apply TakeE.there | apply TakeE.app)) ?_ | exact Sub.nil _ | apply Sub.drop | apply Sub.dropE))⟩ | exact ⟨W, ⟨hl, Mv.refl W (rotF_triv (by omega) (by omega) (by omega))⟩, (by (repeat (first | exact keep_nil | refine keep_cons rfl ?_)); first | done | fail), (by repeat (first | exact Sub.refl _ | refine Sub.take (by repeat (first | exact Take.here | apply Take.there | apply Take.app)) ?_ | refine Sub.takeE (by repeat (first | exact TakeE.here | apply TakeE.there | apply TakeE.app)) ?_ | exact Sub.nil _ | apply Sub.drop | apply Sub.dropE))⟩
          · intro W1 hW1
            obtain ⟨hl1, hm1⟩ := hW1
            obtain ⟨hst1, hin1, hp4⟩ := merge_cut (d := d) (s := i) (e := d + m - i) hsw (by omega) (by omega) (by omega) (by omega) (by omega) (by omega) (by omega) hA hB (fun q1 q2 => by have h7 : c (gd W (d + m - 1 - i)) (gd W i) < 0 := hb5 i (by omega) (by omega); rw [show d + m - i - 1 = d + m - 1 - i by omega]; exact h7) (fun q1 q2 => by have h7 : ¬ c (gd W (d + m - 1 - (i - 1))) (gd W (i - 1)) < 0 := hb4 (i - 1) (by omega) (by omega); rw [show d + m - 1 - (i - 1) = d + m - i by omega] at h7; exact h7) hm1
            refine aw_join (ι := List Job) (fun W2 => W2.length = n ∧ Mg c W1 a d W2) (fun W2 => [(0, .slice (some ⟨b, 0, none⟩) n cap), (3, .int .i64 e), (4, .func (.func 143) #[] #[]), (18, .int .i64 d), (24, .int .i64 ((d + m - i : Nat) : Int))]) (fun W2 => (b, .cells ((W2).flatMap Job.cells ++ post).toArray 91 (0, 0)) :: G) ?_ ?_
            · refine aw_seq_region ?_
              refine sr_x rfl (wtd_none rfl) rfl (Rd.x (x_move rfl)) ?_
              refine sr_x rfl (wtd_none rfl) rfl (Rd.x (x_move rfl)) ?_
              refine sr_cmp rfl (wtd_none rfl) rfl (Rd.x (x_lt rfl rfl)) (fun h14 => ?_) (fun h14 => ?_)
              · refine sr_x rfl (wtd_none rfl) rfl (Rd.x (x_move rfl)) ?_
                refine sr_x rfl (wtd_yes rfl rfl rfl) rfl (Rd.x (x_move rfl)) ?_
                refine sr_x rfl (wtd_yes rfl rfl rfl) rfl (Rd.x (x_move rfl)) ?_
                refine sr_cmp rfl (wtd_yes rfl rfl rfl) rfl (Rd.x (x_lt rfl rfl)) (fun h15 => ?_) (fun h15 => ?_)
                · refine sr_x rfl (wtd_none rfl) rfl (Rd.x (x_pick_t rfl rfl rfl)) ?_
                  refine sr_nil ?_
                  refine aw_keep (keep_cons (t := 0) rfl (keep_cons (t := 1) rfl (keep_cons (t := 3) rfl (keep_cons (t := 4) rfl (keep_cons (t := 18) rfl (keep_cons (t := 20) rfl (keep_cons (t := 24) rfl (keep_cons (t := 199) rfl keep_nil)))))))) ?_
                  refine aw_true rfl ?_
                  refine aw_region ?_
                  refine sr_x rfl (wtd_none rfl) rfl (Rd.x (x_move rfl)) ?_
                  refine sr_x rfl (wtd_none rfl) rfl (Rd.x (x_move rfl)) ?_
                  refine sr_x rfl (wtd_none rfl) rfl (Rd.x (x_move rfl)) ?_
                  refine sr_x rfl (wtd_none rfl) rfl (Rd.x (x_move rfl)) ?_
                  refine sr_x rfl (wtd_none rfl) rfl (Rd.x (x_move rfl)) ?_
                  refine sr_d rfl (wtd_none rfl) rfl (opS_call rfl rfl rfl rfl cl172 (AC.sub (by repeat (first | exact Sub.refl _ | refine Sub.take (by repeat (first | exact Take.here | apply Take.there | apply Take.app)) ?_ | refine Sub.takeE (by repeat (first | exact TakeE.here | apply TakeE.there | apply TakeE.app)) ?_ | exact Sub.nil _ | apply Sub.drop | apply Sub.dropE)) (ih W1 a i d (by omega) (by omega) (by omega) (by omega) (by omega) (hp4.1) (hp4.2.1)))) ?_
                  rintro _ _ ⟨W8, hmg8, rfl, rfl⟩
                  refine sr_nil ?_
                  show ∃ s', _ ∧ _ ∧ _
                  first | exact ⟨W8, ⟨hmg8.2.1.1.trans hl1, hmg8⟩, (by (repeat (first | exact keep_nil | refine keep_cons rfl ?_)); first | done | fail), (by repeat (first | exact Sub.refl _ | refine Sub.take (by repeat (first | exact Take.here | apply Take.there | apply Take.app)) ?_ | refine Sub.takeE (by repeat (first | exact TakeE.here | apply TakeE.there | apply TakeE.app)) ?_ | exact Sub.nil _ | apply Sub.drop | apply Sub.dropE))⟩ | exact ⟨W1, ⟨hl1, Mg.triv (by omega) hp4.1 hp4.2.1⟩, (by (repeat (first | exact keep_nil | refine keep_cons rfl ?_)); first | done | fail), (by repeat (first | exact Sub.refl _ | refine Sub.take (by repeat (first | exact Take.here | apply Take.there | apply Take.app)) ?_ | refine Sub.takeE (by repeat (first | exact TakeE.here | apply TakeE.there | apply TakeE.app)) ?_ | exact Sub.nil _ | apply Sub.drop | apply Sub.dropE))⟩
                · refine sr_x rfl (wtd_none rfl) rfl (Rd.x (x_pick_t rfl rfl rfl)) ?_
                  refine sr_nil ?_
                  refine aw_keep (keep_cons (t := 0) rfl (keep_cons (t := 1) rfl (keep_cons (t := 3) rfl (keep_cons (t := 4) rfl (keep_cons (t := 18) rfl (keep_cons (t := 20) rfl (keep_cons (t := 24) rfl (keep_cons (t := 199) rfl keep_nil)))))))) ?_
                  refine aw_false rfl ?_
                  refine aw_skip ?_
                  show ∃ s', _ ∧ _ ∧ _
                  first | exact ⟨W8, ⟨hmg8.2.1.1.trans hl1, hmg8⟩, (by (repeat (first | exact keep_nil | refine keep_cons rfl ?_)); first | done | fail), (by repeat (first | exact Sub.refl _ | refine Sub.take (by repeat (first | exact Take.here | apply Take.there | apply Take.app)) ?_ | refine Sub.takeE (by repeat (first | exact TakeE.here | apply TakeE.there | apply TakeE.app)) ?_ | exact Sub.nil _ | apply Sub.drop | apply Sub.dropE))⟩ | exact ⟨W1, ⟨hl1, Mg.triv (by omega) hp4.1 hp4.2.1⟩, (by (repeat (first | exact keep_nil | refine keep_cons rfl ?_)); first | done | fail), (by repeat (first | exact Sub.refl _ | refine Sub.take (by repeat (first | exact Take.here | apply Take.there | apply Take.app)) ?_ | refine Sub.takeE (by repeat (first | exact TakeE.here | apply TakeE.there | apply TakeE.app)) ?_ | exact Sub.nil _ | apply Sub.drop | apply Sub.dropE))⟩
              · refine sr_x rfl (wtd_none rfl) rfl (Rd.x (x_move rfl)) ?_
                refine sr_skip rfl (wtd_no rfl rfl rfl rfl) rfl ?_
                refine sr_skip rfl (wtd_no rfl rfl rfl rfl) rfl ?_
                refine sr_skip rfl (wtd_no rfl rfl rfl rfl) rfl ?_
                refine sr_x rfl (wtd_none rfl) rfl (Rd.x (x_pick_f rfl rfl rfl)) ?_
                refine sr_nil ?_
                refine aw_keep (keep_cons (t := 0) rfl (keep_cons (t := 1) rfl (keep_cons (t := 3) rfl (keep_cons (t := 4) rfl (keep_cons (t := 18) rfl (keep_cons (t := 20) rfl (keep_cons (t := 24) rfl (keep_cons (t := 199) rfl keep_nil)))))))) ?_
                refine aw_false rfl ?_
                refine aw_skip ?_
                show ∃ s', _ ∧ _ ∧ _
                first | exact ⟨W8, ⟨hmg8.2.1.1.trans hl1, hmg8⟩, (by (repeat (first | exact keep_nil | refine keep_cons rfl ?_)); first | done | fail), (by repeat (first | exact Sub.refl _ | refine Sub.take (by repeat (first | exact Take.here | apply Take.there | apply Take.app)) ?_ | refine Sub.takeE (by repeat (first | exact TakeE.here | apply TakeE.there | apply TakeE.app)) ?_ | exact Sub.nil _ | apply Sub.drop | apply Sub.dropE))⟩ | exact ⟨W1, ⟨hl1, Mg.triv (by omega) hp4.1 hp4.2.1⟩, (by (repeat (first | exact keep_nil | refine keep_cons rfl ?_)); first | done | fail), (by repeat (first | exact Sub.refl _ | refine Sub.take (by repeat (first | exact Take.here | apply Take.there | apply Take.app)) ?_ | refine Sub.takeE (by repeat (first | exact TakeE.here | apply TakeE.there | apply TakeE.app)) ?_ | exact Sub.nil _ | apply Sub.drop | apply Sub.dropE))⟩
            · intro W2 hW2
              obtain ⟨hl2, hmg2⟩ := hW2
              refine aw_seq_region ?_
              refine sr_x rfl (wtd_none rfl) rfl (Rd.x (x_move rfl)) ?_
              refine sr_x rfl (wtd_none rfl) rfl (Rd.x (x_move rfl)) ?_
              refine sr_cmp rfl (wtd_none rfl) rfl (Rd.x (x_lt rfl rfl)) (fun h16 => ?_) (fun h16 => ?_)
              · refine sr_x rfl (wtd_none rfl) rfl (Rd.x (x_move rfl)) ?_
                refine sr_x rfl (wtd_yes rfl rfl rfl) rfl (Rd.x (x_move rfl)) ?_
                refine sr_x rfl (wtd_yes rfl rfl rfl) rfl (Rd.x (x_move rfl)) ?_
                refine sr_cmp rfl (wtd_yes rfl rfl rfl) rfl (Rd.x (x_lt rfl rfl)) (fun h17 => ?_) (fun h17 => ?_)
                · refine sr_x rfl (wtd_none rfl) rfl (Rd.x (x_pick_t rfl rfl rfl)) ?_
                  refine sr_nil ?_
                  refine aw_keep (keep_cons (t := 0) rfl (keep_cons (t := 3) rfl (keep_cons (t := 4) rfl (keep_cons (t := 18) rfl (keep_cons (t := 24) rfl (keep_cons (t := 213) rfl keep_nil)))))) ?_
                  refine aw_true rfl ?_
                  refine aw_region ?_
                  refine sr_x rfl (wtd_none rfl) rfl (Rd.x (x_move rfl)) ?_
                  refine sr_x rfl (wtd_none rfl) rfl (Rd.x (x_move rfl)) ?_
                  refine sr_x rfl (wtd_none rfl) rfl (Rd.x (x_move rfl)) ?_
                  refine sr_x rfl (wtd_none rfl) rfl (Rd.x (x_move rfl)) ?_
                  refine sr_x rfl (wtd_none rfl) rfl (Rd.x (x_move rfl)) ?_
                  refine sr_d rfl (wtd_none rfl) rfl (opS_call rfl rfl rfl rfl cl172 (AC.sub (by repeat (first | exact Sub.refl _ | refine Sub.take (by repeat (first | exact Take.here | apply Take.there | apply Take.app)) ?_ | refine Sub.takeE (by repeat (first | exact TakeE.here | apply TakeE.there | apply TakeE.app)) ?_ | exact Sub.nil _ | apply Sub.drop | apply Sub.dropE)) (ih W2 d (d + m - i) e (by omega) (by omega) (by omega) (by omega) (by omega) ((hp4.2.2.1.same fun k q1 q2 => hmg2.2.1.2.1 k (by omega))) ((hp4.2.2.2.1.same fun k q1 q2 => hmg2.2.1.2.1 k (by omega)))))) ?_
                  rintro _ _ ⟨W3, hmg3, rfl, rfl⟩
                  refine sr_nil ?_
                  show ∃ v H2, ResV _ _ _ _ _ _ v ∧ Sub H2 _ ∧ _
                  first | (obtain rfl : i = j := (by omega); obtain rfl : m = a + 1 := (by omega); obtain rfl : i = k + 1 := (by omega); exact ⟨_, _, resV rfl .nil, Sub.refl _, cur, Mg.one_up hsw (by omega) (by omega) (by omega) hB (fun h q1 q2 => Classical.not_not.1 (hb4 h q1 q2)) hb5 hmv, rfl, rfl⟩) | (obtain rfl : i = j := (by omega); obtain rfl : e = m + 1 := (by omega); obtain rfl : k = i := (by omega); exact ⟨_, _, resV rfl .nil, Sub.refl _, cur, Mg.one_down hsw (by omega) (by omega) (by omega) hA hb4 hb5 hmv, rfl, rfl⟩) | exact ⟨_, _, resV rfl .nil, Sub.refl _, W3, merge_end (by omega) hst1 hin1 hp4 hmg2 hmg3, rfl, rfl⟩ | exact ⟨_, _, resV rfl .nil, Sub.refl _, W2, merge_end (by omega) hst1 hin1 hp4 hmg2 (Mg.triv (s := d + m - i) (by omega) (hp4.2.2.1.same fun k q1 q2 => hmg2.2.1.2.1 k (by omega)) (hp4.2.2.2.1.same fun k q1 q2 => hmg2.2.1.2.1 k (by omega))), rfl, rfl⟩
                · refine sr_x rfl (wtd_none rfl) rfl (Rd.x (x_pick_t rfl rfl rfl)) ?_
                  refine sr_nil ?_
                  refine aw_keep (keep_cons (t := 0) rfl (keep_cons (t := 3) rfl (keep_cons (t := 4) rfl (keep_cons (t := 18) rfl (keep_cons (t := 24) rfl (keep_cons (t := 213) rfl keep_nil)))))) ?_
                  refine aw_false rfl ?_
                  refine aw_skip ?_
                  show ∃ v H2, ResV _ _ _ _ _ _ v ∧ Sub H2 _ ∧ _
                  first | (obtain rfl : i = j := (by omega); obtain rfl : m = a + 1 := (by omega); obtain rfl : i = k + 1 := (by omega); exact ⟨_, _, resV rfl .nil, Sub.refl _, cur, Mg.one_up hsw (by omega) (by omega) (by omega) hB (fun h q1 q2 => Classical.not_not.1 (hb4 h q1 q2)) hb5 hmv, rfl, rfl⟩) | (obtain rfl : i = j := (by omega); obtain rfl : e = m + 1 := (by omega); obtain rfl : k = i := (by omega); exact ⟨_, _, resV rfl .nil, Sub.refl _, cur, Mg.one_down hsw (by omega) (by omega) (by omega) hA hb4 hb5 hmv, rfl, rfl⟩) | exact ⟨_, _, resV rfl .nil, Sub.refl _, W3, merge_end (by omega) hst1 hin1 hp4 hmg2 hmg3, rfl, rfl⟩ | exact ⟨_, _, resV rfl .nil, Sub.refl _, W2, merge_end (by omega) hst1 hin1 hp4 hmg2 (Mg.triv (s := d + m - i) (by omega) (hp4.2.2.1.same fun k q1 q2 => hmg2.2.1.2.1 k (by omega)) (hp4.2.2.2.1.same fun k q1 q2 => hmg2.2.1.2.1 k (by omega))), rfl, rfl⟩
              · refine sr_x rfl (wtd_none rfl) rfl (Rd.x (x_move rfl)) ?_
                refine sr_skip rfl (wtd_no rfl rfl rfl rfl) rfl ?_
                refine sr_skip rfl (wtd_no rfl rfl rfl rfl) rfl ?_
                refine sr_skip rfl (wtd_no rfl rfl rfl rfl) rfl ?_
                refine sr_x rfl (wtd_none rfl) rfl (Rd.x (x_pick_f rfl rfl rfl)) ?_
                refine sr_nil ?_
                refine aw_keep (keep_cons (t := 0) rfl (keep_cons (t := 3) rfl (keep_cons (t := 4) rfl (keep_cons (t := 18) rfl (keep_cons (t := 24) rfl (keep_cons (t := 213) rfl keep_nil)))))) ?_
                refine aw_false rfl ?_
                refine aw_skip ?_
                show ∃ v H2, ResV _ _ _ _ _ _ v ∧ Sub H2 _ ∧ _
                first | (obtain rfl : i = j := (by omega); obtain rfl : m = a + 1 := (by omega); obtain rfl : i = k + 1 := (by omega); exact ⟨_, _, resV rfl .nil, Sub.refl _, cur, Mg.one_up hsw (by omega) (by omega) (by omega) hB (fun h q1 q2 => Classical.not_not.1 (hb4 h q1 q2)) hb5 hmv, rfl, rfl⟩) | (obtain rfl : i = j := (by omega); obtain rfl : e = m + 1 := (by omega); obtain rfl : k = i := (by omega); exact ⟨_, _, resV rfl .nil, Sub.refl _, cur, Mg.one_down hsw (by omega) (by omega) (by omega) hA hb4 hb5 hmv, rfl, rfl⟩) | exact ⟨_, _, resV rfl .nil, Sub.refl _, W3, merge_end (by omega) hst1 hin1 hp4 hmg2 hmg3, rfl, rfl⟩ | exact ⟨_, _, resV rfl .nil, Sub.refl _, W2, merge_end (by omega) hst1 hin1 hp4 hmg2 (Mg.triv (s := d + m - i) (by omega) (hp4.2.2.1.same fun k q1 q2 => hmg2.2.1.2.1 k (by omega)) (hp4.2.2.2.1.same fun k q1 q2 => hmg2.2.1.2.1 k (by omega))), rfl, rfl⟩
      · refine sr_nil ?_
        refine aw_keep (keep_cons (t := 0) rfl (keep_cons (t := 1) rfl (keep_cons (t := 2) rfl (keep_cons (t := 3) rfl (keep_cons (t := 4) rfl (keep_cons (t := 18) rfl (keep_cons (t := 19) rfl (keep_cons (t := 20) rfl (keep_cons (t := 21) rfl (keep_cons (t := 140) rfl keep_nil)))))))))) ?_
        refine aw_false rfl ?_
        refine aw_seq_region ?_
        refine sr_x rfl (wtd_none rfl) rfl (Rd.x (x_move rfl)) ?_
        refine sr_x rfl (wtd_none rfl) rfl (Rd.x (x_assign rfl)) ?_
        refine sr_nil ?_
        refine aw_keep (keep_cons (t := 0) rfl (keep_cons (t := 1) rfl (keep_cons (t := 2) rfl (keep_cons (t := 3) rfl (keep_cons (t := 4) rfl (keep_cons (t := 18) rfl (keep_cons (t := 19) rfl (keep_cons (t := 20) rfl (keep_cons (t := 21) rfl keep_nil))))))))) ?_
        refine aw_region ?_
        refine sr_x rfl (wtd_none rfl) rfl (Rd.x (x_move rfl)) ?_
        refine sr_x rfl (wtd_none rfl) rfl (Rd.x (x_assign rfl)) ?_
        refine sr_nil ?_
        show AW _ _ _ _ _ _ _
        refine aw_seq_region ?_
        refine sr_x rfl (wtd_none rfl) rfl (Rd.x (x_move rfl)) ?_
        refine sr_x rfl (wtd_none rfl) rfl (Rd.x (x_cast (u := .int .i64 ((d + m - 1 : Nat) : Int)) (x_sub' rfl rfl (i64w (by omega) (by omega))) (by congr 1; omega))) ?_
        refine sr_x rfl (wtd_none rfl) rfl (Rd.x (x_assign rfl)) ?_
        refine sr_nil ?_
        refine aw_keep (keep_cons (t := 0) rfl (keep_cons (t := 1) rfl (keep_cons (t := 2) rfl (keep_cons (t := 3) rfl (keep_cons (t := 4) rfl (keep_cons (t := 18) rfl (keep_cons (t := 19) rfl (keep_cons (t := 20) rfl (keep_cons (t := 21) rfl (keep_cons (t := 22) rfl keep_nil)))))))))) ?_
        refine aw_seq ?_
        refine aw_block ?_
        refine aw_loop (ι := SeaG) (fun s => Sea (fun h => c (gd W (d + m - 1 - h)) (gd W h) < 0) a m s.i s.j) (fun s => [(0, .slice (some ⟨b, 0, none⟩) n cap), (1, .int .i64 a), (2, .int .i64 m), (3, .int .i64 e), (4, .func (.func 143) #[] #[]), (18, .int .i64 d), (19, .int .i64 ((d + m : Nat) : Int)), (20, .int .i64 s.i), (21, .int .i64 s.j), (22, .int .i64 ((d + m - 1 : Nat) : Int))]) (fun _ => (b, .cells ((W).flatMap Job.cells ++ post).toArray 91 (0, 0)) :: G) (fun s => s.j - s.i) ⟨a, m⟩ (Sea.start (by omega)) (by (repeat (first | exact keep_nil | refine keep_cons rfl ?_)); first | done | fail) (by repeat (first | exact Sub.refl _ | refine Sub.take (by repeat (first | exact Take.here | apply Take.there | apply Take.app)) ?_ | refine Sub.takeE (by repeat (first | exact TakeE.here | apply TakeE.there | apply TakeE.app)) ?_ | exact Sub.nil _ | apply Sub.drop | apply Sub.dropE)) ?_
        intro s hs9
        obtain ⟨i, j⟩ := s
        dsimp only at hs9 ⊢
        have hse := hs9
        obtain ⟨hb1, hb2, hb3, hb4, hb5⟩ := hs9
        refine aw_seq ?_
        refine aw_seq_region ?_
        refine sr_x rfl (wtd_none rfl) rfl (Rd.x (x_move rfl)) ?_
        refine sr_x rfl (wtd_none rfl) rfl (Rd.x (x_move rfl)) ?_
        refine sr_cmp rfl (wtd_none rfl) rfl (Rd.x (x_lt rfl rfl)) (fun h18 => ?_) (fun h18 => ?_)
        · refine sr_nil ?_
          refine aw_keep (keep_cons (t := 0) rfl (keep_cons (t := 1) rfl (keep_cons (t := 2) rfl (keep_cons (t := 3) rfl (keep_cons (t := 4) rfl (keep_cons (t := 18) rfl (keep_cons (t := 19) rfl (keep_cons (t := 20) rfl (keep_cons (t := 21) rfl (keep_cons (t := 22) rfl (keep_cons (t := 149) rfl (keep_cons (t := 150) rfl (keep_cons (t := 151) rfl keep_nil))))))))))))) ?_
          refine aw_true rfl ?_
          refine aw_skip ?_
          show AW _ _ _ _ _ _ _
          refine aw_block ?_
          refine aw_seq_region ?_
          refine sr_x rfl (wtd_none rfl) rfl (Rd.x (x_move rfl)) ?_
          refine sr_x rfl (wtd_none rfl) rfl (Rd.x (x_move rfl)) ?_
          refine sr_x rfl (wtd_none rfl) rfl (Rd.x (x_add' rfl rfl (i64w (by omega) (by omega)))) ?_
          refine sr_x rfl (wtd_none rfl) rfl (Rd.x (x_conv' Try.underlying3 Try.underlying207 rfl (u64w (by omega) (by omega)))) ?_
          refine sr_x rfl (wtd_none rfl) rfl (Rd.x (x_cast (x_shr rfl rfl (by omega)) (shrH (i) (j)))) ?_
          refine sr_x rfl (wtd_none rfl) rfl (Rd.x (x_conv' Try.underlying207 Try.underlying3 rfl (i64w (by omega) (by omega)))) ?_
          refine sr_x rfl (wtd_none rfl) rfl (Rd.x (x_assign rfl)) ?_
          refine sr_nil ?_
          refine aw_keep (keep_cons (t := 0) rfl (keep_cons (t := 1) rfl (keep_cons (t := 2) rfl (keep_cons (t := 3) rfl (keep_cons (t := 4) rfl (keep_cons (t := 18) rfl (keep_cons (t := 19) rfl (keep_cons (t := 20) rfl (keep_cons (t := 21) rfl (keep_cons (t := 22) rfl (keep_cons (t := 23) rfl (keep_cons (t := 149) rfl (keep_cons (t := 150) rfl (keep_cons (t := 151) rfl (keep_cons (t := 152) rfl (keep_cons (t := 153) rfl (keep_cons (t := 154) rfl (keep_cons (t := 155) rfl (keep_cons (t := 156) rfl (keep_cons (t := 157) rfl keep_nil)))))))))))))))))))) ?_
          refine aw_seq_dr ⟨_, 14, 220, [[], [], [], [], [2, 3], [1, 2, 3, 4], [1, 2, 3, 4, 5], [], [], [7, 8], [7, 8, 9], [0, 1, 2, 3, 4, 5, 6, 7, 8, 9, 10], [0, 1, 2, 3, 4, 5, 6, 7, 8, 9, 10, 11], [0, 1, 2, 3, 4, 5, 6, 7, 8, 9, 10, 11, 12]], [.light, .light, .light, .light, .light, .light, .mem, .light, .light, .light, .mem, .call, .light, .light]⟩ (by kernel_rfl) rfl rfl mix ?_
          refine dr_light rfl rfl (wtd_none rfl) (x_move rfl) ?_
          refine dr_light rfl rfl (wtd_none rfl) (x_move rfl) ?_
          refine dr_light rfl rfl (wtd_none rfl) (x_move rfl) ?_
          refine dr_light rfl rfl (wtd_none rfl) (x_move rfl) ?_
          refine dr_light rfl rfl (wtd_none rfl) (x_cast (u := .int .i64 ((d + m - 1 - (i + j) / 2 : Nat) : Int)) (x_sub' rfl rfl (i64w (by omega) (by omega))) (by congr 1; omega)) ?_
          refine dr_light rfl rfl (wtd_none rfl) (x_indexAddrN (d + m - 1 - (i + j) / 2) Try.underlying22 sz91 rfl rfl rfl (by omega) (by omega)) ?_
          refine dr_mem0 rfl rfl (wtd_none rfl) (x_loadN ag91 sz91 rfl ((cells_flat0 (n := 10) (enc := Job.cells) (fun _ => rfl) (xs := W) (post := post) (show (b, Obj.cells ((W).flatMap Job.cells ++ post).toArray 91 (0, 0)) ∈ _ from (by repeat (first | exact List.mem_cons_self | apply List.mem_cons_of_mem | apply List.mem_append_right))) (gd_some (by omega)))) rfl) ?_
          refine dr_light rfl rfl (wtd_none rfl) (x_move rfl) ?_
          refine dr_light rfl rfl (wtd_none rfl) (x_move rfl) ?_
          refine dr_light rfl rfl (wtd_none rfl) (x_indexAddrN ((i + j) / 2) Try.underlying22 sz91 rfl rfl rfl (by omega) (by omega)) ?_
          refine dr_mem0 rfl rfl (wtd_none rfl) (x_loadN ag91 sz91 rfl ((cells_flat0 (n := 10) (enc := Job.cells) (fun _ => rfl) (xs := W) (post := post) (show (b, Obj.cells ((W).flatMap Job.cells ++ post).toArray 91 (0, 0)) ∈ _ from (by repeat (first | exact List.mem_cons_self | apply List.mem_cons_of_mem | apply List.mem_append_right))) (gd_some (by omega)))) rfl) ?_
          refine dr_callq0 rfl rfl (wtd_none rfl) (opS_F rfl rfl rfl rfl cl143 ((hcmp (gd W (d + m - 1 - (i + j) / 2)) (gd W ((i + j) / 2)) _ (by repeat (first | exact Sub.refl _ | apply Sub.drop | apply Sub.dropE))))) (⟨_, rfl⟩) ?_
          rintro _ rfl
          refine dr_cmp rfl rfl (wtd_none rfl) (x_lt rfl rfl) (fun h19 => ?_) (fun h19 => ?_)
          · refine dr_light rfl rfl (wtd_none rfl) (x_not rfl) ?_
            refine dr_nil0 ?_
            refine aw_keep (keep_cons (t := 0) rfl (keep_cons (t := 1) rfl (keep_cons (t := 2) rfl (keep_cons (t := 3) rfl (keep_cons (t := 4) rfl (keep_cons (t := 18) rfl (keep_cons (t := 19) rfl (keep_cons (t := 20) rfl (keep_cons (t := 21) rfl (keep_cons (t := 22) rfl (keep_cons (t := 23) rfl (keep_cons (t := 149) rfl (keep_cons (t := 150) rfl (keep_cons (t := 151) rfl (keep_cons (t := 152) rfl (keep_cons (t := 153) rfl (keep_cons (t := 154) rfl (keep_cons (t := 155) rfl (keep_cons (t := 156) rfl (keep_cons (t := 157) rfl (keep_cons (t := 158) rfl (keep_cons (t := 159) rfl (keep_cons (t := 160) rfl (keep_cons (t := 161) rfl (keep_cons (t := 162) rfl (keep_cons (t := 163) rfl (keep_cons (t := 164) rfl (keep_cons (t := 165) rfl (keep_cons (t := 166) rfl (keep_cons (t := 167) rfl (keep_cons (t := 168) rfl (keep_cons (t := 169) rfl (keep_cons (t := 170) rfl (keep_cons (t := 171) rfl keep_nil)))))))))))))))))))))))))))))))))) ?_
            refine aw_false rfl ?_
            refine aw_region ?_
            refine sr_x rfl (wtd_none rfl) rfl (Rd.x (x_move rfl)) ?_
            refine sr_x rfl (wtd_none rfl) rfl (Rd.x (x_assign rfl)) ?_
            refine sr_nil ?_
            show ∃ s', _ ∧ _ ∧ _ ∧ _
            first | exact ⟨⟨(i + j) / 2 + 1, j⟩, hse.right (mono_mid hsw hA hB (by omega) (by omega) (fun h q1 q2 => by omega) : ∀ x y, a ≤ x → x ≤ y → y < m → (fun h => c (gd W (d + m - 1 - h)) (gd W h) < 0) x → (fun h => c (gd W (d + m - 1 - h)) (gd W h) < 0) y) (by omega) (by assumption), by dsimp only; omega, (by (repeat (first | exact keep_nil | refine keep_cons rfl ?_)); first | done | fail), (by repeat (first | exact Sub.refl _ | refine Sub.take (by repeat (first | exact Take.here | apply Take.there | apply Take.app)) ?_ | refine Sub.takeE (by repeat (first | exact TakeE.here | apply TakeE.there | apply TakeE.app)) ?_ | exact Sub.nil _ | apply Sub.drop | apply Sub.dropE))⟩ | exact ⟨⟨i, (i + j) / 2⟩, hse.left (mono_mid hsw hA hB (by omega) (by omega) (fun h q1 q2 => by omega) : ∀ x y, a ≤ x → x ≤ y → y < m → (fun h => c (gd W (d + m - 1 - h)) (gd W h) < 0) x → (fun h => c (gd W (d + m - 1 - h)) (gd W h) < 0) y) (by omega) (by assumption), by dsimp only; omega, (by (repeat (first | exact keep_nil | refine keep_cons rfl ?_)); first | done | fail), (by repeat (first | exact Sub.refl _ | refine Sub.take (by repeat (first | exact Take.here | apply Take.there | apply Take.app)) ?_ | refine Sub.takeE (by repeat (first | exact TakeE.here | apply TakeE.there | apply TakeE.app)) ?_ | exact Sub.nil _ | apply Sub.drop | apply Sub.dropE))⟩
          · refine dr_light rfl rfl (wtd_none rfl) (x_not rfl) ?_
            refine dr_nil0 ?_
            refine aw_keep (keep_cons (t := 0) rfl (keep_cons (t := 1) rfl (keep_cons (t := 2) rfl (keep_cons (t := 3) rfl (keep_cons (t := 4) rfl (keep_cons (t := 18) rfl (keep_cons (t := 19) rfl (keep_cons (t := 20) rfl (keep_cons (t := 21) rfl (keep_cons (t := 22) rfl (keep_cons (t := 23) rfl (keep_cons (t := 149) rfl (keep_cons (t := 150) rfl (keep_cons (t := 151) rfl (keep_cons (t := 152) rfl (keep_cons (t := 153) rfl (keep_cons (t := 154) rfl (keep_cons (t := 155) rfl (keep_cons (t := 156) rfl (keep_cons (t := 157) rfl (keep_cons (t := 158) rfl (keep_cons (t := 159) rfl (keep_cons (t := 160) rfl (keep_cons (t := 161) rfl (keep_cons (t := 162) rfl (keep_cons (t := 163) rfl (keep_cons (t := 164) rfl (keep_cons (t := 165) rfl (keep_cons (t := 166) rfl (keep_cons (t := 167) rfl (keep_cons (t := 168) rfl (keep_cons (t := 169) rfl (keep_cons (t := 170) rfl (keep_cons (t := 171) rfl keep_nil)))))))))))))))))))))))))))))))))) ?_
            refine aw_true rfl ?_
            refine aw_region ?_
            refine sr_x rfl (wtd_none rfl) rfl (Rd.x (x_move rfl)) ?_
            refine sr_x rfl (wtd_none rfl) rfl (Rd.x (x_add' rfl rfl (i64w (by omega) (by omega)))) ?_
            refine sr_x rfl (wtd_none rfl) rfl (Rd.x (x_assign rfl)) ?_
            refine sr_nil ?_
            show ∃ s', _ ∧ _ ∧ _ ∧ _
            first | exact ⟨⟨(i + j) / 2 + 1, j⟩, hse.right (mono_mid hsw hA hB (by omega) (by omega) (fun h q1 q2 => by omega) : ∀ x y, a ≤ x → x ≤ y → y < m → (fun h => c (gd W (d + m - 1 - h)) (gd W h) < 0) x → (fun h => c (gd W (d + m - 1 - h)) (gd W h) < 0) y) (by omega) (by assumption), by dsimp only; omega, (by (repeat (first | exact keep_nil | refine keep_cons rfl ?_)); first | done | fail), (by repeat (first | exact Sub.refl _ | refine Sub.take (by repeat (first | exact Take.here | apply Take.there | apply Take.app)) ?_ | refine Sub.takeE (by repeat (first | exact TakeE.here | apply TakeE.there | apply TakeE.app)) ?_ | exact Sub.nil _ | apply Sub.drop | apply Sub.dropE))⟩ | exact ⟨⟨i, (i + j) / 2⟩, hse.left (mono_mid hsw hA hB (by omega) (by omega) (fun h q1 q2 => by omega) : ∀ x y, a ≤ x → x ≤ y → y < m → (fun h => c (gd W (d + m - 1 - h)) (gd W h) < 0) x → (fun h => c (gd W (d + m - 1 - h)) (gd W h) < 0) y) (by omega) (by assumption), by dsimp only; omega, (by (repeat (first | exact keep_nil | refine keep_cons rfl ?_)); first | done | fail), (by repeat (first | exact Sub.refl _ | refine Sub.take (by repeat (first | exact Take.here | apply Take.there | apply Take.app)) ?_ | refine Sub.takeE (by repeat (first | exact TakeE.here | apply TakeE.there | apply TakeE.app)) ?_ | exact Sub.nil _ | apply Sub.drop | apply Sub.dropE))⟩
        · refine sr_nil ?_
          refine aw_keep (keep_cons (t := 0) rfl (keep_cons (t := 1) rfl (keep_cons (t := 2) rfl (keep_cons (t := 3) rfl (keep_cons (t := 4) rfl (keep_cons (t := 18) rfl (keep_cons (t := 19) rfl (keep_cons (t := 20) rfl (keep_cons (t := 21) rfl (keep_cons (t := 22) rfl (keep_cons (t := 149) rfl (keep_cons (t := 150) rfl (keep_cons (t := 151) rfl keep_nil))))))))))))) ?_
          refine aw_false rfl ?_
          refine aw_exit ?_
          show AW _ _ _ _ _ _ _
          refine aw_seq_region ?_
          refine sr_x rfl (wtd_none rfl) rfl (Rd.x (x_move rfl)) ?_
          refine sr_x rfl (wtd_none rfl) rfl (Rd.x (x_move rfl)) ?_
          refine sr_x rfl (wtd_none rfl) rfl (Rd.x (x_cast (u := .int .i64 ((d + m - i : Nat) : Int)) (x_sub' rfl rfl (i64w (by omega) (by omega))) (by congr 1; omega))) ?_
          refine sr_x rfl (wtd_none rfl) rfl (Rd.x (x_assign rfl)) ?_
          refine sr_nil ?_
          refine aw_keep (keep_cons (t := 0) rfl (keep_cons (t := 1) rfl (keep_cons (t := 2) rfl (keep_cons (t := 3) rfl (keep_cons (t := 4) rfl (keep_cons (t := 18) rfl (keep_cons (t := 20) rfl (keep_cons (t := 24) rfl keep_nil)))))))) ?_
          refine aw_join (ι := List Job) (fun W1 => W1.length = n ∧ Mv W (rotF i m (d + m - i)) W1) (fun W1 => [(0, .slice (some ⟨b, 0, none⟩) n cap), (1, .int .i64 a), (3, .int .i64 e), (4, .func (.func 143) #[] #[]), (18, .int .i64 d), (20, .int .i64 i), (24, .int .i64 ((d + m - i : Nat) : Int))]) (fun W1 => (b, .cells ((W1).flatMap Job.cells ++ post).toArray 91 (0, 0)) :: G) ?_ ?_
          · refine aw_seq_region ?_
            refine sr_x rfl (wtd_none rfl) rfl (Rd.x (x_move rfl)) ?_
            refine sr_x rfl (wtd_none rfl) rfl (Rd.x (x_move rfl)) ?_
            refine sr_cmp rfl (wtd_none rfl) rfl (Rd.x (x_lt rfl rfl)) (fun h20 => ?_) (fun h20 => ?_)
            · refine sr_x rfl (wtd_none rfl) rfl (Rd.x (x_move rfl)) ?_
              refine sr_x rfl (wtd_yes rfl rfl rfl) rfl (Rd.x (x_move rfl)) ?_
              refine sr_x rfl (wtd_yes rfl rfl rfl) rfl (Rd.x (x_move rfl)) ?_
              refine sr_cmp rfl (wtd_yes rfl rfl rfl) rfl (Rd.x (x_lt rfl rfl)) (fun h21 => ?_) (fun h21 => ?_)
              · refine sr_x rfl (wtd_none rfl) rfl (Rd.x (x_pick_t rfl rfl rfl)) ?_
                refine sr_nil ?_
                refine aw_keep (keep_cons (t := 0) rfl (keep_cons (t := 1) rfl (keep_cons (t := 2) rfl (keep_cons (t := 3) rfl (keep_cons (t := 4) rfl (keep_cons (t := 18) rfl (keep_cons (t := 20) rfl (keep_cons (t := 24) rfl (keep_cons (t := 185) rfl keep_nil))))))))) ?_
                refine aw_true rfl ?_
                refine aw_region ?_
                refine sr_x rfl (wtd_none rfl) rfl (Rd.x (x_move rfl)) ?_
                refine sr_x rfl (wtd_none rfl) rfl (Rd.x (x_move rfl)) ?_
                refine sr_x rfl (wtd_none rfl) rfl (Rd.x (x_move rfl)) ?_
                refine sr_x rfl (wtd_none rfl) rfl (Rd.x (x_move rfl)) ?_
                refine sr_x rfl (wtd_none rfl) rfl (Rd.x (x_move rfl)) ?_
                refine sr_d rfl (wtd_none rfl) rfl (opS_call rfl rfl rfl rfl cl180 (AC.sub (by repeat (first | exact Sub.refl _ | refine Sub.take (by repeat (first | exact Take.here | apply Take.there | apply Take.app)) ?_ | refine Sub.takeE (by repeat (first | exact TakeE.here | apply TakeE.there | apply TakeE.app)) ?_ | exact Sub.nil _ | apply Sub.drop | apply Sub.dropE)) (jsRot_s b cap n W post G hl hn hcap hcb i m (d + m - i) (by omega) (by omega) (by omega)))) ?_
                rintro _ _ ⟨W9, hm9, rfl, rfl⟩
                refine sr_nil ?_
                show ∃ s', _ ∧ _ ∧ _
                first | exact ⟨W9, ⟨hm9.1.trans hl, hm9⟩, (by (repeat (first | exact keep_nil | refine keep_cons rfl ?_)); first | done | fail), (by repeat (first | exact Sub.refl _ | refine Sub.take (by repeat (first | exact Take.here | apply Take.there | apply Take.app)) ?_ | refine Sub.takeE (by repeat (first | exact TakeE.here | apply TakeE.there | apply TakeE.app)) ?_ | exact Sub.nil _ | apply Sub.drop | apply Sub.dropE))⟩ | exact ⟨W, ⟨hl, Mv.refl W (rotF_triv (by omega) (by omega) (by omega))⟩, (by (repeat (first | exact keep_nil | refine keep_cons rfl ?_)); first | done | fail), (by repeat (first | exact Sub.refl _ | refine Sub.take (by repeat (first | exact Take.here | apply Take.there | apply Take.app)) ?_ | refine Sub.takeE (by repeat (first | exact TakeE.here | apply TakeE.there | apply TakeE.app)) ?_ | exact Sub.nil _ | apply Sub.drop | apply Sub.dropE))⟩
              · refine sr_x rfl (wtd_none rfl) rfl (Rd.x (x_pick_t rfl rfl rfl)) ?_
                refine sr_nil ?_
                refine aw_keep (keep_cons (t := 0) rfl (keep_cons (t := 1) rfl (keep_cons (t := 2) rfl (keep_cons (t := 3) rfl (keep_cons (t := 4) rfl (keep_cons (t := 18) rfl (keep_cons (t := 20) rfl (keep_cons (t := 24) rfl (keep_cons (t := 185) rfl keep_nil))))))))) ?_
                refine aw_false rfl ?_
                refine aw_skip ?_
                show ∃ s', _ ∧ _ ∧ _
                first | exact ⟨W9, ⟨hm9.1.trans hl, hm9⟩, (by (repeat (first | exact keep_nil | refine keep_cons rfl ?_)); first | done | fail), (by repeat (first | exact Sub.refl _ | refine Sub.take (by repeat (first | exact Take.here | apply Take.there | apply Take.app)) ?_ | refine Sub.takeE (by repeat (first | exact TakeE.here | apply TakeE.there | apply TakeE.app)) ?_ | exact Sub.nil _ | apply Sub.drop | apply Sub.dropE))⟩ | exact ⟨W, ⟨hl, Mv.refl W (rotF_triv (by omega) (by omega) (by omega))⟩, (by (repeat (first | exact keep_nil | refine keep_cons rfl ?_)); first | done | fail), (by repeat (first | exact Sub.refl _ | refine Sub.take (by repeat (first | exact Take.here | apply Take.there | apply Take.app)) ?_ | refine Sub.takeE (by repeat (first | exact TakeE.here | apply TakeE.there | apply TakeE.app)) ?_ | exact Sub.nil _ | apply Sub.drop | apply Sub.dropE))⟩
            · refine sr_x rfl (wtd_none rfl) rfl (Rd.x (x_move rfl)) ?_
              refine sr_skip rfl (wtd_no rfl rfl rfl rfl) rfl ?_
              refine sr_skip rfl (wtd_no rfl rfl rfl rfl) rfl ?_
              refine sr_skip rfl (wtd_no rfl rfl rfl rfl) rfl ?_
              refine sr_x rfl (wtd_none rfl) rfl (Rd.x (x_pick_f rfl rfl rfl)) ?_
              refine sr_nil ?_
              refine aw_keep (keep_cons (t := 0) rfl (keep_cons (t := 1) rfl (keep_cons (t := 2) rfl (keep_cons (t := 3) rfl (keep_cons (t := 4) rfl (keep_cons (t := 18) rfl (keep_cons (t := 20) rfl (keep_cons (t := 24) rfl (keep_cons (t := 185) rfl keep_nil))))))))) ?_
              refine aw_false rfl ?_
              refine aw_skip ?_
              show ∃ s', _ ∧ _ ∧ _
              first | exact ⟨W9, ⟨hm9.1.trans hl, hm9⟩, (by (repeat (first | exact keep_nil | refine keep_cons rfl ?_)); first | done | fail), (by repeat (first | exact Sub.refl _ | refine Sub.take (by repeat (first | exact Take.here | apply Take.there | apply Take.app)) ?_ | refine Sub.takeE (by repeat (first | exact TakeE.here | apply TakeE.there | apply TakeE.app)) ?_ | exact Sub.nil _ | apply Sub.drop | apply Sub.dropE))⟩ | exact ⟨W, ⟨hl, Mv.refl W (rotF_triv (by omega) (by omega) (by omega))⟩, (by (repeat (first | exact keep_nil | refine keep_cons rfl ?_)); first | done | fail), (by repeat (first | exact Sub.refl _ | refine Sub.take (by repeat (first | exact Take.here | apply Take.there | apply Take.app)) ?_ | refine Sub.takeE (by repeat (first | exact TakeE.here | apply TakeE.there | apply TakeE.app)) ?_ | exact Sub.nil _ | apply Sub.drop | apply Sub.dropE))⟩
          · intro W1 hW1
            obtain ⟨hl1, hm1⟩ := hW1
            obtain ⟨hst1, hin1, hp4⟩ := merge_cut (d := d) (s := i) (e := d + m - i) hsw (by omega) (by omega) (by omega) (by omega) (by omega) (by omega) (by omega) hA hB (fun q1 q2 => by have h7 : c (gd W (d + m - 1 - i)) (gd W i) < 0 := hb5 i (by omega) (by omega); rw [show d + m - i - 1 = d + m - 1 - i by omega]; exact h7) (fun q1 q2 => by have h7 : ¬ c (gd W (d + m - 1 - (i - 1))) (gd W (i - 1)) < 0 := hb4 (i - 1) (by omega) (by omega); rw [show d + m - 1 - (i - 1) = d + m - i by omega] at h7; exact h7) hm1
            refine aw_join (ι := List Job) (fun W2 => W2.length = n ∧ Mg c W1 a d W2) (fun W2 => [(0, .slice (some ⟨b, 0, none⟩) n cap), (3, .int .i64 e), (4, .func (.func 143) #[] #[]), (18, .int .i64 d), (24, .int .i64 ((d + m - i : Nat) : Int))]) (fun W2 => (b, .cells ((W2).flatMap Job.cells ++ post).toArray 91 (0, 0)) :: G) ?_ ?_
            · refine aw_seq_region ?_
              refine sr_x rfl (wtd_none rfl) rfl (Rd.x (x_move rfl)) ?_
              refine sr_x rfl (wtd_none rfl) rfl (Rd.x (x_move rfl)) ?_
              refine sr_cmp rfl (wtd_none rfl) rfl (Rd.x (x_lt rfl rfl)) (fun h22 => ?_) (fun h22 => ?_)
              · refine sr_x rfl (wtd_none rfl) rfl (Rd.x (x_move rfl)) ?_
                refine sr_x rfl (wtd_yes rfl rfl rfl) rfl (Rd.x (x_move rfl)) ?_
                refine sr_x rfl (wtd_yes rfl rfl rfl) rfl (Rd.x (x_move rfl)) ?_
                refine sr_cmp rfl (wtd_yes rfl rfl rfl) rfl (Rd.x (x_lt rfl rfl)) (fun h23 => ?_) (fun h23 => ?_)
                · refine sr_x rfl (wtd_none rfl) rfl (Rd.x (x_pick_t rfl rfl rfl)) ?_
                  refine sr_nil ?_
                  refine aw_keep (keep_cons (t := 0) rfl (keep_cons (t := 1) rfl (keep_cons (t := 3) rfl (keep_cons (t := 4) rfl (keep_cons (t := 18) rfl (keep_cons (t := 20) rfl (keep_cons (t := 24) rfl (keep_cons (t := 199) rfl keep_nil)))))))) ?_
                  refine aw_true rfl ?_
                  refine aw_region ?_
                  refine sr_x rfl (wtd_none rfl) rfl (Rd.x (x_move rfl)) ?_
                  refine sr_x rfl (wtd_none rfl) rfl (Rd.x (x_move rfl)) ?_
                  refine sr_x rfl (wtd_none rfl) rfl (Rd.x (x_move rfl)) ?_
                  refine sr_x rfl (wtd_none rfl) rfl (Rd.x (x_move rfl)) ?_
                  refine sr_x rfl (wtd_none rfl) rfl (Rd.x (x_move rfl)) ?_
                  refine sr_d rfl (wtd_none rfl) rfl (opS_call rfl rfl rfl rfl cl172 (AC.sub (by repeat (first | exact Sub.refl _ | refine Sub.take (by repeat (first | exact Take.here | apply Take.there | apply Take.app)) ?_ | refine Sub.takeE (by repeat (first | exact TakeE.here | apply TakeE.there | apply TakeE.app)) ?_ | exact Sub.nil _ | apply Sub.drop | apply Sub.dropE)) (ih W1 a i d (by omega) (by omega) (by omega) (by omega) (by omega) (hp4.1) (hp4.2.1)))) ?_
                  rintro _ _ ⟨W8, hmg8, rfl, rfl⟩
                  refine sr_nil ?_
                  show ∃ s', _ ∧ _ ∧ _
                  first | exact ⟨W8, ⟨hmg8.2.1.1.trans hl1, hmg8⟩, (by (repeat (first | exact keep_nil | refine keep_cons rfl ?_)); first | done | fail), (by repeat (first | exact Sub.refl _ | refine Sub.take (by repeat (first | exact Take.here | apply Take.there | apply Take.app)) ?_ | refine Sub.takeE (by repeat (first | exact TakeE.here | apply TakeE.there | apply TakeE.app)) ?_ | exact Sub.nil _ | apply Sub.drop | apply Sub.dropE))⟩ | exact ⟨W1, ⟨hl1, Mg.triv (by omega) hp4.1 hp4.2.1⟩, (by (repeat (first | exact keep_nil | refine keep_cons rfl ?_)); first | done | fail), (by repeat (first | exact Sub.refl _ | refine Sub.take (by repeat (first | exact Take.here | apply Take.there | apply Take.app)) ?_ | refine Sub.takeE (by repeat (first | exact TakeE.here | apply TakeE.there | apply TakeE.app)) ?_ | exact Sub.nil _ | apply Sub.drop | apply Sub.dropE))⟩
                · refine sr_x rfl (wtd_none rfl) rfl (Rd.x (x_pick_t rfl rfl rfl)) ?_
                  refine sr_nil ?_
                  refine aw_keep (keep_cons (t := 0) rfl (keep_cons (t := 1) rfl (keep_cons (t := 3) rfl (keep_cons (t := 4) rfl (keep_cons (t := 18) rfl (keep_cons (t := 20) rfl (keep_cons (t := 24) rfl (keep_cons (t := 199) rfl keep_nil)))))))) ?_
                  refine aw_false rfl ?_
                  refine aw_skip ?_
                  show ∃ s', _ ∧ _ ∧ _
                  first | exact ⟨W8, ⟨hmg8.2.1.1.trans hl1, hmg8⟩, (by (repeat (first | exact keep_nil | refine keep_cons rfl ?_)); first | done | fail), (by repeat (first | exact Sub.refl _ | refine Sub.take (by repeat (first | exact Take.here | apply Take.there | apply Take.app)) ?_ | refine Sub.takeE (by repeat (first | exact TakeE.here | apply TakeE.there | apply TakeE.app)) ?_ | exact Sub.nil _ | apply Sub.drop | apply Sub.dropE))⟩ | exact ⟨W1, ⟨hl1, Mg.triv (by omega) hp4.1 hp4.2.1⟩, (by (repeat (first | exact keep_nil | refine keep_cons rfl ?_)); first | done | fail), (by repeat (first | exact Sub.refl _ | refine Sub.take (by repeat (first | exact Take.here | apply Take.there | apply Take.app)) ?_ | refine Sub.takeE (by repeat (first | exact TakeE.here | apply TakeE.there | apply TakeE.app)) ?_ | exact Sub.nil _ | apply Sub.drop | apply Sub.dropE))⟩
              · refine sr_x rfl (wtd_none rfl) rfl (Rd.x (x_move rfl)) ?_
                refine sr_skip rfl (wtd_no rfl rfl rfl rfl) rfl ?_
                refine sr_skip rfl (wtd_no rfl rfl rfl rfl) rfl ?_
                refine sr_skip rfl (wtd_no rfl rfl rfl rfl) rfl ?_
                refine sr_x rfl (wtd_none rfl) rfl (Rd.x (x_pick_f rfl rfl rfl)) ?_
                refine sr_nil ?_
                refine aw_keep (keep_cons (t := 0) rfl (keep_cons (t := 1) rfl (keep_cons (t := 3) rfl (keep_cons (t := 4) rfl (keep_cons (t := 18) rfl (keep_cons (t := 20) rfl (keep_cons (t := 24) rfl (keep_cons (t := 199) rfl keep_nil)))))))) ?_
                refine aw_false rfl ?_
                refine aw_skip ?_
                show ∃ s', _ ∧ _ ∧ _
                first | exact ⟨W8, ⟨hmg8.2.1.1.trans hl1, hmg8⟩, (by (repeat (first | exact keep_nil | refine keep_cons rfl ?_)); first | done | fail), (by repeat (first | exact Sub.refl _ | refine Sub.take (by repeat (first | exact Take.here | apply Take.there | apply Take.app)) ?_ | refine Sub.takeE (by repeat (first | exact TakeE.here | apply TakeE.there | apply TakeE.app)) ?_ | exact Sub.nil _ | apply Sub.drop | apply Sub.dropE))⟩ | exact ⟨W1, ⟨hl1, Mg.triv (by omega) hp4.1 hp4.2.1⟩, (by (repeat (first | exact keep_nil | refine keep_cons rfl ?_)); first | done | fail), (by repeat (first | exact Sub.refl _ | refine Sub.take (by repeat (first | exact Take.here | apply Take.there | apply Take.app)) ?_ | refine Sub.takeE (by repeat (first | exact TakeE.here | apply TakeE.there | apply TakeE.app)) ?_ | exact Sub.nil _ | apply Sub.drop | apply Sub.dropE))⟩
            · intro W2 hW2
              obtain ⟨hl2, hmg2⟩ := hW2
              refine aw_seq_region ?_
              refine sr_x rfl (wtd_none rfl) rfl (Rd.x (x_move rfl)) ?_
              refine sr_x rfl (wtd_none rfl) rfl (Rd.x (x_move rfl)) ?_
              refine sr_cmp rfl (wtd_none rfl) rfl (Rd.x (x_lt rfl rfl)) (fun h24 => ?_) (fun h24 => ?_)
              · refine sr_x rfl (wtd_none rfl) rfl (Rd.x (x_move rfl)) ?_
                refine sr_x rfl (wtd_yes rfl rfl rfl) rfl (Rd.x (x_move rfl)) ?_
                refine sr_x rfl (wtd_yes rfl rfl rfl) rfl (Rd.x (x_move rfl)) ?_
                refine sr_cmp rfl (wtd_yes rfl rfl rfl) rfl (Rd.x (x_lt rfl rfl)) (fun h25 => ?_) (fun h25 => ?_)
                · refine sr_x rfl (wtd_none rfl) rfl (Rd.x (x_pick_t rfl rfl rfl)) ?_
                  refine sr_nil ?_
                  refine aw_keep (keep_cons (t := 0) rfl (keep_cons (t := 3) rfl (keep_cons (t := 4) rfl (keep_cons (t := 18) rfl (keep_cons (t := 24) rfl (keep_cons (t := 213) rfl keep_nil)))))) ?_
                  refine aw_true rfl ?_
                  refine aw_region ?_
                  refine sr_x rfl (wtd_none rfl) rfl (Rd.x (x_move rfl)) ?_
                  refine sr_x rfl (wtd_none rfl) rfl (Rd.x (x_move rfl)) ?_
                  refine sr_x rfl (wtd_none rfl) rfl (Rd.x (x_move rfl)) ?_
                  refine sr_x rfl (wtd_none rfl) rfl (Rd.x (x_move rfl)) ?_
                  refine sr_x rfl (wtd_none rfl) rfl (Rd.x (x_move rfl)) ?_
                  refine sr_d rfl (wtd_none rfl) rfl (opS_call rfl rfl rfl rfl cl172 (AC.sub (by repeat (first | exact Sub.refl _ | refine Sub.take (by repeat (first | exact Take.here | apply Take.there | apply Take.app)) ?_ | refine Sub.takeE (by repeat (first | exact TakeE.here | apply TakeE.there | apply TakeE.app)) ?_ | exact Sub.nil _ | apply Sub.drop | apply Sub.dropE)) (ih W2 d (d + m - i) e (by omega) (by omega) (by omega) (by omega) (by omega) ((hp4.2.2.1.same fun k q1 q2 => hmg2.2.1.2.1 k (by omega))) ((hp4.2.2.2.1.same fun k q1 q2 => hmg2.2.1.2.1 k (by omega)))))) ?_
                  rintro _ _ ⟨W3, hmg3, rfl, rfl⟩
                  refine sr_nil ?_
                  show ∃ v H2, ResV _ _ _ _ _ _ v ∧ Sub H2 _ ∧ _
                  first | (obtain rfl : i = j := (by omega); obtain rfl : m = a + 1 := (by omega); obtain rfl : i = k + 1 := (by omega); exact ⟨_, _, resV rfl .nil, Sub.refl _, cur, Mg.one_up hsw (by omega) (by omega) (by omega) hB (fun h q1 q2 => Classical.not_not.1 (hb4 h q1 q2)) hb5 hmv, rfl, rfl⟩) | (obtain rfl : i = j := (by omega); obtain rfl : e = m + 1 := (by omega); obtain rfl : k = i := (by omega); exact ⟨_, _, resV rfl .nil, Sub.refl _, cur, Mg.one_down hsw (by omega) (by omega) (by omega) hA hb4 hb5 hmv, rfl, rfl⟩) | exact ⟨_, _, resV rfl .nil, Sub.refl _, W3, merge_end (by omega) hst1 hin1 hp4 hmg2 hmg3, rfl, rfl⟩ | exact ⟨_, _, resV rfl .nil, Sub.refl _, W2, merge_end (by omega) hst1 hin1 hp4 hmg2 (Mg.triv (s := d + m - i) (by omega) (hp4.2.2.1.same fun k q1 q2 => hmg2.2.1.2.1 k (by omega)) (hp4.2.2.2.1.same fun k q1 q2 => hmg2.2.1.2.1 k (by omega))), rfl, rfl⟩
                · refine sr_x rfl (wtd_none rfl) rfl (Rd.x (x_pick_t rfl rfl rfl)) ?_
                  refine sr_nil ?_
                  refine aw_keep (keep_cons (t := 0) rfl (keep_cons (t := 3) rfl (keep_cons (t := 4) rfl (keep_cons (t := 18) rfl (keep_cons (t := 24) rfl (keep_cons (t := 213) rfl keep_nil)))))) ?_
                  refine aw_false rfl ?_
                  refine aw_skip ?_
                  show ∃ v H2, ResV _ _ _ _ _ _ v ∧ Sub H2 _ ∧ _
                  first | (obtain rfl : i = j := (by omega); obtain rfl : m = a + 1 := (by omega); obtain rfl : i = k + 1 := (by omega); exact ⟨_, _, resV rfl .nil, Sub.refl _, cur, Mg.one_up hsw (by omega) (by omega) (by omega) hB (fun h q1 q2 => Classical.not_not.1 (hb4 h q1 q2)) hb5 hmv, rfl, rfl⟩) | (obtain rfl : i = j := (by omega); obtain rfl : e = m + 1 := (by omega); obtain rfl : k = i := (by omega); exact ⟨_, _, resV rfl .nil, Sub.refl _, cur, Mg.one_down hsw (by omega) (by omega) (by omega) hA hb4 hb5 hmv, rfl, rfl⟩) | exact ⟨_, _, resV rfl .nil, Sub.refl _, W3, merge_end (by omega) hst1 hin1 hp4 hmg2 hmg3, rfl, rfl⟩ | exact ⟨_, _, resV rfl .nil, Sub.refl _, W2, merge_end (by omega) hst1 hin1 hp4 hmg2 (Mg.triv (s := d + m - i) (by omega) (hp4.2.2.1.same fun k q1 q2 => hmg2.2.1.2.1 k (by omega)) (hp4.2.2.2.1.same fun k q1 q2 => hmg2.2.1.2.1 k (by omega))), rfl, rfl⟩
              · refine sr_x rfl (wtd_none rfl) rfl (Rd.x (x_move rfl)) ?_
                refine sr_skip rfl (wtd_no rfl rfl rfl rfl) rfl ?_
                refine sr_skip rfl (wtd_no rfl rfl rfl rfl) rfl ?_
                refine sr_skip rfl (wtd_no rfl rfl rfl rfl) rfl ?_
                refine sr_x rfl (wtd_none rfl) rfl (Rd.x (x_pick_f rfl rfl rfl)) ?_
                refine sr_nil ?_
                refine aw_keep (keep_cons (t := 0) rfl (keep_cons (t := 3) rfl (keep_cons (t := 4) rfl (keep_cons (t := 18) rfl (keep_cons (t := 24) rfl (keep_cons (t := 213) rfl keep_nil)))))) ?_
                refine aw_false rfl ?_
                refine aw_skip ?_
                show ∃ v H2, ResV _ _ _ _ _ _ v ∧ Sub H2 _ ∧ _
                first | (obtain rfl : i = j := (by omega); obtain rfl : m = a + 1 := (by omega); obtain rfl : i = k + 1 := (by omega); exact ⟨_, _, resV rfl .nil, Sub.refl _, cur, Mg.one_up hsw (by omega) (by omega) (by omega) hB (fun h q1 q2 => Classical.not_not.1 (hb4 h q1 q2)) hb5 hmv, rfl, rfl⟩) | (obtain rfl : i = j := (by omega); obtain rfl : e = m + 1 := (by omega); obtain rfl : k = i := (by omega); exact ⟨_, _, resV rfl .nil, Sub.refl _, cur, Mg.one_down hsw (by omega) (by omega) (by omega) hA hb4 hb5 hmv, rfl, rfl⟩) | exact ⟨_, _, resV rfl .nil, Sub.refl _, W3, merge_end (by omega) hst1 hin1 hp4 hmg2 hmg3, rfl, rfl⟩ | exact ⟨_, _, resV rfl .nil, Sub.refl _, W2, merge_end (by omega) hst1 hin1 hp4 hmg2 (Mg.triv (s := d + m - i) (by omega) (hp4.2.2.1.same fun k q1 q2 => hmg2.2.1.2.1 k (by omega)) (hp4.2.2.2.1.same fun k q1 q2 => hmg2.2.1.2.1 k (by omega))), rfl, rfl⟩
theorem jsSm_s (b cap n : Nat) (post : List Value) (G : SHeap) (hn : n ≤ 100000) (hcap : n ≤ cap) (hcb : cap ≤ 9223372036854775807) (c : Job → Job → Int) (hcmp : ∀ x y V, Sub G V → AC Try.prog W0 143 [Job.v x, Job.v y] V (fun v H' => v = .int .i64 (c x y) ∧ H' = V)) (hsw : Swo c) : ∀ (k : Nat) (W : List Job) (a m e : Nat), W.length = n → e - a ≤ k → a < m → m < e → e ≤ n → SrtI c W a m → SrtI c W m e → AC Try.prog W0 172 [.slice (some ⟨b, 0, none⟩) n cap, .int .i64 (a : Nat), .int .i64 (m : Nat), .int .i64 (e : Nat), .func (.func 143) #[] #[]] ((b, .cells ((W).flatMap Job.cells ++ post).toArray 91 (0, 0)) :: G) (fun v H' => ∃ W', Mg c W a e W' ∧ v = .tuple #[] ∧ H' = (b, .cells ((W').flatMap Job.cells ++ post).toArray 91 (0, 0)) :: G) := by
  intro k
  induction k with
  | zero => intro W a m e hl hk h1 h2; omega
  | succ k ih =>
    intro W a m e hl hk h1 h2 h3 hA hB
    exact jsSmW_s b cap n W post G hl hn hcap hcb a m e h1 h2 h3 c hcmp hsw hA hB fun W1 a1 m1 e1 q1 q2 q3 q4 q5 q6 q7 => ih W1 a1 m1 e1 q1 (by omega) q3 q4 q5 q6 q7
set_option maxRecDepth 100000 in
set_option maxHeartbeats 4000000 in
theorem jsStb_s (b cap n : Nat) (W : List Job) (post : List Value) (G : SHeap) (hl : W.length = n) (hn : n ≤ 100000) (hcap : n ≤ cap) (hcb : cap ≤ 9223372036854775807) (c : Job → Job → Int) (hcmp : ∀ x y V, Sub G V → AC Try.prog W0 143 [Job.v x, Job.v y] V (fun v H' => v = .int .i64 (c x y) ∧ H' = V)) (hsw : Swo c) : AC Try.prog W0 152 [.slice (some ⟨b, 0, none⟩) n cap, .int .i64 n, .func (.func 143) #[] #[]] ((b, .cells ((W).flatMap Job.cells ++ post).toArray 91 (0, 0)) :: G) (fun v H' => ∃ W', (St c W W' ∧ SrtI c W' 0 n) ∧ v = .tuple #[] ∧ H' = (b, .cells ((W').flatMap Job.cells ++ post).toArray 91 (0, 0)) :: G) := by
  refine ac_of Try.func152 rfl rfl rfl ?_
  refine aw_seq_region ?_
  refine sr_x rfl (wtd_none rfl) rfl (Rd.x (x_assign rfl)) ?_
  refine sr_nil ?_
  refine aw_keep (keep_cons (t := 0) rfl (keep_cons (t := 1) rfl (keep_cons (t := 2) rfl (keep_cons (t := 6) rfl keep_nil)))) ?_
  refine aw_seq_region ?_
  refine sr_x rfl (wtd_none rfl) rfl (Rd.x (x_move rfl)) ?_
  refine sr_x rfl (wtd_none rfl) rfl (Rd.x (x_assign rfl)) ?_
  refine sr_x rfl (wtd_none rfl) rfl (Rd.x (x_assign rfl)) ?_
  refine sr_nil ?_
  refine aw_keep (keep_cons (t := 0) rfl (keep_cons (t := 1) rfl (keep_cons (t := 2) rfl (keep_cons (t := 6) rfl (keep_cons (t := 7) rfl (keep_cons (t := 8) rfl keep_nil)))))) ?_
  refine aw_seq ?_
  refine aw_block ?_
  refine aw_loop (ι := SortG Job) (fun s => s.k ≤ n ∧ s.W.length = n ∧ St c W s.W ∧ Dn c s.W 20 s.k) (fun s => [(0, .slice (some ⟨b, 0, none⟩) n cap), (1, .int .i64 n), (2, .func (.func 143) #[] #[]), (6, .int .i64 20), (7, .int .i64 s.k), (8, .int .i64 ((s.k + 20 : Nat) : Int))]) (fun s => (b, .cells ((s.W).flatMap Job.cells ++ post).toArray 91 (0, 0)) :: G) (fun s => n - s.k) ⟨0, W⟩ (⟨Nat.zero_le _, hl, St.refl _, Dn.zero⟩) (by (repeat (first | exact keep_nil | refine keep_cons rfl ?_)); first | done | fail) (by repeat (first | exact Sub.refl _ | refine Sub.take (by repeat (first | exact Take.here | apply Take.there | apply Take.app)) ?_ | refine Sub.takeE (by repeat (first | exact TakeE.here | apply TakeE.there | apply TakeE.app)) ?_ | exact Sub.nil _ | apply Sub.drop | apply Sub.dropE)) ?_
  intro s hs9
  obtain ⟨a, cur⟩ := s
  dsimp only at hs9 ⊢
  obtain ⟨ha, hcl, hst, hdn⟩ := hs9
  refine aw_seq ?_
  refine aw_seq_region ?_
  refine sr_x rfl (wtd_none rfl) rfl (Rd.x (x_move rfl)) ?_
  refine sr_x rfl (wtd_none rfl) rfl (Rd.x (x_move rfl)) ?_
  refine sr_cmp rfl (wtd_none rfl) rfl (Rd.x (x_le rfl rfl)) (fun h1 => ?_) (fun h1 => ?_)
  · refine sr_nil ?_
    refine aw_keep (keep_cons (t := 0) rfl (keep_cons (t := 1) rfl (keep_cons (t := 2) rfl (keep_cons (t := 6) rfl (keep_cons (t := 7) rfl (keep_cons (t := 8) rfl (keep_cons (t := 11) rfl (keep_cons (t := 12) rfl (keep_cons (t := 13) rfl keep_nil))))))))) ?_
    refine aw_true rfl ?_
    refine aw_skip ?_
    show AW _ _ _ _ _ _ _
    refine aw_block ?_
    refine aw_seq_region ?_
    refine sr_x rfl (wtd_none rfl) rfl (Rd.x (x_move rfl)) ?_
    refine sr_x rfl (wtd_none rfl) rfl (Rd.x (x_move rfl)) ?_
    refine sr_x rfl (wtd_none rfl) rfl (Rd.x (x_move rfl)) ?_
    refine sr_x rfl (wtd_none rfl) rfl (Rd.x (x_move rfl)) ?_
    refine sr_d rfl (wtd_none rfl) rfl (opS_call rfl rfl rfl rfl cl171 (AC.sub (by repeat (first | exact Sub.refl _ | refine Sub.take (by repeat (first | exact Take.here | apply Take.there | apply Take.app)) ?_ | refine Sub.takeE (by repeat (first | exact TakeE.here | apply TakeE.there | apply TakeE.app)) ?_ | exact Sub.nil _ | apply Sub.drop | apply Sub.dropE)) (jsIns_s b cap n cur post G (by omega) hn hcap hcb a (a + 20) (by omega) (by omega) c hcmp hsw))) ?_
    rintro _ _ ⟨W9, hm9, rfl, rfl⟩
    refine sr_nil ?_
    refine aw_keep (keep_cons (t := 0) rfl (keep_cons (t := 1) rfl (keep_cons (t := 2) rfl (keep_cons (t := 6) rfl (keep_cons (t := 7) rfl (keep_cons (t := 8) rfl (keep_cons (t := 11) rfl (keep_cons (t := 12) rfl (keep_cons (t := 13) rfl (keep_cons (t := 14) rfl (keep_cons (t := 15) rfl (keep_cons (t := 16) rfl (keep_cons (t := 17) rfl keep_nil))))))))))))) ?_
    refine aw_seq_region ?_
    refine sr_x rfl (wtd_none rfl) rfl (Rd.x (x_move rfl)) ?_
    refine sr_x rfl (wtd_none rfl) rfl (Rd.x (x_assign rfl)) ?_
    refine sr_nil ?_
    refine aw_keep (keep_cons (t := 0) rfl (keep_cons (t := 1) rfl (keep_cons (t := 2) rfl (keep_cons (t := 6) rfl (keep_cons (t := 7) rfl (keep_cons (t := 8) rfl (keep_cons (t := 11) rfl (keep_cons (t := 12) rfl (keep_cons (t := 13) rfl (keep_cons (t := 14) rfl (keep_cons (t := 15) rfl (keep_cons (t := 16) rfl (keep_cons (t := 17) rfl (keep_cons (t := 19) rfl keep_nil)))))))))))))) ?_
    refine aw_region ?_
    refine sr_x rfl (wtd_none rfl) rfl (Rd.x (x_move rfl)) ?_
    refine sr_x rfl (wtd_none rfl) rfl (Rd.x (x_move rfl)) ?_
    refine sr_x rfl (wtd_none rfl) rfl (Rd.x (x_cast (u := .int .i64 ((a + 20 + 20 : Nat) : Int)) (x_add' rfl rfl (i64w (by omega) (by omega))) (by congr 1))) ?_
    refine sr_x rfl (wtd_none rfl) rfl (Rd.x (x_assign rfl)) ?_
    refine sr_nil ?_
    show ∃ s', _ ∧ _ ∧ _ ∧ _
    exact ⟨⟨a + 20, W9⟩, ⟨by dsimp only; omega, hm9.2.1.1.trans hcl, hst.trans hm9.1, hdn.step hm9.2.1 hm9.2.2⟩, by dsimp only; omega, (by (repeat (first | exact keep_nil | refine keep_cons rfl ?_)); first | done | fail), (by repeat (first | exact Sub.refl _ | refine Sub.take (by repeat (first | exact Take.here | apply Take.there | apply Take.app)) ?_ | refine Sub.takeE (by repeat (first | exact TakeE.here | apply TakeE.there | apply TakeE.app)) ?_ | exact Sub.nil _ | apply Sub.drop | apply Sub.dropE))⟩
  · refine sr_nil ?_
    refine aw_keep (keep_cons (t := 0) rfl (keep_cons (t := 1) rfl (keep_cons (t := 2) rfl (keep_cons (t := 6) rfl (keep_cons (t := 7) rfl (keep_cons (t := 8) rfl (keep_cons (t := 11) rfl (keep_cons (t := 12) rfl (keep_cons (t := 13) rfl keep_nil))))))))) ?_
    refine aw_false rfl ?_
    refine aw_exit ?_
    show AW _ _ _ _ _ _ _
    refine aw_seq_region ?_
    refine sr_x rfl (wtd_none rfl) rfl (Rd.x (x_move rfl)) ?_
    refine sr_x rfl (wtd_none rfl) rfl (Rd.x (x_move rfl)) ?_
    refine sr_x rfl (wtd_none rfl) rfl (Rd.x (x_move rfl)) ?_
    refine sr_x rfl (wtd_none rfl) rfl (Rd.x (x_move rfl)) ?_
    refine sr_d rfl (wtd_none rfl) rfl (opS_call rfl rfl rfl rfl cl171 (AC.sub (by repeat (first | exact Sub.refl _ | refine Sub.take (by repeat (first | exact Take.here | apply Take.there | apply Take.app)) ?_ | refine Sub.takeE (by repeat (first | exact TakeE.here | apply TakeE.there | apply TakeE.app)) ?_ | exact Sub.nil _ | apply Sub.drop | apply Sub.dropE)) (jsIns_s b cap n cur post G (by omega) hn hcap hcb a n (by omega) (by omega) c hcmp hsw))) ?_
    rintro _ _ ⟨W9, hm9, rfl, rfl⟩
    refine sr_nil ?_
    refine aw_keep (keep_cons (t := 0) rfl (keep_cons (t := 1) rfl (keep_cons (t := 2) rfl (keep_cons (t := 6) rfl (keep_cons (t := 7) rfl (keep_cons (t := 8) rfl keep_nil)))))) ?_
    refine aw_block ?_
    refine aw_loop (ι := SortG Job) (fun s => 0 < s.k ∧ s.k ≤ 300000 ∧ s.W.length = n ∧ St c W s.W ∧ Ch c s.W s.k 0 n) (fun s => [(0, .slice (some ⟨b, 0, none⟩) n cap), (1, .int .i64 n), (2, .func (.func 143) #[] #[]), (6, .int .i64 s.k)]) (fun s => (b, .cells ((s.W).flatMap Job.cells ++ post).toArray 91 (0, 0)) :: G) (fun s => n - s.k) ⟨20, W9⟩ (⟨by dsimp only; omega, by dsimp only; omega, hm9.2.1.1.trans hcl, hst.trans hm9.1, hdn.done hm9.2.1 (by omega) hm9.2.2⟩) (by (repeat (first | exact keep_nil | refine keep_cons rfl ?_)); first | done | fail) (by repeat (first | exact Sub.refl _ | refine Sub.take (by repeat (first | exact Take.here | apply Take.there | apply Take.app)) ?_ | refine Sub.takeE (by repeat (first | exact TakeE.here | apply TakeE.there | apply TakeE.app)) ?_ | exact Sub.nil _ | apply Sub.drop | apply Sub.dropE)) ?_
    intro s hs8
    obtain ⟨bs, cur1⟩ := s
    dsimp only at hs8 ⊢
    obtain ⟨hbs, hbs2, hcl1, hst1, hch1⟩ := hs8
    refine aw_seq ?_
    refine aw_seq_region ?_
    refine sr_x rfl (wtd_none rfl) rfl (Rd.x (x_move rfl)) ?_
    refine sr_x rfl (wtd_none rfl) rfl (Rd.x (x_move rfl)) ?_
    refine sr_cmp rfl (wtd_none rfl) rfl (Rd.x (x_lt rfl rfl)) (fun h2 => ?_) (fun h2 => ?_)
    · refine sr_nil ?_
      refine aw_keep (keep_cons (t := 0) rfl (keep_cons (t := 1) rfl (keep_cons (t := 2) rfl (keep_cons (t := 6) rfl (keep_cons (t := 28) rfl (keep_cons (t := 29) rfl (keep_cons (t := 30) rfl keep_nil))))))) ?_
      refine aw_true rfl ?_
      refine aw_skip ?_
      show AW _ _ _ _ _ _ _
      refine aw_block ?_
      refine aw_seq_region ?_
      refine sr_x rfl (wtd_none rfl) rfl (Rd.x (x_move rfl)) ?_
      refine sr_x rfl (wtd_none rfl) rfl (Rd.x (x_cast (u := .int .i64 ((2 * bs : Nat) : Int)) (x_mul' rfl rfl (i64w (by omega) (by omega))) (by congr 1))) ?_
      refine sr_x rfl (wtd_none rfl) rfl (Rd.x (x_assign rfl)) ?_
      refine sr_x rfl (wtd_none rfl) rfl (Rd.x (x_assign rfl)) ?_
      refine sr_nil ?_
      refine aw_keep (keep_cons (t := 0) rfl (keep_cons (t := 1) rfl (keep_cons (t := 2) rfl (keep_cons (t := 6) rfl (keep_cons (t := 7) rfl (keep_cons (t := 8) rfl (keep_cons (t := 28) rfl (keep_cons (t := 29) rfl (keep_cons (t := 30) rfl (keep_cons (t := 31) rfl (keep_cons (t := 32) rfl keep_nil))))))))))) ?_
      refine aw_seq ?_
      refine aw_block ?_
      refine aw_keep (keep_cons (t := 0) rfl (keep_cons (t := 1) rfl (keep_cons (t := 2) rfl (keep_cons (t := 6) rfl (keep_cons (t := 7) rfl (keep_cons (t := 8) (v := .int .i64 ((0 + 2 * bs : Nat) : Int)) (congrArg (fun x => some (Value.int .i64 x)) (by omega)) keep_nil)))))) ?_
      refine aw_loop (ι := SortG Job) (fun s => s.k ≤ n ∧ s.W.length = n ∧ St c W s.W ∧ Dn c s.W (2 * bs) s.k ∧ Ch c s.W bs s.k n) (fun s => [(0, .slice (some ⟨b, 0, none⟩) n cap), (1, .int .i64 n), (2, .func (.func 143) #[] #[]), (6, .int .i64 bs), (7, .int .i64 s.k), (8, .int .i64 ((s.k + 2 * bs : Nat) : Int))]) (fun s => (b, .cells ((s.W).flatMap Job.cells ++ post).toArray 91 (0, 0)) :: G) (fun s => n - s.k) ⟨0, cur1⟩ (⟨Nat.zero_le _, hcl1, hst1, Dn.zero, hch1⟩) (by (repeat (first | exact keep_nil | refine keep_cons rfl ?_)); first | done | fail) (by repeat (first | exact Sub.refl _ | refine Sub.take (by repeat (first | exact Take.here | apply Take.there | apply Take.app)) ?_ | refine Sub.takeE (by repeat (first | exact TakeE.here | apply TakeE.there | apply TakeE.app)) ?_ | exact Sub.nil _ | apply Sub.drop | apply Sub.dropE)) ?_
      intro s hs7
      obtain ⟨a3, cur3⟩ := s
      dsimp only at hs7 ⊢
      obtain ⟨ha3, hcl3, hst3, hdn3, hch3⟩ := hs7
      refine aw_seq ?_
      refine aw_seq_region ?_
      refine sr_x rfl (wtd_none rfl) rfl (Rd.x (x_move rfl)) ?_
      refine sr_x rfl (wtd_none rfl) rfl (Rd.x (x_move rfl)) ?_
      refine sr_cmp rfl (wtd_none rfl) rfl (Rd.x (x_le rfl rfl)) (fun h3 => ?_) (fun h3 => ?_)
      · refine sr_nil ?_
        refine aw_keep (keep_cons (t := 0) rfl (keep_cons (t := 1) rfl (keep_cons (t := 2) rfl (keep_cons (t := 6) rfl (keep_cons (t := 7) rfl (keep_cons (t := 8) rfl (keep_cons (t := 33) rfl (keep_cons (t := 34) rfl (keep_cons (t := 35) rfl keep_nil))))))))) ?_
        refine aw_true rfl ?_
        refine aw_skip ?_
        show AW _ _ _ _ _ _ _
        refine aw_block ?_
        refine aw_seq_region ?_
        have htw := hch3.two hbs (by omega)
        refine sr_x rfl (wtd_none rfl) rfl (Rd.x (x_move rfl)) ?_
        refine sr_x rfl (wtd_none rfl) rfl (Rd.x (x_move rfl)) ?_
        refine sr_x rfl (wtd_none rfl) rfl (Rd.x (x_move rfl)) ?_
        refine sr_x rfl (wtd_none rfl) rfl (Rd.x (x_move rfl)) ?_
        refine sr_x rfl (wtd_none rfl) rfl (Rd.x (x_cast (u := .int .i64 ((a3 + bs : Nat) : Int)) (x_add' rfl rfl (i64w (by omega) (by omega))) (by congr 1))) ?_
        refine sr_x rfl (wtd_none rfl) rfl (Rd.x (x_move rfl)) ?_
        refine sr_x rfl (wtd_none rfl) rfl (Rd.x (x_move rfl)) ?_
        refine sr_d rfl (wtd_none rfl) rfl (opS_call rfl rfl rfl rfl cl172 (AC.sub (by repeat (first | exact Sub.refl _ | refine Sub.take (by repeat (first | exact Take.here | apply Take.there | apply Take.app)) ?_ | refine Sub.takeE (by repeat (first | exact TakeE.here | apply TakeE.there | apply TakeE.app)) ?_ | exact Sub.nil _ | apply Sub.drop | apply Sub.dropE)) (jsSm_s b cap n post G hn hcap hcb c hcmp hsw _ cur3 a3 (a3 + bs) (a3 + 2 * bs) (by omega) (Nat.le_refl _) (by omega) (by omega) (by omega) (htw.1) (htw.2.1)))) ?_
        rintro _ _ ⟨W9, hm9, rfl, rfl⟩
        refine sr_nil ?_
        refine aw_keep (keep_cons (t := 0) rfl (keep_cons (t := 1) rfl (keep_cons (t := 2) rfl (keep_cons (t := 6) rfl (keep_cons (t := 7) rfl (keep_cons (t := 8) rfl (keep_cons (t := 33) rfl (keep_cons (t := 34) rfl (keep_cons (t := 35) rfl (keep_cons (t := 36) rfl (keep_cons (t := 37) rfl (keep_cons (t := 38) rfl (keep_cons (t := 39) rfl (keep_cons (t := 40) rfl (keep_cons (t := 41) rfl (keep_cons (t := 42) rfl keep_nil)))))))))))))))) ?_
        refine aw_seq_region ?_
        refine sr_x rfl (wtd_none rfl) rfl (Rd.x (x_move rfl)) ?_
        refine sr_x rfl (wtd_none rfl) rfl (Rd.x (x_assign rfl)) ?_
        refine sr_nil ?_
        refine aw_keep (keep_cons (t := 0) rfl (keep_cons (t := 1) rfl (keep_cons (t := 2) rfl (keep_cons (t := 6) rfl (keep_cons (t := 7) rfl (keep_cons (t := 8) rfl (keep_cons (t := 33) rfl (keep_cons (t := 34) rfl (keep_cons (t := 35) rfl (keep_cons (t := 36) rfl (keep_cons (t := 37) rfl (keep_cons (t := 38) rfl (keep_cons (t := 39) rfl (keep_cons (t := 40) rfl (keep_cons (t := 41) rfl (keep_cons (t := 42) rfl (keep_cons (t := 44) rfl keep_nil))))))))))))))))) ?_
        refine aw_region ?_
        refine sr_x rfl (wtd_none rfl) rfl (Rd.x (x_move rfl)) ?_
        refine sr_x rfl (wtd_none rfl) rfl (Rd.x (x_move rfl)) ?_
        refine sr_x rfl (wtd_none rfl) rfl (Rd.x (x_cast (u := .int .i64 ((2 * bs : Nat) : Int)) (x_mul' rfl rfl (i64w (by omega) (by omega))) (by congr 1))) ?_
        refine sr_x rfl (wtd_none rfl) rfl (Rd.x (x_cast (u := .int .i64 ((a3 + 2 * bs + 2 * bs : Nat) : Int)) (x_add' rfl rfl (i64w (by omega) (by omega))) (by congr 1))) ?_
        refine sr_x rfl (wtd_none rfl) rfl (Rd.x (x_assign rfl)) ?_
        refine sr_nil ?_
        show ∃ s', _ ∧ _ ∧ _ ∧ _
        exact ⟨⟨a3 + 2 * bs, W9⟩, ⟨by dsimp only; omega, hm9.2.1.1.trans hcl3, hst3.trans hm9.1, hdn3.step hm9.2.1 hm9.2.2, htw.2.2.same fun k q => hm9.2.1.2.1 k (by omega)⟩, by dsimp only; omega, (by (repeat (first | exact keep_nil | refine keep_cons rfl ?_)); first | done | fail), (by repeat (first | exact Sub.refl _ | refine Sub.take (by repeat (first | exact Take.here | apply Take.there | apply Take.app)) ?_ | refine Sub.takeE (by repeat (first | exact TakeE.here | apply TakeE.there | apply TakeE.app)) ?_ | exact Sub.nil _ | apply Sub.drop | apply Sub.dropE))⟩
      · refine sr_nil ?_
        refine aw_keep (keep_cons (t := 0) rfl (keep_cons (t := 1) rfl (keep_cons (t := 2) rfl (keep_cons (t := 6) rfl (keep_cons (t := 7) rfl (keep_cons (t := 8) rfl (keep_cons (t := 33) rfl (keep_cons (t := 34) rfl (keep_cons (t := 35) rfl keep_nil))))))))) ?_
        refine aw_false rfl ?_
        refine aw_exit ?_
        show AW _ _ _ _ _ _ _
        refine aw_seq ?_
        refine aw_seq_region ?_
        refine sr_x rfl (wtd_none rfl) rfl (Rd.x (x_move rfl)) ?_
        refine sr_x rfl (wtd_none rfl) rfl (Rd.x (x_move rfl)) ?_
        refine sr_x rfl (wtd_none rfl) rfl (Rd.x (x_cast (u := .int .i64 ((a3 + bs : Nat) : Int)) (x_add' rfl rfl (i64w (by omega) (by omega))) (by congr 1))) ?_
        refine sr_x rfl (wtd_none rfl) rfl (Rd.x (x_assign rfl)) ?_
        refine sr_nil ?_
        refine aw_keep (keep_cons (t := 0) rfl (keep_cons (t := 1) rfl (keep_cons (t := 2) rfl (keep_cons (t := 6) rfl (keep_cons (t := 7) rfl (keep_cons (t := 8) rfl (keep_cons (t := 9) rfl (keep_cons (t := 33) rfl (keep_cons (t := 34) rfl (keep_cons (t := 35) rfl (keep_cons (t := 49) rfl (keep_cons (t := 50) rfl (keep_cons (t := 51) rfl keep_nil))))))))))))) ?_
        refine aw_seq_region ?_
        refine sr_x rfl (wtd_none rfl) rfl (Rd.x (x_move rfl)) ?_
        refine sr_x rfl (wtd_none rfl) rfl (Rd.x (x_move rfl)) ?_
        refine sr_cmp rfl (wtd_none rfl) rfl (Rd.x (x_lt rfl rfl)) (fun h4 => ?_) (fun h4 => ?_)
        · refine sr_nil ?_
          refine aw_keep (keep_cons (t := 0) rfl (keep_cons (t := 1) rfl (keep_cons (t := 2) rfl (keep_cons (t := 6) rfl (keep_cons (t := 7) rfl (keep_cons (t := 8) rfl (keep_cons (t := 9) rfl (keep_cons (t := 33) rfl (keep_cons (t := 34) rfl (keep_cons (t := 35) rfl (keep_cons (t := 49) rfl (keep_cons (t := 50) rfl (keep_cons (t := 51) rfl (keep_cons (t := 52) rfl (keep_cons (t := 53) rfl (keep_cons (t := 54) rfl keep_nil)))))))))))))))) ?_
          refine aw_true rfl ?_
          refine aw_region ?_
          have hrs := hch3.rest (by omega) (by omega)
          refine sr_x rfl (wtd_none rfl) rfl (Rd.x (x_move rfl)) ?_
          refine sr_x rfl (wtd_none rfl) rfl (Rd.x (x_move rfl)) ?_
          refine sr_x rfl (wtd_none rfl) rfl (Rd.x (x_move rfl)) ?_
          refine sr_x rfl (wtd_none rfl) rfl (Rd.x (x_move rfl)) ?_
          refine sr_x rfl (wtd_none rfl) rfl (Rd.x (x_move rfl)) ?_
          refine sr_d rfl (wtd_none rfl) rfl (opS_call rfl rfl rfl rfl cl172 (AC.sub (by repeat (first | exact Sub.refl _ | refine Sub.take (by repeat (first | exact Take.here | apply Take.there | apply Take.app)) ?_ | refine Sub.takeE (by repeat (first | exact TakeE.here | apply TakeE.there | apply TakeE.app)) ?_ | exact Sub.nil _ | apply Sub.drop | apply Sub.dropE)) (jsSm_s b cap n post G hn hcap hcb c hcmp hsw _ cur3 a3 (a3 + bs) n (by omega) (Nat.le_refl _) (by omega) (by omega) (by omega) (hrs.1) (hrs.2)))) ?_
          rintro _ _ ⟨W9, hm9, rfl, rfl⟩
          refine sr_nil ?_
          show AW _ _ _ _ _ _ _
          refine aw_region ?_
          refine sr_x rfl (wtd_none rfl) rfl (Rd.x (x_move rfl)) ?_
          refine sr_x rfl (wtd_none rfl) rfl (Rd.x (x_cast (u := .int .i64 ((bs * 2 : Nat) : Int)) (x_mul' rfl rfl (i64w (by omega) (by omega))) (by congr 1))) ?_
          refine sr_x rfl (wtd_none rfl) rfl (Rd.x (x_assign rfl)) ?_
          refine sr_nil ?_
          show ∃ s', _ ∧ _ ∧ _ ∧ _
          first | exact ⟨⟨bs * 2, W9⟩, ⟨by dsimp only; omega, by dsimp only; omega, hm9.2.1.1.trans hcl3, hst3.trans hm9.1, (by dsimp only; rw [Nat.mul_comm]; exact hdn3.done hm9.2.1 (by omega) hm9.2.2)⟩, by dsimp only; omega, (by (repeat (first | exact keep_nil | refine keep_cons rfl ?_)); first | done | fail), (by repeat (first | exact Sub.refl _ | refine Sub.take (by repeat (first | exact Take.here | apply Take.there | apply Take.app)) ?_ | refine Sub.takeE (by repeat (first | exact TakeE.here | apply TakeE.there | apply TakeE.app)) ?_ | exact Sub.nil _ | apply Sub.drop | apply Sub.dropE))⟩ | exact ⟨⟨bs * 2, cur3⟩, ⟨by dsimp only; omega, by dsimp only; omega, hcl3, hst3, (by dsimp only; rw [Nat.mul_comm]; exact hdn3.done (InR.refl _ _ _) (by omega) (hch3.all (by omega)))⟩, by dsimp only; omega, (by (repeat (first | exact keep_nil | refine keep_cons rfl ?_)); first | done | fail), (by repeat (first | exact Sub.refl _ | refine Sub.take (by repeat (first | exact Take.here | apply Take.there | apply Take.app)) ?_ | refine Sub.takeE (by repeat (first | exact TakeE.here | apply TakeE.there | apply TakeE.app)) ?_ | exact Sub.nil _ | apply Sub.drop | apply Sub.dropE))⟩
        · refine sr_nil ?_
          refine aw_keep (keep_cons (t := 0) rfl (keep_cons (t := 1) rfl (keep_cons (t := 2) rfl (keep_cons (t := 6) rfl (keep_cons (t := 7) rfl (keep_cons (t := 8) rfl (keep_cons (t := 9) rfl (keep_cons (t := 33) rfl (keep_cons (t := 34) rfl (keep_cons (t := 35) rfl (keep_cons (t := 49) rfl (keep_cons (t := 50) rfl (keep_cons (t := 51) rfl (keep_cons (t := 52) rfl (keep_cons (t := 53) rfl (keep_cons (t := 54) rfl keep_nil)))))))))))))))) ?_
          refine aw_false rfl ?_
          refine aw_skip ?_
          show AW _ _ _ _ _ _ _
          refine aw_region ?_
          refine sr_x rfl (wtd_none rfl) rfl (Rd.x (x_move rfl)) ?_
          refine sr_x rfl (wtd_none rfl) rfl (Rd.x (x_cast (u := .int .i64 ((bs * 2 : Nat) : Int)) (x_mul' rfl rfl (i64w (by omega) (by omega))) (by congr 1))) ?_
          refine sr_x rfl (wtd_none rfl) rfl (Rd.x (x_assign rfl)) ?_
          refine sr_nil ?_
          show ∃ s', _ ∧ _ ∧ _ ∧ _
          first | exact ⟨⟨bs * 2, W9⟩, ⟨by dsimp only; omega, by dsimp only; omega, hm9.2.1.1.trans hcl3, hst3.trans hm9.1, (by dsimp only; rw [Nat.mul_comm]; exact hdn3.done hm9.2.1 (by omega) hm9.2.2)⟩, by dsimp only; omega, (by (repeat (first | exact keep_nil | refine keep_cons rfl ?_)); first | done | fail), (by repeat (first | exact Sub.refl _ | refine Sub.take (by repeat (first | exact Take.here | apply Take.there | apply Take.app)) ?_ | refine Sub.takeE (by repeat (first | exact TakeE.here | apply TakeE.there | apply TakeE.app)) ?_ | exact Sub.nil _ | apply Sub.drop | apply Sub.dropE))⟩ | exact ⟨⟨bs * 2, cur3⟩, ⟨by dsimp only; omega, by dsimp only; omega, hcl3, hst3, (by dsimp only; rw [Nat.mul_comm]; exact hdn3.done (InR.refl _ _ _) (by omega) (hch3.all (by omega)))⟩, by dsimp only; omega, (by (repeat (first | exact keep_nil | refine keep_cons rfl ?_)); first | done | fail), (by repeat (first | exact Sub.refl _ | refine Sub.take (by repeat (first | exact Take.here | apply Take.there | apply Take.app)) ?_ | refine Sub.takeE (by repeat (first | exact TakeE.here | apply TakeE.there | apply TakeE.app)) ?_ | exact Sub.nil _ | apply Sub.drop | apply Sub.dropE))⟩
    · refine sr_nil ?_
      refine aw_keep (keep_cons (t := 0) rfl (keep_cons (t := 1) rfl (keep_cons (t := 2) rfl (keep_cons (t := 6) rfl (keep_cons (t := 28) rfl (keep_cons (t := 29) rfl (keep_cons (t := 30) rfl keep_nil))))))) ?_
      refine aw_false rfl ?_
      refine aw_exit ?_
      show ∃ v H2, ResV _ _ _ _ _ _ v ∧ Sub H2 _ ∧ _
      exact ⟨_, _, resV rfl .nil, Sub.refl _, cur1, ⟨hst1, hch1.all (by omega)⟩, rfl, rfl⟩
set_option maxRecDepth 100000 in
set_option maxHeartbeats 400000 in
theorem jsSrt_s (b cap n : Nat) (W : List Job) (post : List Value) (G : SHeap) (hl : W.length = n) (hn : n ≤ 100000) (hcap : n ≤ cap) (hcb : cap ≤ 9223372036854775807) (c : Job → Job → Int) (hcmp : ∀ x y V, Sub G V → AC Try.prog W0 143 [Job.v x, Job.v y] V (fun v H' => v = .int .i64 (c x y) ∧ H' = V)) (hsw : Swo c) : AC Try.prog W0 142 [.slice (some ⟨b, 0, none⟩) n cap, .func (.func 143) #[] #[]] ((b, .cells ((W).flatMap Job.cells ++ post).toArray 91 (0, 0)) :: G) (fun v H' => ∃ W', (St c W W' ∧ SrtI c W' 0 n) ∧ v = .tuple #[] ∧ H' = (b, .cells ((W').flatMap Job.cells ++ post).toArray 91 (0, 0)) :: G) := by
  refine ac_of Try.func142 rfl rfl rfl ?_
  refine aw_region ?_
  refine sr_x rfl (wtd_none rfl) rfl (Rd.x (x_move rfl)) ?_
  refine sr_x rfl (wtd_none rfl) rfl (Rd.x (x_move rfl)) ?_
  refine sr_x rfl (wtd_none rfl) rfl (Rd.x (x_lenSlice Try.underlying22 rfl)) ?_
  refine sr_x rfl (wtd_none rfl) rfl (Rd.x (x_move rfl)) ?_
  refine sr_d rfl (wtd_none rfl) rfl (opS_call rfl rfl rfl rfl cl152 (AC.sub (by repeat (first | exact Sub.refl _ | refine Sub.take (by repeat (first | exact Take.here | apply Take.there | apply Take.app)) ?_ | refine Sub.takeE (by repeat (first | exact TakeE.here | apply TakeE.there | apply TakeE.app)) ?_ | exact Sub.nil _ | apply Sub.drop | apply Sub.dropE)) (jsStb_s b cap n W post G hl hn hcap hcb c hcmp hsw))) ?_
  rintro _ _ ⟨W9, hm9, rfl, rfl⟩
  refine sr_nil ?_
  show ∃ v H2, ResV _ _ _ _ _ _ v ∧ Sub H2 _ ∧ _
  exact ⟨_, _, resV rfl .nil, Sub.refl _, W9, hm9, rfl, rfl⟩
set_option maxRecDepth 100000 in
set_option maxHeartbeats 400000 in
theorem jsInsN_s (G : SHeap) : AC Try.prog W0 171 [.slice none 0 0, .int .i64 ((0 : Nat) : Int), .int .i64 ((0 : Nat) : Int), .func (.func 143) #[] #[]] G (fun v H' => v = .tuple #[] ∧ H' = G) := by
  refine ac_of Try.func171 rfl rfl rfl ?_
  refine aw_seq_region ?_
  refine sr_x rfl (wtd_none rfl) rfl (Rd.x (x_move rfl)) ?_
  refine sr_x rfl (wtd_none rfl) rfl (Rd.x (x_add' rfl rfl (i64w (by omega) (by omega)))) ?_
  refine sr_x rfl (wtd_none rfl) rfl (Rd.x (x_assign rfl)) ?_
  refine sr_nil ?_
  refine aw_keep (keep_cons (t := 0) rfl (keep_cons (t := 1) rfl (keep_cons (t := 2) rfl (keep_cons (t := 3) rfl (keep_cons (t := 8) rfl keep_nil))))) ?_
  refine aw_block ?_
  refine aw_loop (ι := Unit) (fun _ => True) (fun _ => [(2, .int .i64 ((0 : Nat) : Int)), (8, .int .i64 1)]) (fun _ => G) (fun _ => 0) () (trivial) (by (repeat (first | exact keep_nil | refine keep_cons rfl ?_)); first | done | fail) (by repeat (first | exact Sub.refl _ | apply Sub.drop)) ?_
  intro _ _
  refine aw_seq ?_
  refine aw_seq_region ?_
  refine sr_x rfl (wtd_none rfl) rfl (Rd.x (x_move rfl)) ?_
  refine sr_x rfl (wtd_none rfl) rfl (Rd.x (x_move rfl)) ?_
  refine sr_cmp rfl (wtd_none rfl) rfl (Rd.x (x_lt rfl rfl)) (fun h1 => absurd h1 (by first | omega | decide)) (fun h1 => ?_)
  refine sr_nil ?_
  refine aw_keep (keep_cons (t := 2) rfl (keep_cons (t := 8) rfl (keep_cons (t := 12) rfl (keep_cons (t := 13) rfl (keep_cons (t := 14) rfl keep_nil))))) ?_
  refine aw_false rfl ?_
  refine aw_exit ?_
  show ∃ v H2, ResV _ _ _ _ _ _ v ∧ Sub H2 _ ∧ _
  exact ⟨_, G, resV rfl .nil, (by repeat (first | exact Sub.refl _ | apply Sub.drop)), ⟨rfl, rfl⟩⟩
set_option maxRecDepth 100000 in
set_option maxHeartbeats 400000 in
theorem jsStbN_s (G : SHeap) : AC Try.prog W0 152 [.slice none 0 0, .int .i64 ((0 : Nat) : Int), .func (.func 143) #[] #[]] G (fun v H' => v = .tuple #[] ∧ H' = G) := by
  refine ac_of Try.func152 rfl rfl rfl ?_
  refine aw_seq_region ?_
  refine sr_x rfl (wtd_none rfl) rfl (Rd.x (x_assign rfl)) ?_
  refine sr_nil ?_
  refine aw_keep (keep_cons (t := 0) rfl (keep_cons (t := 1) rfl (keep_cons (t := 2) rfl (keep_cons (t := 6) rfl keep_nil)))) ?_
  refine aw_seq_region ?_
  refine sr_x rfl (wtd_none rfl) rfl (Rd.x (x_move rfl)) ?_
  refine sr_x rfl (wtd_none rfl) rfl (Rd.x (x_assign rfl)) ?_
  refine sr_x rfl (wtd_none rfl) rfl (Rd.x (x_assign rfl)) ?_
  refine sr_nil ?_
  refine aw_keep (keep_cons (t := 0) rfl (keep_cons (t := 1) rfl (keep_cons (t := 2) rfl (keep_cons (t := 6) rfl (keep_cons (t := 7) rfl (keep_cons (t := 8) rfl keep_nil)))))) ?_
  refine aw_seq ?_
  refine aw_block ?_
  refine aw_loop (ι := Unit) (fun _ => True) (fun _ => [(0, .slice none 0 0), (1, .int .i64 ((0 : Nat) : Int)), (2, .func (.func 143) #[] #[]), (6, .int .i64 20), (7, .int .i64 ((0 : Nat) : Int)), (8, .int .i64 20)]) (fun _ => G) (fun _ => 0) () (trivial) (by (repeat (first | exact keep_nil | refine keep_cons rfl ?_)); first | done | fail) (by repeat (first | exact Sub.refl _ | apply Sub.drop)) ?_
  intro _ _
  refine aw_seq ?_
  refine aw_seq_region ?_
  refine sr_x rfl (wtd_none rfl) rfl (Rd.x (x_move rfl)) ?_
  refine sr_x rfl (wtd_none rfl) rfl (Rd.x (x_move rfl)) ?_
  refine sr_cmp rfl (wtd_none rfl) rfl (Rd.x (x_le rfl rfl)) (fun h1 => absurd h1 (by first | omega | decide)) (fun h1 => ?_)
  refine sr_nil ?_
  refine aw_keep (keep_cons (t := 0) rfl (keep_cons (t := 1) rfl (keep_cons (t := 2) rfl (keep_cons (t := 6) rfl (keep_cons (t := 7) rfl (keep_cons (t := 8) rfl (keep_cons (t := 11) rfl (keep_cons (t := 12) rfl (keep_cons (t := 13) rfl keep_nil))))))))) ?_
  refine aw_false rfl ?_
  refine aw_exit ?_
  show AW _ _ _ _ _ _ _
  refine aw_seq_region ?_
  refine sr_x rfl (wtd_none rfl) rfl (Rd.x (x_move rfl)) ?_
  refine sr_x rfl (wtd_none rfl) rfl (Rd.x (x_move rfl)) ?_
  refine sr_x rfl (wtd_none rfl) rfl (Rd.x (x_move rfl)) ?_
  refine sr_x rfl (wtd_none rfl) rfl (Rd.x (x_move rfl)) ?_
  refine sr_d rfl (wtd_none rfl) rfl (opS_call rfl rfl rfl rfl cl171 (jsInsN_s _)) ?_
  rintro _ G ⟨rfl, rfl⟩
  refine sr_nil ?_
  refine aw_keep (keep_cons (t := 0) rfl (keep_cons (t := 1) rfl (keep_cons (t := 2) rfl (keep_cons (t := 6) rfl (keep_cons (t := 7) rfl (keep_cons (t := 8) rfl keep_nil)))))) ?_
  refine aw_block ?_
  refine aw_loop (ι := Unit) (fun _ => True) (fun _ => [(1, .int .i64 ((0 : Nat) : Int)), (6, .int .i64 20)]) (fun _ => G) (fun _ => 0) () (trivial) (by (repeat (first | exact keep_nil | refine keep_cons rfl ?_)); first | done | fail) (by repeat (first | exact Sub.refl _ | apply Sub.drop)) ?_
  intro _ _
  refine aw_seq ?_
  refine aw_seq_region ?_
  refine sr_x rfl (wtd_none rfl) rfl (Rd.x (x_move rfl)) ?_
  refine sr_x rfl (wtd_none rfl) rfl (Rd.x (x_move rfl)) ?_
  refine sr_cmp rfl (wtd_none rfl) rfl (Rd.x (x_lt rfl rfl)) (fun h2 => absurd h2 (by first | omega | decide)) (fun h2 => ?_)
  refine sr_nil ?_
  refine aw_keep (keep_cons (t := 1) rfl (keep_cons (t := 6) rfl (keep_cons (t := 28) rfl (keep_cons (t := 29) rfl (keep_cons (t := 30) rfl keep_nil))))) ?_
  refine aw_false rfl ?_
  refine aw_exit ?_
  show ∃ v H2, ResV _ _ _ _ _ _ v ∧ Sub H2 _ ∧ _
  exact ⟨_, G, resV rfl .nil, (by repeat (first | exact Sub.refl _ | apply Sub.drop)), ⟨rfl, rfl⟩⟩
set_option maxRecDepth 100000 in
set_option maxHeartbeats 400000 in
theorem jsSrtN_s (G : SHeap) : AC Try.prog W0 142 [.slice none 0 0, .func (.func 143) #[] #[]] G (fun v H' => v = .tuple #[] ∧ H' = G) := by
  refine ac_of Try.func142 rfl rfl rfl ?_
  refine aw_region ?_
  refine sr_x rfl (wtd_none rfl) rfl (Rd.x (x_move rfl)) ?_
  refine sr_x rfl (wtd_none rfl) rfl (Rd.x (x_move rfl)) ?_
  refine sr_x rfl (wtd_none rfl) rfl (Rd.x (x_lenSlice Try.underlying22 rfl)) ?_
  refine sr_x rfl (wtd_none rfl) rfl (Rd.x (x_move rfl)) ?_
  refine sr_d rfl (wtd_none rfl) rfl (opS_call rfl rfl rfl rfl cl152 (jsStbN_s _)) ?_
  rintro _ G ⟨rfl, rfl⟩
  refine sr_nil ?_
  show ∃ v H2, ResV _ _ _ _ _ _ v ∧ Sub H2 _ ∧ _
  exact ⟨_, G, resV rfl .nil, (by repeat (first | exact Sub.refl _ | apply Sub.drop)), ⟨rfl, rfl⟩⟩
theorem jsV_s (a : Option Addr) (cap n : Nat) (W : List Job) (E G : SHeap) (V : OwnVec 10 91 (.slice a n cap) n (W.flatMap Job.cells) E) (hl : W.length = n) (hn : n ≤ 100000) (c : Job → Job → Int) (hcmp : ∀ x y V, Sub G V → AC Try.prog W0 143 [Job.v x, Job.v y] V (fun v H' => v = .int .i64 (c x y) ∧ H' = V)) (hsw : Swo c) :
    AC Try.prog W0 142 [.slice a n cap, .func (.func 143) #[] #[]] (E ++ G) (fun v H' => ∃ W' E', St c W W' ∧ SrtI c W' 0 n ∧ v = .tuple #[] ∧ OwnVec 10 91 (.slice a n cap) n (W'.flatMap Job.cells) E' ∧ H' = E' ++ G) := by
  generalize hL : W.flatMap Job.cells = L at V
  cases V with
  | nil =>
    obtain rfl : W = [] := List.length_eq_zero_iff.1 hl
    exact (jsSrtN_s G).mono fun v H' ⟨h1, h2⟩ => ⟨[], [], St.refl _, fun i j _ _ h => by omega, h1, .nil, h2⟩
  | @mk r n cap L post h1 h2 h3 h4 =>
    subst hL
    exact (jsSrt_s r cap n W post G hl hn h3 h4 c hcmp hsw).mono fun v H' ⟨W', ⟨q1, q2⟩, q3, q4⟩ => ⟨W', _, q1, q2, q3, .mk (by rw [flat_len (n := 10) (enc := Job.cells) (fun _ => rfl), q1.1.length_eq, hl]) h2 h3 h4, q4⟩
end
end Go.Proofs.Yteilocpjikmmdaa
