/- Of no book, and of a user who is not there, nothing is told; no condition. -/
import Derived.Test.YteilocpjikmmdaaShaOfNews
import Derived.Test.YteilocpjikmmdaaRows
namespace Go.Proofs.Yteilocpjikmmdaa
open Go.Proofs.Yteilocpjikmmdaa.Sym
open Go.RowKit (Below)
set_option linter.unusedVariables false
set_option linter.unusedSimpArgs false
theorem ag75 : aggOf Try.prog 75 = some false := by kernel_rfl
theorem cl123 : Callable Try.prog 123 := ⟨Try.f123, Try.func123, by kernel_rfl, by kernel_rfl⟩
theorem cl144 : Callable Try.prog 144 := ⟨Try.f144, Try.func144, by kernel_rfl, by kernel_rfl⟩
theorem cl154 : Callable Try.prog 154 := ⟨Try.f154, Try.func154, by kernel_rfl, by kernel_rfl⟩
theorem cl80 : Callable Try.prog 80 := ⟨Try.f80, Try.func80, by kernel_rfl, by kernel_rfl⟩
theorem cl82 : Callable Try.prog 82 := ⟨Try.f82, Try.func82, by kernel_rfl, by kernel_rfl⟩
theorem cl85 : Callable Try.prog 85 := ⟨Try.f85, Try.func85, by kernel_rfl, by kernel_rfl⟩
section
variable {W0 : World}
set_option maxRecDepth 100000 in
set_option maxHeartbeats 400000 in
theorem unoneN_s (H : SHeap) : AC Try.prog W0 110 [.pointer none] H (fun v H' => v = .bool true ∧ H' = H) := by
  refine ac_of Try.func110 rfl rfl rfl ?_
  refine aw_seq_region ?_
  refine sr_x rfl (wtd_none rfl) rfl (Rd.x (x_assign rfl)) ?_
  refine sr_nil ?_
  refine aw_keep (keep_cons (t := 0) rfl (keep_cons (t := 2) rfl keep_nil)) ?_
  refine aw_seq_region ?_
  refine sr_x rfl (wtd_none rfl) rfl (Rd.x (x_move rfl)) ?_
  refine sr_x rfl (wtd_none rfl) rfl (Rd.x (x_eqnil Try.underlying75 rfl rfl)) ?_
  refine sr_x rfl (wtd_none rfl) rfl (Rd.x (x_move rfl)) ?_
  refine sr_skip rfl (wtd_no rfl rfl rfl rfl) rfl ?_
  refine sr_skip rfl (wtd_no rfl rfl rfl rfl) rfl ?_
  refine sr_skip rfl (wtd_no rfl rfl rfl rfl) rfl ?_
  refine sr_skip rfl (wtd_no rfl rfl rfl rfl) rfl ?_
  refine sr_skip rfl (wtd_no rfl rfl rfl rfl) rfl ?_
  refine sr_x rfl (wtd_none rfl) rfl (Rd.x (x_pick_t rfl rfl rfl)) ?_
  refine sr_x rfl (wtd_none rfl) rfl (Rd.x (x_assign rfl)) ?_
  refine sr_nil ?_
  refine aw_keep (keep_cons (t := 2) rfl keep_nil) ?_
  refine aw_ret ?_
  show ∃ v H2, ResV _ _ _ _ _ _ v ∧ Sub H2 _ ∧ _
  exact ⟨_, H, resV rfl (.cons rfl .nil), (by repeat (first | exact Sub.refl _ | apply Sub.drop)), ⟨rfl, rfl⟩⟩
set_option maxRecDepth 100000 in
set_option maxHeartbeats 400000 in
theorem unoneZ_s (z : Nat) (H : SHeap) (hc : Cells W0 H z 0 (bkC (.slice none 0 0) 0 0)) : AC Try.prog W0 110 [.pointer (some ⟨z, 0, none⟩)] H (fun v H' => v = .bool true ∧ H' = H) := by
  refine ac_of Try.func110 rfl rfl rfl ?_
  refine aw_seq_region ?_
  refine sr_x rfl (wtd_none rfl) rfl (Rd.x (x_assign rfl)) ?_
  refine sr_nil ?_
  refine aw_keep (keep_cons (t := 0) rfl (keep_cons (t := 2) rfl keep_nil)) ?_
  refine aw_seq_region ?_
  refine sr_x rfl (wtd_none rfl) rfl (Rd.x (x_move rfl)) ?_
  refine sr_x rfl (wtd_none rfl) rfl (Rd.x (x_eqnil Try.underlying75 rfl rfl)) ?_
  refine sr_x rfl (wtd_none rfl) rfl (Rd.x (x_move rfl)) ?_
  refine sr_x rfl (wtd_yes rfl rfl rfl) rfl (Rd.x (x_move rfl)) ?_
  refine sr_x rfl (wtd_yes rfl rfl rfl) rfl (Rd.x (x_nilCheck rfl)) ?_
  refine sr_x rfl (wtd_yes rfl rfl rfl) rfl (Rd.x (x_fieldAddr fd141_1 rfl)) ?_
  refine sr_x rfl (wtd_yes rfl rfl rfl) rfl (Rd.x (x_load ag2 rfl (cells_get (Cells.mono hc (by repeat (first | exact Sub.refl _ | apply Sub.drop))) 1 rfl))) ?_
  refine sr_cmp rfl (wtd_yes rfl rfl rfl) rfl (Rd.x (x_eq rfl rfl)) (fun h1 => ?_) (fun h1 => absurd (by first | omega | decide) h1)
  refine sr_x rfl (wtd_none rfl) rfl (Rd.x (x_pick_f rfl rfl rfl)) ?_
  refine sr_x rfl (wtd_none rfl) rfl (Rd.x (x_assign rfl)) ?_
  refine sr_nil ?_
  refine aw_keep (keep_cons (t := 2) rfl keep_nil) ?_
  refine aw_ret ?_
  show ∃ v H2, ResV _ _ _ _ _ _ v ∧ Sub H2 _ ∧ _
  exact ⟨_, H, resV rfl (.cons rfl .nil), (by repeat (first | exact Sub.refl _ | apply Sub.drop)), ⟨rfl, rfl⟩⟩
set_option maxRecDepth 100000 in
set_option maxHeartbeats 400000 in
theorem dueN_s (id : Int) (H : SHeap) : AC Try.prog W0 86 [.pointer none, .int .i64 id] H (fun v H' => v = .tuple #[.int .i64 0, .int .i64 8] ∧ H' = H) := by
  refine ac_of Try.func86 rfl rfl rfl ?_
  refine aw_seq_region ?_
  refine sr_x rfl (wtd_none rfl) rfl (Rd.x (x_assign rfl)) ?_
  refine sr_x rfl (wtd_none rfl) rfl (Rd.x (x_assign rfl)) ?_
  refine sr_nil ?_
  refine aw_keep (keep_cons (t := 0) rfl (keep_cons (t := 1) rfl (keep_cons (t := 4) rfl (keep_cons (t := 5) rfl keep_nil)))) ?_
  refine aw_seq ?_
  refine aw_seq_region ?_
  refine sr_x rfl (wtd_none rfl) rfl (Rd.x (x_move rfl)) ?_
  refine sr_d rfl (wtd_none rfl) rfl (opS_call rfl rfl rfl rfl cl110 (unoneN_s _)) ?_
  rintro _ H ⟨rfl, rfl⟩
  refine sr_nil ?_
  refine aw_keep (keep_cons (t := 0) rfl (keep_cons (t := 1) rfl (keep_cons (t := 4) rfl (keep_cons (t := 5) rfl (keep_cons (t := 12) rfl keep_nil))))) ?_
  refine aw_true rfl ?_
  refine aw_seq_region ?_
  refine sr_x rfl (wtd_none rfl) rfl (Rd.x (x_assign rfl)) ?_
  refine sr_x rfl (wtd_none rfl) rfl (Rd.x (x_assign rfl)) ?_
  refine sr_nil ?_
  refine aw_keep (keep_cons (t := 0) rfl (keep_cons (t := 1) rfl (keep_cons (t := 4) rfl (keep_cons (t := 5) rfl keep_nil)))) ?_
  refine aw_ret ?_
  show ∃ v H2, ResV _ _ _ _ _ _ v ∧ Sub H2 _ ∧ _
  exact ⟨_, H, resV rfl (.cons rfl (.cons rfl .nil)), (by repeat (first | exact Sub.refl _ | apply Sub.drop)), ⟨rfl, rfl⟩⟩
set_option maxRecDepth 100000 in
set_option maxHeartbeats 400000 in
theorem fadeN_s (t : Int) (H : SHeap) : AC Try.prog W0 80 [.pointer none, .int .i64 t] H (fun v H' => v = .int .i64 8 ∧ H' = H) := by
  refine ac_of Try.func80 rfl rfl rfl ?_
  refine aw_seq_region ?_
  refine sr_x rfl (wtd_none rfl) rfl (Rd.x (x_assign rfl)) ?_
  refine sr_nil ?_
  refine aw_keep (keep_cons (t := 0) rfl (keep_cons (t := 1) rfl (keep_cons (t := 4) rfl keep_nil))) ?_
  refine aw_seq ?_
  refine aw_block ?_
  refine aw_seq_region ?_
  refine sr_x rfl (wtd_none rfl) rfl (Rd.x (x_move rfl)) ?_
  refine sr_d rfl (wtd_none rfl) rfl (opS_call rfl rfl rfl rfl cl110 (unoneN_s _)) ?_
  rintro _ H ⟨rfl, rfl⟩
  refine sr_x rfl (wtd_none rfl) rfl (Rd.x (x_assign rfl)) ?_
  refine sr_nil ?_
  refine aw_keep (keep_cons (t := 0) rfl (keep_cons (t := 1) rfl (keep_cons (t := 4) rfl (keep_cons (t := 7) rfl keep_nil)))) ?_
  refine aw_true rfl ?_
  refine aw_seq_region ?_
  refine sr_x rfl (wtd_none rfl) rfl (Rd.x (x_assign rfl)) ?_
  refine sr_nil ?_
  refine aw_keep (keep_cons (t := 0) rfl (keep_cons (t := 1) rfl (keep_cons (t := 4) rfl keep_nil))) ?_
  refine aw_ret ?_
  show ∃ v H2, ResV _ _ _ _ _ _ v ∧ Sub H2 _ ∧ _
  exact ⟨_, H, resV rfl (.cons rfl .nil), (by repeat (first | exact Sub.refl _ | apply Sub.drop)), ⟨rfl, rfl⟩⟩
set_option maxRecDepth 100000 in
set_option maxHeartbeats 400000 in
theorem uallN_s (H : SHeap) : AC Try.prog W0 84 [.pointer none] H (fun v H' => v = .int .i64 0 ∧ H' = H) := by
  refine ac_of Try.func84 rfl rfl rfl ?_
  refine aw_seq_region ?_
  refine sr_x rfl (wtd_none rfl) rfl (Rd.x (x_assign rfl)) ?_
  refine sr_nil ?_
  refine aw_keep (keep_cons (t := 0) rfl (keep_cons (t := 2) rfl keep_nil)) ?_
  refine aw_seq ?_
  refine aw_seq_region ?_
  refine sr_x rfl (wtd_none rfl) rfl (Rd.x (x_move rfl)) ?_
  refine sr_d rfl (wtd_none rfl) rfl (opS_call rfl rfl rfl rfl cl110 (unoneN_s _)) ?_
  rintro _ H ⟨rfl, rfl⟩
  refine sr_nil ?_
  refine aw_keep (keep_cons (t := 0) rfl (keep_cons (t := 2) rfl (keep_cons (t := 7) rfl keep_nil))) ?_
  refine aw_true rfl ?_
  refine aw_seq_region ?_
  refine sr_x rfl (wtd_none rfl) rfl (Rd.x (x_assign rfl)) ?_
  refine sr_nil ?_
  refine aw_keep (keep_cons (t := 0) rfl (keep_cons (t := 2) rfl keep_nil)) ?_
  refine aw_ret ?_
  show ∃ v H2, ResV _ _ _ _ _ _ v ∧ Sub H2 _ ∧ _
  exact ⟨_, H, resV rfl (.cons rfl .nil), (by repeat (first | exact Sub.refl _ | apply Sub.drop)), ⟨rfl, rfl⟩⟩
set_option maxRecDepth 100000 in
set_option maxHeartbeats 400000 in
theorem usersN_s (H : SHeap) : AC Try.prog W0 52 [.pointer none] H (fun v H' => v = .slice none 0 0 ∧ H' = H) := by
  refine ac_of Try.func52 rfl rfl rfl ?_
  refine aw_seq_region ?_
  refine sr_x rfl (wtd_none rfl) rfl (Rd.x (x_assign rfl)) ?_
  refine sr_nil ?_
  refine aw_keep (keep_cons (t := 0) rfl (keep_cons (t := 2) rfl keep_nil)) ?_
  refine aw_seq ?_
  refine aw_seq_region ?_
  refine sr_x rfl (wtd_none rfl) rfl (Rd.x (x_move rfl)) ?_
  refine sr_d rfl (wtd_none rfl) rfl (opS_call rfl rfl rfl rfl cl110 (unoneN_s _)) ?_
  rintro _ H ⟨rfl, rfl⟩
  refine sr_nil ?_
  refine aw_keep (keep_cons (t := 0) rfl (keep_cons (t := 2) rfl (keep_cons (t := 4) rfl keep_nil))) ?_
  refine aw_true rfl ?_
  refine aw_seq_region ?_
  refine sr_x rfl (wtd_none rfl) rfl (Rd.x (x_assign rfl)) ?_
  refine sr_nil ?_
  refine aw_keep (keep_cons (t := 0) rfl (keep_cons (t := 2) rfl keep_nil)) ?_
  refine aw_ret ?_
  show ∃ v H2, ResV _ _ _ _ _ _ v ∧ Sub H2 _ ∧ _
  exact ⟨_, H, resV rfl (.cons rfl .nil), (by repeat (first | exact Sub.refl _ | apply Sub.drop)), ⟨rfl, rfl⟩⟩
set_option maxRecDepth 100000 in
set_option maxHeartbeats 400000 in
theorem chargeZ_s (z : Nat) (H : SHeap) (hc : Cells W0 H z 0 (bkC (.slice none 0 0) 0 0)) (id use : Int) : AC Try.prog W0 82 [.pointer (some ⟨z, 0, none⟩), .int .i64 id, .int .i64 use] H (fun v H' => v = .int .i64 8 ∧ H' = H) := by
  refine ac_of Try.func82 rfl rfl rfl ?_
  refine aw_seq_region ?_
  refine sr_x rfl (wtd_none rfl) rfl (Rd.x (x_assign rfl)) ?_
  refine sr_nil ?_
  refine aw_keep (keep_cons (t := 0) rfl (keep_cons (t := 1) rfl (keep_cons (t := 2) rfl (keep_cons (t := 6) rfl keep_nil)))) ?_
  refine aw_seq ?_
  refine aw_seq_region ?_
  refine sr_x rfl (wtd_none rfl) rfl (Rd.x (x_move rfl)) ?_
  refine sr_d rfl (wtd_none rfl) rfl (opS_call rfl rfl rfl rfl cl110 (unoneZ_s z _ (Cells.mono hc (by repeat (first | exact Sub.refl _ | apply Sub.drop))))) ?_
  rintro _ H ⟨rfl, rfl⟩
  refine sr_nil ?_
  refine aw_keep (keep_cons (t := 0) rfl (keep_cons (t := 1) rfl (keep_cons (t := 2) rfl (keep_cons (t := 6) rfl (keep_cons (t := 10) rfl keep_nil))))) ?_
  refine aw_true rfl ?_
  refine aw_seq_region ?_
  refine sr_x rfl (wtd_none rfl) rfl (Rd.x (x_assign rfl)) ?_
  refine sr_nil ?_
  refine aw_keep (keep_cons (t := 0) rfl (keep_cons (t := 1) rfl (keep_cons (t := 2) rfl (keep_cons (t := 6) rfl keep_nil)))) ?_
  refine aw_ret ?_
  show ∃ v H2, ResV _ _ _ _ _ _ v ∧ Sub H2 _ ∧ _
  exact ⟨_, H, resV rfl (.cons rfl .nil), (by repeat (first | exact Sub.refl _ | apply Sub.drop)), ⟨rfl, rfl⟩⟩
set_option maxRecDepth 100000 in
set_option maxHeartbeats 400000 in
theorem unowZ_s (z : Nat) (H : SHeap) (hc : Cells W0 H z 0 (bkC (.slice none 0 0) 0 0)) : AC Try.prog W0 53 [.pointer (some ⟨z, 0, none⟩)] H (fun v H' => v = .int .i64 0 ∧ H' = H) := by
  refine ac_of Try.func53 rfl rfl rfl ?_
  refine aw_seq_region ?_
  refine sr_x rfl (wtd_none rfl) rfl (Rd.x (x_assign rfl)) ?_
  refine sr_nil ?_
  refine aw_keep (keep_cons (t := 0) rfl (keep_cons (t := 2) rfl keep_nil)) ?_
  refine aw_seq ?_
  refine aw_seq_region ?_
  refine sr_x rfl (wtd_none rfl) rfl (Rd.x (x_move rfl)) ?_
  refine sr_d rfl (wtd_none rfl) rfl (opS_call rfl rfl rfl rfl cl110 (unoneZ_s z _ (Cells.mono hc (by repeat (first | exact Sub.refl _ | apply Sub.drop))))) ?_
  rintro _ H ⟨rfl, rfl⟩
  refine sr_nil ?_
  refine aw_keep (keep_cons (t := 0) rfl (keep_cons (t := 2) rfl (keep_cons (t := 4) rfl keep_nil))) ?_
  refine aw_true rfl ?_
  refine aw_seq_region ?_
  refine sr_x rfl (wtd_none rfl) rfl (Rd.x (x_assign rfl)) ?_
  refine sr_nil ?_
  refine aw_keep (keep_cons (t := 0) rfl (keep_cons (t := 2) rfl keep_nil)) ?_
  refine aw_ret ?_
  show ∃ v H2, ResV _ _ _ _ _ _ v ∧ Sub H2 _ ∧ _
  exact ⟨_, H, resV rfl (.cons rfl .nil), (by repeat (first | exact Sub.refl _ | apply Sub.drop)), ⟨rfl, rfl⟩⟩
set_option maxRecDepth 100000 in
set_option maxHeartbeats 400000 in
theorem usersZ2_s (z : Nat) (H : SHeap) (hc : Cells W0 H z 0 (bkC (.slice none 0 0) 0 0)) : AC Try.prog W0 52 [.pointer (some ⟨z, 0, none⟩)] H (fun v H' => v = .slice none 0 0 ∧ H' = H) := by
  refine ac_of Try.func52 rfl rfl rfl ?_
  refine aw_seq_region ?_
  refine sr_x rfl (wtd_none rfl) rfl (Rd.x (x_assign rfl)) ?_
  refine sr_nil ?_
  refine aw_keep (keep_cons (t := 0) rfl (keep_cons (t := 2) rfl keep_nil)) ?_
  refine aw_seq ?_
  refine aw_seq_region ?_
  refine sr_x rfl (wtd_none rfl) rfl (Rd.x (x_move rfl)) ?_
  refine sr_d rfl (wtd_none rfl) rfl (opS_call rfl rfl rfl rfl cl110 (unoneZ_s z _ (Cells.mono hc (by repeat (first | exact Sub.refl _ | apply Sub.drop))))) ?_
  rintro _ H ⟨rfl, rfl⟩
  refine sr_nil ?_
  refine aw_keep (keep_cons (t := 0) rfl (keep_cons (t := 2) rfl (keep_cons (t := 4) rfl keep_nil))) ?_
  refine aw_true rfl ?_
  refine aw_seq_region ?_
  refine sr_x rfl (wtd_none rfl) rfl (Rd.x (x_assign rfl)) ?_
  refine sr_nil ?_
  refine aw_keep (keep_cons (t := 0) rfl (keep_cons (t := 2) rfl keep_nil)) ?_
  refine aw_ret ?_
  show ∃ v H2, ResV _ _ _ _ _ _ v ∧ Sub H2 _ ∧ _
  exact ⟨_, H, resV rfl (.cons rfl .nil), (by repeat (first | exact Sub.refl _ | apply Sub.drop)), ⟨rfl, rfl⟩⟩
set_option maxRecDepth 100000 in
set_option maxHeartbeats 400000 in
theorem isort0_s (fv : Value) (H : SHeap) : AC Try.prog W0 154 [.slice none 0 0, .int .i64 0, .int .i64 0, fv] H (fun v H' => v = .tuple #[] ∧ H' = H) := by
  refine ac_of Try.func154 rfl rfl rfl ?_
  refine aw_seq_region ?_
  refine sr_x rfl (wtd_none rfl) rfl (Rd.x (x_move rfl)) ?_
  refine sr_x rfl (wtd_none rfl) rfl (Rd.x (x_add' rfl rfl (i64w (by omega) (by omega)))) ?_
  refine sr_x rfl (wtd_none rfl) rfl (Rd.x (x_assign rfl)) ?_
  refine sr_nil ?_
  refine aw_keep (keep_cons (t := 0) rfl (keep_cons (t := 1) rfl (keep_cons (t := 2) rfl (keep_cons (t := 3) rfl (keep_cons (t := 8) rfl keep_nil))))) ?_
  refine aw_block ?_
  refine aw_loop (ι := Unit) (fun _ => True) (fun _ => [(2, .int .i64 0), (8, .int .i64 1)]) (fun _ => H) (fun _ => 0) () (trivial) (by repeat (first | exact keep_nil | refine keep_cons rfl ?_)) (by repeat (first | exact Sub.refl _ | apply Sub.drop)) ?_
  intro _ _
  refine aw_seq ?_
  refine aw_seq_region ?_
  refine sr_x rfl (wtd_none rfl) rfl (Rd.x (x_move rfl)) ?_
  refine sr_x rfl (wtd_none rfl) rfl (Rd.x (x_move rfl)) ?_
  refine sr_cmp rfl (wtd_none rfl) rfl (Rd.x (x_lt rfl rfl)) (fun h1 => absurd h1 (by first | omega | decide)) (fun h1 => ?_)
  refine sr_nil ?_
  refine aw_keep (keep_cons (t := 2) rfl (keep_cons (t := 8) rfl (keep_cons (t := 12) rfl (keep_cons (t := 13) rfl (keep_cons (t := 14) rfl keep_nil))))) ?_
  refine aw_false rfl ?_
  refine aw_exit ?_
  show ∃ v H2, ResV _ _ _ _ _ _ v ∧ Sub H2 _ ∧ _
  exact ⟨_, H, resV rfl .nil, (by repeat (first | exact Sub.refl _ | apply Sub.drop)), ⟨rfl, rfl⟩⟩
set_option maxRecDepth 100000 in
set_option maxHeartbeats 400000 in
theorem stable0_s (fv : Value) (H : SHeap) : AC Try.prog W0 144 [.slice none 0 0, .int .i64 0, fv] H (fun v H' => v = .tuple #[] ∧ H' = H) := by
  refine ac_of Try.func144 rfl rfl rfl ?_
  refine aw_seq_region ?_
  refine sr_x rfl (wtd_none rfl) rfl (Rd.x (x_assign rfl)) ?_
  refine sr_nil ?_
  refine aw_keep (keep_cons (t := 0) rfl (keep_cons (t := 1) rfl (keep_cons (t := 2) rfl (keep_cons (t := 6) rfl keep_nil)))) ?_
  refine aw_seq_region ?_
  refine sr_x rfl (wtd_none rfl) rfl (Rd.x (x_move rfl)) ?_
  refine sr_x rfl (wtd_none rfl) rfl (Rd.x (x_assign rfl)) ?_
  refine sr_x rfl (wtd_none rfl) rfl (Rd.x (x_assign rfl)) ?_
  refine sr_nil ?_
  refine aw_keep (keep_cons (t := 0) rfl (keep_cons (t := 1) rfl (keep_cons (t := 2) rfl (keep_cons (t := 6) rfl (keep_cons (t := 7) rfl (keep_cons (t := 8) rfl keep_nil)))))) ?_
  refine aw_seq ?_
  refine aw_block ?_
  refine aw_loop (ι := Unit) (fun _ => True) (fun _ => [(0, .slice none 0 0), (1, .int .i64 0), (2, fv), (6, .int .i64 20), (7, .int .i64 0), (8, .int .i64 20)]) (fun _ => H) (fun _ => 0) () (trivial) (by repeat (first | exact keep_nil | refine keep_cons rfl ?_)) (by repeat (first | exact Sub.refl _ | apply Sub.drop)) ?_
  intro _ _
  refine aw_seq ?_
  refine aw_seq_region ?_
  refine sr_x rfl (wtd_none rfl) rfl (Rd.x (x_move rfl)) ?_
  refine sr_x rfl (wtd_none rfl) rfl (Rd.x (x_move rfl)) ?_
  refine sr_cmp rfl (wtd_none rfl) rfl (Rd.x (x_le rfl rfl)) (fun h1 => absurd h1 (by first | omega | decide)) (fun h1 => ?_)
  refine sr_nil ?_
  refine aw_keep (keep_cons (t := 0) rfl (keep_cons (t := 1) rfl (keep_cons (t := 2) rfl (keep_cons (t := 6) rfl (keep_cons (t := 7) rfl (keep_cons (t := 8) rfl (keep_cons (t := 11) rfl (keep_cons (t := 12) rfl (keep_cons (t := 13) rfl keep_nil))))))))) ?_
  refine aw_false rfl ?_
  refine aw_exit ?_
  show AW _ _ _ _ _ _ _
  refine aw_seq_region ?_
  refine sr_x rfl (wtd_none rfl) rfl (Rd.x (x_move rfl)) ?_
  refine sr_x rfl (wtd_none rfl) rfl (Rd.x (x_move rfl)) ?_
  refine sr_x rfl (wtd_none rfl) rfl (Rd.x (x_move rfl)) ?_
  refine sr_x rfl (wtd_none rfl) rfl (Rd.x (x_move rfl)) ?_
  refine sr_d rfl (wtd_none rfl) rfl (opS_call rfl rfl rfl rfl cl154 (isort0_s fv _)) ?_
  rintro _ H ⟨rfl, rfl⟩
  refine sr_nil ?_
  refine aw_keep (keep_cons (t := 0) rfl (keep_cons (t := 1) rfl (keep_cons (t := 2) rfl (keep_cons (t := 6) rfl (keep_cons (t := 7) rfl (keep_cons (t := 8) rfl keep_nil)))))) ?_
  refine aw_block ?_
  refine aw_loop (ι := Unit) (fun _ => True) (fun _ => [(1, .int .i64 0), (6, .int .i64 20)]) (fun _ => H) (fun _ => 0) () (trivial) (by repeat (first | exact keep_nil | refine keep_cons rfl ?_)) (by repeat (first | exact Sub.refl _ | apply Sub.drop)) ?_
  intro _ _
  refine aw_seq ?_
  refine aw_seq_region ?_
  refine sr_x rfl (wtd_none rfl) rfl (Rd.x (x_move rfl)) ?_
  refine sr_x rfl (wtd_none rfl) rfl (Rd.x (x_move rfl)) ?_
  refine sr_cmp rfl (wtd_none rfl) rfl (Rd.x (x_lt rfl rfl)) (fun h2 => absurd h2 (by first | omega | decide)) (fun h2 => ?_)
  refine sr_nil ?_
  refine aw_keep (keep_cons (t := 1) rfl (keep_cons (t := 6) rfl (keep_cons (t := 28) rfl (keep_cons (t := 29) rfl (keep_cons (t := 30) rfl keep_nil))))) ?_
  refine aw_false rfl ?_
  refine aw_exit ?_
  show ∃ v H2, ResV _ _ _ _ _ _ v ∧ Sub H2 _ ∧ _
  exact ⟨_, H, resV rfl .nil, (by repeat (first | exact Sub.refl _ | apply Sub.drop)), ⟨rfl, rfl⟩⟩
set_option maxRecDepth 100000 in
set_option maxHeartbeats 400000 in
theorem sortst0_s (fv : Value) (H : SHeap) : AC Try.prog W0 123 [.slice none 0 0, fv] H (fun v H' => v = .tuple #[] ∧ H' = H) := by
  refine ac_of Try.func123 rfl rfl rfl ?_
  refine aw_region ?_
  refine sr_x rfl (wtd_none rfl) rfl (Rd.x (x_move rfl)) ?_
  refine sr_x rfl (wtd_none rfl) rfl (Rd.x (x_move rfl)) ?_
  refine sr_x rfl (wtd_none rfl) rfl (Rd.x (x_lenSlice Try.underlying134 rfl)) ?_
  refine sr_x rfl (wtd_none rfl) rfl (Rd.x (x_move rfl)) ?_
  refine sr_d rfl (wtd_none rfl) rfl (opS_call rfl rfl rfl rfl cl144 (stable0_s fv _)) ?_
  rintro _ H ⟨rfl, rfl⟩
  refine sr_nil ?_
  show ∃ v H2, ResV _ _ _ _ _ _ v ∧ Sub H2 _ ∧ _
  exact ⟨_, H, resV rfl .nil, (by repeat (first | exact Sub.refl _ | apply Sub.drop)), ⟨rfl, rfl⟩⟩
set_option maxRecDepth 100000 in
set_option maxHeartbeats 400000 in
theorem orderZ_s (z : Nat) (H : SHeap) (hc : Cells W0 H z 0 (bkC (.slice none 0 0) 0 0)) : AC Try.prog W0 85 [.pointer (some ⟨z, 0, none⟩)] H (fun v H' => v = .slice none 0 0 ∧ H' = H) := by
  refine ac_of Try.func85 rfl rfl rfl ?_
  refine aw_seq_region ?_
  refine sr_new rfl (wtd_none rfl) rfl (x_box rfl rfl) ?_
  intro r0_0 hr0_0 gr0_0
  refine sr_x rfl (wtd_none rfl) rfl (Rd.x (x_assign rfl)) ?_
  refine sr_nil ?_
  refine aw_keep (keep_cons (t := 1) rfl (keep_cons (t := 2) rfl keep_nil)) ?_
  refine aw_seq_region ?_
  refine sr_x rfl (wtd_none rfl) rfl (Rd.x (x_assign rfl)) ?_
  refine sr_nil ?_
  refine aw_keep (keep_cons (t := 1) rfl (keep_cons (t := 2) rfl (keep_cons (t := 3) rfl keep_nil))) ?_
  refine aw_seq ?_
  refine aw_seq_region ?_
  refine sr_x rfl (wtd_none rfl) rfl (Rd.x (x_load ag75 rfl (cells_ext (by repeat (first | exact List.mem_cons_self | apply List.mem_cons_of_mem | apply List.mem_append_right)) (by repeat (first | exact Ext.all _ | exact Ext.done | apply Ext.take | apply Ext.skip))))) ?_
  refine sr_d rfl (wtd_none rfl) rfl (opS_call rfl rfl rfl rfl cl52 (usersZ2_s z _ (Cells.mono hc (by repeat (first | exact Sub.refl _ | apply Sub.drop))))) ?_
  rintro _ H ⟨rfl, rfl⟩
  refine sr_x rfl (wtd_none rfl) rfl (Rd.x (x_lenSlice Try.underlying73 rfl)) ?_
  refine sr_x rfl (wtd_none rfl) rfl (Rd.x (x_move rfl)) ?_
  refine sr_nil ?_
  refine aw_keep (keep_cons (t := 1) rfl (keep_cons (t := 2) rfl (keep_cons (t := 3) rfl (keep_cons (t := 7) rfl (keep_cons (t := 8) rfl (keep_cons (t := 9) rfl keep_nil)))))) ?_
  refine aw_block ?_
  refine aw_loop (ι := Unit) (fun _ => True) (fun _ => [(1, .pointer (some ⟨r0_0, 0, none⟩)), (3, .slice none 0 0), (8, .int .i64 0), (9, .int .i64 0)]) (fun _ => (r0_0, .cells [.pointer (some ⟨z, 0, none⟩)].toArray 75 (0, 0)) :: H) (fun _ => 0) () (trivial) (by repeat (first | exact keep_nil | refine keep_cons rfl ?_)) (by repeat (first | exact Sub.refl _ | apply Sub.drop)) ?_
  intro _ _
  refine aw_seq_region ?_
  refine sr_cmp rfl (wtd_none rfl) rfl (Rd.x (x_lt rfl rfl)) (fun h1 => absurd h1 (by first | omega | decide)) (fun h1 => ?_)
  refine sr_nil ?_
  refine aw_keep (keep_cons (t := 1) rfl (keep_cons (t := 3) rfl (keep_cons (t := 8) rfl (keep_cons (t := 9) rfl (keep_cons (t := 10) rfl keep_nil))))) ?_
  refine aw_seq ?_
  refine aw_false rfl ?_
  refine aw_exit ?_
  show AW _ _ _ _ _ _ _
  refine aw_seq_region ?_
  refine sr_x rfl (wtd_none rfl) rfl (Rd.x (x_move rfl)) ?_
  refine sr_x rfl (wtd_none rfl) rfl (Rd.x (x_makeFunc rfl rfl)) ?_
  refine sr_d rfl (wtd_none rfl) rfl (opS_call rfl rfl rfl rfl cl123 (sortst0_s _ _)) ?_
  rintro _ H ⟨rfl, rfl⟩
  refine sr_nil ?_
  refine aw_keep (keep_cons (t := 3) rfl keep_nil) ?_
  refine aw_seq_region ?_
  refine sr_x rfl (wtd_none rfl) rfl (Rd.x (x_move rfl)) ?_
  refine sr_x rfl (wtd_none rfl) rfl (Rd.x (x_assign rfl)) ?_
  refine sr_nil ?_
  refine aw_keep (keep_cons (t := 2) rfl keep_nil) ?_
  refine aw_ret ?_
  show ∃ v H2, ResV _ _ _ _ _ _ v ∧ Sub H2 _ ∧ _
  exact ⟨_, H, resV rfl (.cons rfl .nil), (by repeat (first | exact Sub.refl _ | apply Sub.drop)), ⟨rfl, rfl⟩⟩
set_option maxRecDepth 100000 in
set_option maxHeartbeats 400000 in
theorem charge0_s (p : Nat) (a : Option Addr) (cap : Nat) (half now : Int) (H : SHeap) (hc : Cells W0 H p 0 (bkC (.slice a 0 cap) half now)) (hh : half ≠ 0) (hs : SlV W0 H 3 User.cells a cap []) (id use : Int) : AC Try.prog W0 82 [.pointer (some ⟨p, 0, none⟩), .int .i64 id, .int .i64 use] H (fun v H' => v = .int .i64 7 ∧ H' = H) := by
  refine ac_of Try.func82 rfl rfl rfl ?_
  refine aw_seq_region ?_
  refine sr_x rfl (wtd_none rfl) rfl (Rd.x (x_assign rfl)) ?_
  refine sr_nil ?_
  refine aw_keep (keep_cons (t := 0) rfl (keep_cons (t := 1) rfl (keep_cons (t := 2) rfl (keep_cons (t := 6) rfl keep_nil)))) ?_
  refine aw_seq ?_
  refine aw_seq_region ?_
  refine sr_x rfl (wtd_none rfl) rfl (Rd.x (x_move rfl)) ?_
  refine sr_d rfl (wtd_none rfl) rfl (opS_call rfl rfl rfl rfl cl110 (unone_s p _ half now _ (Cells.mono hc (by repeat (first | exact Sub.refl _ | apply Sub.drop))) hh)) ?_
  rintro _ H ⟨rfl, rfl⟩
  refine sr_nil ?_
  refine aw_keep (keep_cons (t := 0) rfl (keep_cons (t := 1) rfl (keep_cons (t := 2) rfl (keep_cons (t := 6) rfl (keep_cons (t := 10) rfl keep_nil))))) ?_
  refine aw_false rfl ?_
  refine aw_skip ?_
  show AW _ _ _ _ _ _ _
  refine aw_seq_region ?_
  refine sr_x rfl (wtd_none rfl) rfl (Rd.x (x_move rfl)) ?_
  refine sr_x rfl (wtd_none rfl) rfl (Rd.x (x_move rfl)) ?_
  refine sr_d rfl (wtd_none rfl) rfl (opS_call rfl rfl rfl rfl cl107 (ufind_s p a cap [] half now id _ (Cells.mono hc (by repeat (first | exact Sub.refl _ | apply Sub.drop))) (hs.mono (by repeat (first | exact Sub.refl _ | apply Sub.drop))) List.Pairwise.nil (by decide))) ?_
  rintro _ H ⟨⟨i, ok, rfl, hat, hok⟩, rfl⟩
  obtain rfl : ok = false := by cases ok with | false => rfl | true => obtain ⟨x, hx, _⟩ := hok.1 rfl; cases hx
  refine sr_x rfl (wtd_none rfl) rfl (Rd.x (x_move rfl)) ?_
  refine sr_x rfl (wtd_none rfl) rfl (Rd.x (x_extract rfl rfl)) ?_
  refine sr_x rfl (wtd_none rfl) rfl (Rd.x (x_extract rfl rfl)) ?_
  refine sr_x rfl (wtd_none rfl) rfl (Rd.x (x_assign rfl)) ?_
  refine sr_x rfl (wtd_none rfl) rfl (Rd.x (x_assign rfl)) ?_
  refine sr_nil ?_
  refine aw_keep (keep_cons (t := 0) rfl (keep_cons (t := 2) rfl (keep_cons (t := 6) rfl (keep_cons (t := 7) rfl (keep_cons (t := 8) rfl keep_nil))))) ?_
  refine aw_seq ?_
  refine aw_block ?_
  refine aw_seq_region ?_
  refine sr_x rfl (wtd_none rfl) rfl (Rd.x (x_move rfl)) ?_
  refine sr_x rfl (wtd_none rfl) rfl (Rd.x (x_not rfl)) ?_
  refine sr_x rfl (wtd_none rfl) rfl (Rd.x (x_assign rfl)) ?_
  refine sr_nil ?_
  refine aw_keep (keep_cons (t := 0) rfl (keep_cons (t := 2) rfl (keep_cons (t := 6) rfl (keep_cons (t := 7) rfl (keep_cons (t := 17) rfl keep_nil))))) ?_
  refine aw_true rfl ?_
  refine aw_seq_region ?_
  refine sr_x rfl (wtd_none rfl) rfl (Rd.x (x_assign rfl)) ?_
  refine sr_nil ?_
  refine aw_keep (keep_cons (t := 0) rfl (keep_cons (t := 2) rfl (keep_cons (t := 6) rfl (keep_cons (t := 7) rfl keep_nil)))) ?_
  refine aw_ret ?_
  show ∃ v H2, ResV _ _ _ _ _ _ v ∧ Sub H2 _ ∧ _
  exact ⟨_, H, resV rfl (.cons rfl .nil), (by repeat (first | exact Sub.refl _ | apply Sub.drop)), ⟨rfl, rfl⟩⟩
set_option maxRecDepth 100000 in
set_option maxHeartbeats 400000 in
theorem shareNobody_s (id use : Int) : AC Try.prog W0 15 [.int .i64 id, .int .i64 use] [] (fun v _ => v = .bool true) := by
  refine ac_of Try.func15 rfl rfl rfl ?_
  refine aw_seq_region ?_
  refine sr_x rfl (wtd_none rfl) rfl (Rd.x (x_assign rfl)) ?_
  refine sr_nil ?_
  refine aw_keep (keep_cons (t := 0) rfl (keep_cons (t := 1) rfl (keep_cons (t := 4) rfl keep_nil))) ?_
  refine aw_seq_region ?_
  refine sr_x rfl (wtd_none rfl) rfl (Rd.x (x_assign rfl)) ?_
  refine sr_nil ?_
  refine aw_keep (keep_cons (t := 0) rfl (keep_cons (t := 1) rfl (keep_cons (t := 4) rfl (keep_cons (t := 5) rfl keep_nil)))) ?_
  refine aw_seq_region ?_
  refine sr_new rfl (wtd_none rfl) rfl (x_alloc zr141 rfl) ?_
  intro r2_0 hr2_0 gr2_0
  refine sr_nil ?_
  refine aw_keep (keep_cons (t := 0) rfl (keep_cons (t := 1) rfl (keep_cons (t := 4) rfl (keep_cons (t := 5) rfl (keep_cons (t := 6) rfl keep_nil))))) ?_
  refine aw_seq_region ?_
  refine sr_x rfl (wtd_none rfl) rfl (Rd.x (x_move rfl)) ?_
  refine sr_x rfl (wtd_none rfl) rfl (Rd.x (x_move rfl)) ?_
  refine sr_d rfl (wtd_none rfl) rfl (opS_call rfl rfl rfl rfl cl86 (dueN_s id _)) ?_
  rintro _ H ⟨rfl, rfl⟩
  refine sr_x rfl (wtd_none rfl) rfl (Rd.x (x_move rfl)) ?_
  refine sr_x rfl (wtd_none rfl) rfl (Rd.x (x_extract rfl rfl)) ?_
  refine sr_x rfl (wtd_none rfl) rfl (Rd.x (x_extract rfl rfl)) ?_
  refine sr_x rfl (wtd_none rfl) rfl (Rd.x (x_assign rfl)) ?_
  refine sr_x rfl (wtd_none rfl) rfl (Rd.x (x_assign rfl)) ?_
  refine sr_nil ?_
  refine aw_keep (keep_cons (t := 0) rfl (keep_cons (t := 1) rfl (keep_cons (t := 4) rfl (keep_cons (t := 5) rfl (keep_cons (t := 6) rfl (keep_cons (t := 8) rfl keep_nil)))))) ?_
  refine aw_seq_region ?_
  refine sr_d rfl (wtd_none rfl) rfl (opS_call rfl rfl rfl rfl cl49 (unew_ok (l := []) (us := []) (a := none) (cap := 0) (half := 1) (fun H _ => slv_nil) (by decide) (by decide) .done)) ?_
  rintro _ _ ⟨p9, a9, c9, E9, _, _, V9, rfl, rfl⟩
  refine sr_x rfl (wtd_none rfl) rfl (Rd.x (x_move rfl)) ?_
  refine sr_x rfl (wtd_none rfl) rfl (Rd.x (x_extract rfl rfl)) ?_
  refine sr_x rfl (wtd_none rfl) rfl (Rd.x (x_extract rfl rfl)) ?_
  refine sr_x rfl (wtd_none rfl) rfl (Rd.x (x_assign rfl)) ?_
  refine sr_x rfl (wtd_none rfl) rfl (Rd.x (x_assign rfl)) ?_
  refine sr_nil ?_
  refine aw_keep (keep_cons (t := 0) rfl (keep_cons (t := 1) rfl (keep_cons (t := 4) rfl (keep_cons (t := 5) rfl (keep_cons (t := 6) rfl (keep_cons (t := 8) rfl (keep_cons (t := 9) rfl (keep_cons (t := 10) rfl keep_nil)))))))) ?_
  refine aw_seq_region ?_
  refine sr_x rfl (wtd_none rfl) rfl (Rd.x (x_move rfl)) ?_
  refine sr_x rfl (wtd_none rfl) rfl (Rd.x (x_move rfl)) ?_
  refine sr_d rfl (wtd_none rfl) rfl (opS_call rfl rfl rfl rfl cl86 (due_s p9 a9 c9 [] 1 0 _ (cells_ext (by repeat (first | exact List.mem_cons_self | apply List.mem_cons_of_mem | apply List.mem_append_right)) (by repeat (first | exact Ext.all _ | exact Ext.done | apply Ext.take | apply Ext.skip))) (by decide) (V9.slv' (fun _ => rfl) rfl (Sub.takeE0 (by repeat (first | exact TakeE.here | apply TakeE.there | apply TakeE.app)))) (by decide) List.Pairwise.nil (fun x hx => nomatch hx) id)) ?_
  rintro _ H9 ⟨hd, rfl⟩
  obtain ⟨_, rfl⟩ := hd.resolve_right (fun ⟨x, hx, _⟩ => nomatch hx)
  refine sr_x rfl (wtd_none rfl) rfl (Rd.x (x_move rfl)) ?_
  refine sr_x rfl (wtd_none rfl) rfl (Rd.x (x_extract rfl rfl)) ?_
  refine sr_x rfl (wtd_none rfl) rfl (Rd.x (x_extract rfl rfl)) ?_
  refine sr_x rfl (wtd_none rfl) rfl (Rd.x (x_assign rfl)) ?_
  refine sr_x rfl (wtd_none rfl) rfl (Rd.x (x_assign rfl)) ?_
  refine sr_nil ?_
  refine aw_keep (keep_cons (t := 0) rfl (keep_cons (t := 1) rfl (keep_cons (t := 4) rfl (keep_cons (t := 5) rfl (keep_cons (t := 6) rfl (keep_cons (t := 8) rfl (keep_cons (t := 9) rfl (keep_cons (t := 10) rfl (keep_cons (t := 12) rfl keep_nil))))))))) ?_
  refine aw_seq_region ?_
  refine sr_x rfl (wtd_none rfl) rfl (Rd.x (x_move rfl)) ?_
  refine sr_cmp rfl (wtd_none rfl) rfl (Rd.x (x_eq rfl rfl)) (fun h1 => ?_) (fun h1 => absurd (by first | omega | decide) h1)
  refine sr_x rfl (wtd_none rfl) rfl (Rd.x (x_move rfl)) ?_
  refine sr_x rfl (wtd_yes rfl rfl rfl) rfl (Rd.x (x_move rfl)) ?_
  refine sr_d rfl (wtd_yes rfl rfl rfl) rfl (opS_call rfl rfl rfl rfl cl80 (fadeN_s 1 _)) ?_
  rintro _ H ⟨rfl, rfl⟩
  refine sr_cmp rfl (wtd_yes rfl rfl rfl) rfl (Rd.x (x_eq rfl rfl)) (fun h2 => ?_) (fun h2 => absurd (by first | omega | decide) h2)
  refine sr_x rfl (wtd_none rfl) rfl (Rd.x (x_pick_t rfl rfl rfl)) ?_
  refine sr_x rfl (wtd_none rfl) rfl (Rd.x (x_move rfl)) ?_
  refine sr_x rfl (wtd_yes rfl rfl rfl) rfl (Rd.x (x_move rfl)) ?_
  refine sr_x rfl (wtd_yes rfl rfl rfl) rfl (Rd.x (x_move rfl)) ?_
  refine sr_d rfl (wtd_yes rfl rfl rfl) rfl (opS_call rfl rfl rfl rfl cl82 (chargeZ_s r2_0 _ (cells_ext (by repeat (first | exact List.mem_cons_self | apply List.mem_cons_of_mem | apply List.mem_append_right)) (by repeat (first | exact Ext.all _ | exact Ext.done | apply Ext.take | apply Ext.skip))) id use)) ?_
  rintro _ H ⟨rfl, rfl⟩
  refine sr_cmp rfl (wtd_yes rfl rfl rfl) rfl (Rd.x (x_eq rfl rfl)) (fun h3 => ?_) (fun h3 => absurd (by first | omega | decide) h3)
  refine sr_x rfl (wtd_none rfl) rfl (Rd.x (x_pick_t rfl rfl rfl)) ?_
  refine sr_x rfl (wtd_none rfl) rfl (Rd.x (x_move rfl)) ?_
  refine sr_x rfl (wtd_yes rfl rfl rfl) rfl (Rd.x (x_move rfl)) ?_
  refine sr_cmp rfl (wtd_yes rfl rfl rfl) rfl (Rd.x (x_eq rfl rfl)) (fun h4 => ?_) (fun h4 => absurd (by first | omega | decide) h4)
  refine sr_x rfl (wtd_none rfl) rfl (Rd.x (x_pick_t rfl rfl rfl)) ?_
  refine sr_x rfl (wtd_none rfl) rfl (Rd.x (x_move rfl)) ?_
  refine sr_x rfl (wtd_yes rfl rfl rfl) rfl (Rd.x (x_move rfl)) ?_
  refine sr_cmp rfl (wtd_yes rfl rfl rfl) rfl (Rd.x (x_eq rfl rfl)) (fun h5 => ?_) (fun h5 => absurd (by first | omega | decide) h5)
  refine sr_x rfl (wtd_none rfl) rfl (Rd.x (x_pick_t rfl rfl rfl)) ?_
  refine sr_x rfl (wtd_none rfl) rfl (Rd.x (x_move rfl)) ?_
  refine sr_x rfl (wtd_yes rfl rfl rfl) rfl (Rd.x (x_move rfl)) ?_
  refine sr_x rfl (wtd_yes rfl rfl rfl) rfl (Rd.x (x_move rfl)) ?_
  refine sr_x rfl (wtd_yes rfl rfl rfl) rfl (Rd.x (x_move rfl)) ?_
  refine sr_d rfl (wtd_yes rfl rfl rfl) rfl (opS_call rfl rfl rfl rfl cl82 (charge0_s p9 a9 c9 1 0 _ (cells_ext (by repeat (first | exact List.mem_cons_self | apply List.mem_cons_of_mem | apply List.mem_append_right)) (by repeat (first | exact Ext.all _ | exact Ext.done | apply Ext.take | apply Ext.skip))) (by decide) (V9.slv' (fun _ => rfl) rfl (Sub.takeE0 (by repeat (first | exact TakeE.here | apply TakeE.there | apply TakeE.app)))) id use)) ?_
  rintro _ H ⟨rfl, rfl⟩
  refine sr_cmp rfl (wtd_yes rfl rfl rfl) rfl (Rd.x (x_eq rfl rfl)) (fun h6 => ?_) (fun h6 => absurd (by first | omega | decide) h6)
  refine sr_x rfl (wtd_none rfl) rfl (Rd.x (x_pick_t rfl rfl rfl)) ?_
  refine sr_x rfl (wtd_none rfl) rfl (Rd.x (x_move rfl)) ?_
  refine sr_x rfl (wtd_yes rfl rfl rfl) rfl (Rd.x (x_move rfl)) ?_
  refine sr_d rfl (wtd_yes rfl rfl rfl) rfl (opS_call rfl rfl rfl rfl cl84 (uallN_s _)) ?_
  rintro _ H ⟨rfl, rfl⟩
  refine sr_d rfl (wtd_yes rfl rfl rfl) rfl (opS_call rfl rfl rfl rfl cl53 (unowZ_s r2_0 _ (cells_ext (by repeat (first | exact List.mem_cons_self | apply List.mem_cons_of_mem | apply List.mem_append_right)) (by repeat (first | exact Ext.all _ | exact Ext.done | apply Ext.take | apply Ext.skip))))) ?_
  rintro _ H ⟨rfl, rfl⟩
  refine sr_x rfl (wtd_yes rfl rfl rfl) rfl (Rd.x (x_add' rfl rfl (i64w (by omega) (by omega)))) ?_
  refine sr_cmp rfl (wtd_yes rfl rfl rfl) rfl (Rd.x (x_eq rfl rfl)) (fun h7 => ?_) (fun h7 => absurd (by first | omega | decide) h7)
  refine sr_x rfl (wtd_none rfl) rfl (Rd.x (x_pick_t rfl rfl rfl)) ?_
  refine sr_x rfl (wtd_none rfl) rfl (Rd.x (x_move rfl)) ?_
  refine sr_x rfl (wtd_yes rfl rfl rfl) rfl (Rd.x (x_move rfl)) ?_
  refine sr_d rfl (wtd_yes rfl rfl rfl) rfl (opS_call rfl rfl rfl rfl cl52 (usersN_s _)) ?_
  rintro _ H ⟨rfl, rfl⟩
  refine sr_x rfl (wtd_yes rfl rfl rfl) rfl (Rd.x (x_lenSlice Try.underlying73 rfl)) ?_
  refine sr_d rfl (wtd_yes rfl rfl rfl) rfl (opS_call rfl rfl rfl rfl cl85 (orderZ_s r2_0 _ (cells_ext (by repeat (first | exact List.mem_cons_self | apply List.mem_cons_of_mem | apply List.mem_append_right)) (by repeat (first | exact Ext.all _ | exact Ext.done | apply Ext.take | apply Ext.skip))))) ?_
  rintro _ H ⟨rfl, rfl⟩
  refine sr_x rfl (wtd_yes rfl rfl rfl) rfl (Rd.x (x_lenSlice Try.underlying134 rfl)) ?_
  refine sr_x rfl (wtd_yes rfl rfl rfl) rfl (Rd.x (x_add' rfl rfl (i64w (by omega) (by omega)))) ?_
  refine sr_cmp rfl (wtd_yes rfl rfl rfl) rfl (Rd.x (x_eq rfl rfl)) (fun h8 => ?_) (fun h8 => absurd (by first | omega | decide) h8)
  refine sr_x rfl (wtd_none rfl) rfl (Rd.x (x_pick_t rfl rfl rfl)) ?_
  refine sr_x rfl (wtd_none rfl) rfl (Rd.x (x_move rfl)) ?_
  refine sr_d rfl (wtd_yes rfl rfl rfl) rfl (opS_call rfl rfl rfl rfl cl51 (awake32_s _)) ?_
  rintro _ H ⟨rfl, rfl⟩
  refine sr_x rfl (wtd_none rfl) rfl (Rd.x (x_pick_t rfl rfl rfl)) ?_
  refine sr_x rfl (wtd_none rfl) rfl (Rd.x (x_assign rfl)) ?_
  refine sr_nil ?_
  refine aw_keep (keep_cons (t := 4) rfl keep_nil) ?_
  refine aw_ret ?_
  show ∃ v H2, ResV _ _ _ _ _ _ v ∧ Sub H2 _ ∧ _
  exact ⟨_, [], resV rfl (.cons rfl .nil), (Sub.nil _), rfl⟩
end
namespace ShareNobodyRow
open Go.ChangeShapes Go.WideShapes Go.ChangeAt Go.RowKit
theorem own : ownKnob Try.prog.godebug = none := by kernel_rfl
theorem laid : laidOutB Try.prog = true := by kernel_rfl
set_option maxRecDepth 100000 in
theorem lifted (os : Os) (started : os.Started) (H : Type) (enc : TypeId × Value → H) :
    ReturnsInHanded {} Try.checked os 15 .any (Rows.shareNobodySpec.pre6 enc Try.prog Try.f15 Rows.shareNobodyRow.domain false) (Rows.shareNobodySpec.post enc Try.prog Try.f15 false true false false) := by
  refine law_lifted (C := Try.checked) (tb := 4) own started (by kernel_rfl) Try.func15 (ChangeSpec.witness6 (enc := enc) (C := Try.checked) false ⟨#[], #[.int .i64 0, .int .i64 0], []⟩ 8 (by kernel_rfl) (by kernel_rfl) (by kernel_rfl) (by kernel_rfl)) rfl Try.underlying4 rfl laid (by kernel_rfl) ?_ ?_
  · intro ds h
    match ds, h with
    | [a0, a1], _ => rfl
  · intro W base args ds ps hval hA hlt hsz
    have hA' : DataW.TrodAll enc Try.prog W 0 (fun _ => true) true [3, 2] args ds ps := hA
    clear hA
    obtain ⟨v0, vs0, d0, ds0, p0, q0, rfl, rfl, rfl, h0, r0⟩ := trodAll_cons hA'
    obtain ⟨v1, vs1, d1, ds1, p1, q1, rfl, rfl, rfl, h1, r1⟩ := trodAll_cons r0
    obtain ⟨rfl, rfl, rfl⟩ := trodAll_nil r1
    obtain ⟨id, rfl, _⟩ := opn_int Try.underlying3 (hval 0 3 v0 rfl rfl) h0
    obtain ⟨use, rfl, _⟩ := opn_int Try.underlying2 (hval 1 2 v1 rfl rfl) h1
    exact shareNobody_s id use
theorem over : Rows.shareNobodyRow.holds Try.pinned (OpenSpec.ofChange Rows.shareNobodySpec) :=
  OpenClaim.holds_of_wide 15 Try.f15 rfl rfl rfl rfl rfl rfl rfl ⟨rfl, rfl, rfl, rfl, rfl⟩ rfl rfl rfl rfl rfl (by kernel_rfl) Try.func15 (by kernel_rfl)
    (of_decide_eq_true (by kernel_rfl)) (by unfold Func.isWrapper; first | (rw [if_pos (by decide +kernel)]; kernel_rfl) | (rw [if_neg (by decide +kernel)]; exact ⟨rfl, rfl⟩))
    (fun os started H enc _ => lifted os started H enc)
theorem proved : Rows.ShareNobodySaid := over
#print axioms proved
end ShareNobodyRow
end Go.Proofs.Yteilocpjikmmdaa
