/- Jobs end: what Finish comes to, for any table. -/
import Derived.Test.YteilocpjikmmdaaJobAw
namespace Go.Proofs.Yteilocpjikmmdaa
open Go.Proofs.Yteilocpjikmmdaa.Sym
open Go.RowKit (Below)
set_option linter.unusedVariables false
set_option linter.unusedSimpArgs false
theorem by3 : bytesOf Try.prog 3 = some 8 := by kernel_rfl
section
variable {W0 : World}
set_option maxRecDepth 100000 in
set_option maxHeartbeats 400000 in
theorem index2_s (b n nc : Nat) (xs : List Int) (x : Int) (H : SHeap) (hn : n = xs.length) (hm : n ≤ 1000000) (hc : Cells W0 H b 0 (xs.map (.int .i64))) : AC Try.prog W0 141 [.slice (some ⟨b, 0, none⟩) n nc, .int .i64 x] H (fun v H' => (∃ i : Int, v = .int .i64 i ∧ (0 ≤ i ↔ x ∈ xs)) ∧ H' = H) := by
  refine ac_of Try.func141 rfl rfl rfl ?_
  refine aw_seq_region ?_
  refine sr_x rfl (wtd_none rfl) rfl (Rd.x (x_assign rfl)) ?_
  refine sr_nil ?_
  refine aw_keep (keep_cons (t := 0) rfl (keep_cons (t := 1) rfl (keep_cons (t := 4) rfl keep_nil))) ?_
  refine aw_seq ?_
  refine aw_seq_region ?_
  refine sr_x rfl (wtd_none rfl) rfl (Rd.x (x_move rfl)) ?_
  refine sr_x rfl (wtd_none rfl) rfl (Rd.x (x_lenSlice Try.underlying134 rfl)) ?_
  refine sr_x rfl (wtd_none rfl) rfl (Rd.x (x_move rfl)) ?_
  refine sr_nil ?_
  refine aw_keep (keep_cons (t := 0) rfl (keep_cons (t := 1) rfl (keep_cons (t := 4) rfl (keep_cons (t := 7) rfl (keep_cons (t := 8) rfl keep_nil))))) ?_
  refine aw_block ?_
  refine aw_loop (ι := Nat) (fun k => k ≤ xs.length ∧ ∀ i y, i < k → xs[i]? = some y → x ≠ y) (fun k => [(0, .slice (some ⟨b, 0, none⟩) n nc), (1, .int .i64 x), (7, .int .i64 n), (8, .int .i64 k)]) (fun _ => H) (fun k => xs.length - k) 0 (⟨Nat.zero_le _, fun _ _ h => by omega⟩) (by (repeat (first | exact keep_nil | refine keep_cons rfl ?_)); first | done | fail) (by repeat (first | exact Sub.refl _ | apply Sub.drop)) ?_
  intro k hk
  obtain ⟨hk0, hno⟩ := hk
  refine aw_seq_region ?_
  refine sr_cmp rfl (wtd_none rfl) rfl (Rd.x (x_lt rfl rfl)) (fun h1 => ?_) (fun h1 => ?_)
  · refine sr_nil ?_
    refine aw_keep (keep_cons (t := 0) rfl (keep_cons (t := 1) rfl (keep_cons (t := 7) rfl (keep_cons (t := 8) rfl (keep_cons (t := 9) rfl keep_nil))))) ?_
    refine aw_seq ?_
    refine aw_true rfl ?_
    refine aw_skip ?_
    show AW _ _ _ _ _ _ _
    refine aw_seq ?_
    refine aw_block ?_
    refine aw_seq_region ?_
    refine sr_x rfl (wtd_none rfl) rfl (Rd.x (x_move rfl)) ?_
    refine sr_x rfl (wtd_none rfl) rfl (Rd.x (x_assign rfl)) ?_
    refine sr_nil ?_
    refine aw_keep (keep_cons (t := 0) rfl (keep_cons (t := 1) rfl (keep_cons (t := 5) rfl (keep_cons (t := 7) rfl (keep_cons (t := 8) rfl (keep_cons (t := 9) rfl (keep_cons (t := 10) rfl keep_nil))))))) ?_
    refine aw_seq_region ?_
    obtain ⟨y, hy⟩ := get_ex (show k < xs.length by omega)
    refine sr_x rfl (wtd_none rfl) rfl (Rd.x (x_move rfl)) ?_
    refine sr_x rfl (wtd_none rfl) rfl (Rd.x (x_move rfl)) ?_
    refine sr_x rfl (wtd_none rfl) rfl (Rd.x (x_move rfl)) ?_
    refine sr_x rfl (wtd_none rfl) rfl (Rd.x (x_indexAddr Try.underlying134 sz3 rfl rfl (by omega) (by omega))) ?_
    refine sr_x rfl (wtd_none rfl) rfl (Rd.x (x_load ag3 rfl (cells_get hc _ (v := .int .i64 y) (by simp [hy])))) ?_
    refine sr_cmp rfl (wtd_none rfl) rfl (Rd.x (x_eq rfl rfl)) (fun h2 => ?_) (fun h2 => ?_)
    · refine sr_nil ?_
      refine aw_keep (keep_cons (t := 0) rfl (keep_cons (t := 1) rfl (keep_cons (t := 5) rfl (keep_cons (t := 7) rfl (keep_cons (t := 8) rfl (keep_cons (t := 9) rfl (keep_cons (t := 10) rfl (keep_cons (t := 11) rfl (keep_cons (t := 12) rfl (keep_cons (t := 13) rfl (keep_cons (t := 14) rfl (keep_cons (t := 15) rfl (keep_cons (t := 16) rfl keep_nil))))))))))))) ?_
      refine aw_true rfl ?_
      refine aw_seq_region ?_
      refine sr_x rfl (wtd_none rfl) rfl (Rd.x (x_move rfl)) ?_
      refine sr_x rfl (wtd_none rfl) rfl (Rd.x (x_assign rfl)) ?_
      refine sr_nil ?_
      refine aw_keep (keep_cons (t := 0) rfl (keep_cons (t := 1) rfl (keep_cons (t := 4) rfl (keep_cons (t := 5) rfl (keep_cons (t := 7) rfl (keep_cons (t := 8) rfl (keep_cons (t := 9) rfl (keep_cons (t := 10) rfl (keep_cons (t := 11) rfl (keep_cons (t := 12) rfl (keep_cons (t := 13) rfl (keep_cons (t := 14) rfl (keep_cons (t := 15) rfl (keep_cons (t := 16) rfl (keep_cons (t := 17) rfl keep_nil))))))))))))))) ?_
      refine aw_ret ?_
      show ∃ v H2, ResV _ _ _ _ _ _ v ∧ Sub H2 _ ∧ _
      exact ⟨_, H, resV rfl (.cons rfl .nil), (by repeat (first | exact Sub.refl _ | apply Sub.drop)), (by first | exact ⟨⟨_, rfl, ⟨fun _ => by (have e : x = y := by assumption); rw [e]; exact List.mem_of_getElem? hy, fun _ => by omega⟩⟩, rfl⟩ | exact ⟨⟨-1, rfl, ⟨fun h => by omega, fun h => by obtain ⟨i, hi⟩ := List.getElem?_of_mem h; exact absurd rfl (hno i x (by have := get_lt hi; omega) hi)⟩⟩, rfl⟩)⟩
    · refine sr_nil ?_
      refine aw_keep (keep_cons (t := 0) rfl (keep_cons (t := 1) rfl (keep_cons (t := 5) rfl (keep_cons (t := 7) rfl (keep_cons (t := 8) rfl (keep_cons (t := 9) rfl (keep_cons (t := 10) rfl (keep_cons (t := 11) rfl (keep_cons (t := 12) rfl (keep_cons (t := 13) rfl (keep_cons (t := 14) rfl (keep_cons (t := 15) rfl (keep_cons (t := 16) rfl keep_nil))))))))))))) ?_
      refine aw_false rfl ?_
      refine aw_skip ?_
      show AW _ _ _ _ _ _ _
      refine aw_region ?_
      refine sr_x rfl (wtd_none rfl) rfl (Rd.x (x_add' rfl rfl (i64w (by omega) (by omega)))) ?_
      refine sr_x rfl (wtd_none rfl) rfl (Rd.x (x_move rfl)) ?_
      refine sr_nil ?_
      show ∃ s', _ ∧ _ ∧ _ ∧ _
      exact ⟨k + 1, ⟨by omega, fun i z h hz => (Nat.lt_or_eq_of_le (Nat.le_of_lt_succ h)).elim (fun h => hno i z h hz) fun e => by subst e; rw [hy] at hz; cases hz; omega⟩, by omega, (by (repeat (first | exact keep_nil | refine keep_cons rfl ?_)); first | done | fail), (by repeat (first | exact Sub.refl _ | apply Sub.drop))⟩
  · refine sr_nil ?_
    refine aw_keep (keep_cons (t := 0) rfl (keep_cons (t := 1) rfl (keep_cons (t := 7) rfl (keep_cons (t := 8) rfl (keep_cons (t := 9) rfl keep_nil))))) ?_
    refine aw_seq ?_
    refine aw_false rfl ?_
    refine aw_exit ?_
    show AW _ _ _ _ _ _ _
    refine aw_seq_region ?_
    refine sr_x rfl (wtd_none rfl) rfl (Rd.x (x_assign rfl)) ?_
    refine sr_nil ?_
    refine aw_keep (keep_cons (t := 4) rfl keep_nil) ?_
    refine aw_ret ?_
    show ∃ v H2, ResV _ _ _ _ _ _ v ∧ Sub H2 _ ∧ _
    exact ⟨_, H, resV rfl (.cons rfl .nil), (by repeat (first | exact Sub.refl _ | apply Sub.drop)), (by first | exact ⟨⟨_, rfl, ⟨fun _ => by (have e : x = y := by assumption); rw [e]; exact List.mem_of_getElem? hy, fun _ => by omega⟩⟩, rfl⟩ | exact ⟨⟨-1, rfl, ⟨fun h => by omega, fun h => by obtain ⟨i, hi⟩ := List.getElem?_of_mem h; exact absurd rfl (hno i x (by have := get_lt hi; omega) hi)⟩⟩, rfl⟩)⟩
set_option maxRecDepth 100000 in
set_option maxHeartbeats 400000 in
theorem contains2_s (b n nc : Nat) (xs : List Int) (x : Int) (H : SHeap) (hn : n = xs.length) (hm : n ≤ 1000000) (hc : Cells W0 H b 0 (xs.map (.int .i64))) : AC Try.prog W0 121 [.slice (some ⟨b, 0, none⟩) n nc, .int .i64 x] H (fun v H' => (∃ c : Bool, v = .bool c ∧ (c = true ↔ x ∈ xs)) ∧ H' = H) := by
  refine ac_of Try.func121 rfl rfl rfl ?_
  refine aw_seq_region ?_
  refine sr_x rfl (wtd_none rfl) rfl (Rd.x (x_assign rfl)) ?_
  refine sr_nil ?_
  refine aw_keep (keep_cons (t := 0) rfl (keep_cons (t := 1) rfl (keep_cons (t := 4) rfl keep_nil))) ?_
  refine aw_seq_region ?_
  refine sr_x rfl (wtd_none rfl) rfl (Rd.x (x_move rfl)) ?_
  refine sr_x rfl (wtd_none rfl) rfl (Rd.x (x_move rfl)) ?_
  refine sr_d rfl (wtd_none rfl) rfl (opS_call rfl rfl rfl rfl cl141 (index2_s _ _ _ xs _ _ hn hm (Cells.mono hc (by repeat (first | exact Sub.refl _ | apply Sub.drop))))) ?_
  rintro _ H ⟨⟨i, rfl, hi⟩, rfl⟩
  refine sr_cmp rfl (wtd_none rfl) rfl (Rd.x (x_ge rfl rfl)) (fun h1 => ?_) (fun h1 => ?_)
  · refine sr_x rfl (wtd_none rfl) rfl (Rd.x (x_assign rfl)) ?_
    refine sr_nil ?_
    refine aw_keep (keep_cons (t := 4) rfl keep_nil) ?_
    refine aw_ret ?_
    show ∃ v H2, ResV _ _ _ _ _ _ v ∧ Sub H2 _ ∧ _
    exact ⟨_, H, resV rfl (.cons rfl .nil), (by repeat (first | exact Sub.refl _ | apply Sub.drop)), ⟨⟨_, rfl, by rw [← hi]; simp <;> omega⟩, rfl⟩⟩
  · refine sr_x rfl (wtd_none rfl) rfl (Rd.x (x_assign rfl)) ?_
    refine sr_nil ?_
    refine aw_keep (keep_cons (t := 4) rfl keep_nil) ?_
    refine aw_ret ?_
    show ∃ v H2, ResV _ _ _ _ _ _ v ∧ Sub H2 _ ∧ _
    exact ⟨_, H, resV rfl (.cons rfl .nil), (by repeat (first | exact Sub.refl _ | apply Sub.drop)), ⟨⟨_, rfl, by rw [← hi]; simp <;> omega⟩, rfl⟩⟩
set_option maxRecDepth 100000 in
set_option maxHeartbeats 400000 in
theorem at2_s (p : Nat) (a : Option Addr) (cap : Nat) (jobs : List Job) (live : Int) (id : Int) (bs ns nc : Nat) (sts : List Int) (H : SHeap) (hc : Cells W0 H p 0 (tabC (.slice a jobs.length cap) live)) (hs : SlV W0 H 10 Job.cells a cap jobs) (hn : ns = sts.length) (hm : ns ≤ 1000000) (hcs : Cells W0 H bs 0 (sts.map (.int .i64))) : AC Try.prog W0 100 [.pointer (some ⟨p, 0, none⟩), .int .i64 id, .slice (some ⟨bs, 0, none⟩) ns nc] H (fun v H' => (((id < 1 ∨ jobs.length < id) ∧ v = .tuple #[.pointer none, .int .i64 7]) ∨ (∃ (k : Nat) (j : Job), id = k + 1 ∧ jobs[k]? = some j ∧ ((j.state ∉ sts ∧ v = .tuple #[.pointer none, .int .i64 8]) ∨ (j.state ∈ sts ∧ ∃ bj oj, a = some ⟨bj, oj, none⟩ ∧ v = .tuple #[.pointer (some ⟨bj, oj + k * 10, none⟩), .int .i64 0])))) ∧ H' = H) := by
  have hle := hs.le
  have hcb := hs.capb
  refine ac_of Try.func100 rfl rfl rfl ?_
  refine aw_seq_region ?_
  refine sr_x rfl (wtd_none rfl) rfl (Rd.x (x_assign rfl)) ?_
  refine sr_x rfl (wtd_none rfl) rfl (Rd.x (x_assign rfl)) ?_
  refine sr_nil ?_
  refine aw_keep (keep_cons (t := 0) rfl (keep_cons (t := 1) rfl (keep_cons (t := 2) rfl (keep_cons (t := 6) rfl (keep_cons (t := 7) rfl keep_nil))))) ?_
  refine aw_seq ?_
  refine aw_seq_region ?_
  refine sr_x rfl (wtd_none rfl) rfl (Rd.x (x_move rfl)) ?_
  refine sr_x rfl (wtd_none rfl) rfl (Rd.x (x_move rfl)) ?_
  refine sr_d rfl (wtd_none rfl) rfl (opS_call rfl rfl rfl rfl cl77 (get_s p a cap jobs live _ _ (Cells.mono hc (by repeat (first | exact Sub.refl _ | apply Sub.drop))) (hs.mono (by repeat (first | exact Sub.refl _ | apply Sub.drop))))) ?_
  rintro _ H ⟨hget, rfl⟩
  obtain ⟨hbad, rfl⟩ | ⟨k, j, rfl, hj, rfl⟩ := hget
  · refine sr_x rfl (wtd_none rfl) rfl (Rd.x (x_move rfl)) ?_
    refine sr_x rfl (wtd_none rfl) rfl (Rd.x (x_extract rfl rfl)) ?_
    refine sr_x rfl (wtd_none rfl) rfl (Rd.x (x_extract rfl rfl)) ?_
    refine sr_new rfl (wtd_none rfl) rfl (x_alloc zr91 rfl) ?_
    intro r1_6 hr1_6 gr1_6
    refine sr_x0 rfl (wtd_none rfl) (x_store sz91 rfl rfl rfl rfl rfl (by repeat (first | exact Repl.here | apply Repl.there | apply Repl.app)) (by repeat (first | exact Spl.done | exact Spl.all rfl | apply Spl.put | apply Spl.skip))) ?_
    refine sr_x rfl (wtd_none rfl) rfl (Rd.x (x_assign rfl)) ?_
    refine sr_nil ?_
    refine aw_keep (keep_cons (t := 0) rfl (keep_cons (t := 1) rfl (keep_cons (t := 2) rfl (keep_cons (t := 6) rfl (keep_cons (t := 7) rfl (keep_cons (t := 9) rfl keep_nil)))))) ?_
    refine aw_seq_region ?_
    refine sr_x rfl (wtd_none rfl) rfl (Rd.x (x_move rfl)) ?_
    refine sr_cmp rfl (wtd_none rfl) rfl (Rd.x (x_ne rfl rfl)) (fun h1 => ?_) (fun h1 => absurd (by first | omega | decide) h1)
    refine sr_nil ?_
    refine aw_keep (keep_cons (t := 0) rfl (keep_cons (t := 1) rfl (keep_cons (t := 2) rfl (keep_cons (t := 6) rfl (keep_cons (t := 7) rfl (keep_cons (t := 9) rfl (keep_cons (t := 18) rfl keep_nil))))))) ?_
    refine aw_true rfl ?_
    refine aw_seq_region ?_
    refine sr_x rfl (wtd_none rfl) rfl (Rd.x (x_move rfl)) ?_
    refine sr_x rfl (wtd_none rfl) rfl (Rd.x (x_assign rfl)) ?_
    refine sr_x rfl (wtd_none rfl) rfl (Rd.x (x_assign rfl)) ?_
    refine sr_nil ?_
    refine aw_keep (keep_cons (t := 0) rfl (keep_cons (t := 1) rfl (keep_cons (t := 2) rfl (keep_cons (t := 6) rfl (keep_cons (t := 7) rfl keep_nil))))) ?_
    refine aw_ret ?_
    show ∃ v H2, ResV _ _ _ _ _ _ v ∧ Sub H2 _ ∧ _
    exact ⟨_, H, resV rfl (.cons rfl (.cons rfl .nil)), (by repeat (first | exact Sub.refl _ | apply Sub.drop)), (by first | exact ⟨.inl ⟨hbad, rfl⟩, rfl⟩ | exact ⟨.inr ⟨k, j, rfl, hj, .inl ⟨fun h => (nomatch hc0.2 h), rfl⟩⟩, rfl⟩ | exact ⟨.inr ⟨k, j, rfl, hj, .inr ⟨hc0.1 rfl, bj, oj, haj, rfl⟩⟩, rfl⟩)⟩
  · refine sr_x rfl (wtd_none rfl) rfl (Rd.x (x_move rfl)) ?_
    refine sr_x rfl (wtd_none rfl) rfl (Rd.x (x_extract rfl rfl)) ?_
    refine sr_x rfl (wtd_none rfl) rfl (Rd.x (x_extract rfl rfl)) ?_
    refine sr_new rfl (wtd_none rfl) rfl (x_alloc zr91 rfl) ?_
    intro r1_6 hr1_6 gr1_6
    refine sr_x0 rfl (wtd_none rfl) (x_store sz91 rfl rfl rfl rfl rfl (by repeat (first | exact Repl.here | apply Repl.there | apply Repl.app)) (by repeat (first | exact Spl.done | exact Spl.all rfl | apply Spl.put | apply Spl.skip))) ?_
    refine sr_x rfl (wtd_none rfl) rfl (Rd.x (x_assign rfl)) ?_
    refine sr_nil ?_
    refine aw_keep (keep_cons (t := 0) rfl (keep_cons (t := 1) rfl (keep_cons (t := 2) rfl (keep_cons (t := 6) rfl (keep_cons (t := 7) rfl (keep_cons (t := 9) rfl keep_nil)))))) ?_
    refine aw_seq_region ?_
    refine sr_x rfl (wtd_none rfl) rfl (Rd.x (x_move rfl)) ?_
    refine sr_cmp rfl (wtd_none rfl) rfl (Rd.x (x_ne rfl rfl)) (fun h2 => absurd h2 (by first | omega | decide)) (fun h2 => ?_)
    refine sr_nil ?_
    refine aw_keep (keep_cons (t := 0) rfl (keep_cons (t := 1) rfl (keep_cons (t := 2) rfl (keep_cons (t := 6) rfl (keep_cons (t := 7) rfl (keep_cons (t := 9) rfl (keep_cons (t := 18) rfl keep_nil))))))) ?_
    refine aw_false rfl ?_
    refine aw_skip ?_
    show AW _ _ _ _ _ _ _
    refine aw_seq_region ?_
    have hkl := get_lt hj
    obtain ⟨bj, oj, haj, hcj⟩ := hs.at_ k _ hj
    refine sr_x rfl (wtd_none rfl) rfl (Rd.x (x_move rfl)) ?_
    refine sr_x rfl (wtd_none rfl) rfl (Rd.x (x_nilCheck rfl)) ?_
    refine sr_x rfl (wtd_none rfl) rfl (Rd.x (x_fieldAddr fd168_0 rfl)) ?_
    refine sr_x rfl (wtd_none rfl) rfl (Rd.x (x_load ag22 rfl (cells_get (Cells.mono hc (by repeat (first | exact Sub.refl _ | apply Sub.drop))) 0 rfl))) ?_
    refine sr_x rfl (wtd_none rfl) rfl (Rd.x (x_move rfl)) ?_
    refine sr_x rfl (wtd_none rfl) rfl (Rd.x (x_sub' rfl rfl (i64w (by omega) (by omega)))) ?_
    refine sr_x rfl (wtd_none rfl) rfl (Rd.x (x_indexAddrN k Try.underlying22 sz91 rfl haj rfl (by omega) (by omega))) ?_
    refine sr_x rfl (wtd_none rfl) rfl (Rd.x (x_assign rfl)) ?_
    refine sr_nil ?_
    refine aw_keep (keep_cons (t := 2) rfl (keep_cons (t := 6) rfl (keep_cons (t := 7) rfl (keep_cons (t := 10) rfl keep_nil)))) ?_
    refine aw_seq ?_
    refine aw_seq_region ?_
    refine sr_x rfl (wtd_none rfl) rfl (Rd.x (x_move rfl)) ?_
    refine sr_x rfl (wtd_none rfl) rfl (Rd.x (x_move rfl)) ?_
    refine sr_x rfl (wtd_none rfl) rfl (Rd.x (x_nilCheck rfl)) ?_
    refine sr_x rfl (wtd_none rfl) rfl (Rd.x (x_fieldAddr fd91_5 rfl)) ?_
    refine sr_x rfl (wtd_none rfl) rfl (Rd.x (x_load ag3 rfl (cells_get (Cells.mono hcj (by repeat (first | exact Sub.refl _ | apply Sub.drop))) 5 rfl))) ?_
    refine sr_d rfl (wtd_none rfl) rfl (opS_call rfl rfl rfl rfl cl121 (contains2_s _ _ _ sts _ _ hn hm (Cells.mono hcs (by repeat (first | exact Sub.refl _ | apply Sub.drop))))) ?_
    rintro _ H ⟨⟨c0, rfl, hc0⟩, rfl⟩
    cases c0
    · refine sr_x rfl (wtd_none rfl) rfl (Rd.x (x_not rfl)) ?_
      refine sr_nil ?_
      refine aw_keep (keep_cons (t := 6) rfl (keep_cons (t := 7) rfl (keep_cons (t := 10) rfl (keep_cons (t := 33) rfl keep_nil)))) ?_
      refine aw_true rfl ?_
      refine aw_seq_region ?_
      refine sr_x rfl (wtd_none rfl) rfl (Rd.x (x_assign rfl)) ?_
      refine sr_x rfl (wtd_none rfl) rfl (Rd.x (x_assign rfl)) ?_
      refine sr_nil ?_
      refine aw_keep (keep_cons (t := 6) rfl (keep_cons (t := 7) rfl (keep_cons (t := 10) rfl keep_nil))) ?_
      refine aw_ret ?_
      show ∃ v H2, ResV _ _ _ _ _ _ v ∧ Sub H2 _ ∧ _
      exact ⟨_, H, resV rfl (.cons rfl (.cons rfl .nil)), (by repeat (first | exact Sub.refl _ | apply Sub.drop)), (by first | exact ⟨.inl ⟨hbad, rfl⟩, rfl⟩ | exact ⟨.inr ⟨k, j, rfl, hj, .inl ⟨fun h => (nomatch hc0.2 h), rfl⟩⟩, rfl⟩ | exact ⟨.inr ⟨k, j, rfl, hj, .inr ⟨hc0.1 rfl, bj, oj, haj, rfl⟩⟩, rfl⟩)⟩
    · refine sr_x rfl (wtd_none rfl) rfl (Rd.x (x_not rfl)) ?_
      refine sr_nil ?_
      refine aw_keep (keep_cons (t := 6) rfl (keep_cons (t := 7) rfl (keep_cons (t := 10) rfl (keep_cons (t := 33) rfl keep_nil)))) ?_
      refine aw_false rfl ?_
      refine aw_skip ?_
      show AW _ _ _ _ _ _ _
      refine aw_seq_region ?_
      refine sr_x rfl (wtd_none rfl) rfl (Rd.x (x_move rfl)) ?_
      refine sr_x rfl (wtd_none rfl) rfl (Rd.x (x_assign rfl)) ?_
      refine sr_x rfl (wtd_none rfl) rfl (Rd.x (x_assign rfl)) ?_
      refine sr_nil ?_
      refine aw_keep (keep_cons (t := 6) rfl (keep_cons (t := 7) rfl keep_nil)) ?_
      refine aw_ret ?_
      show ∃ v H2, ResV _ _ _ _ _ _ v ∧ Sub H2 _ ∧ _
      exact ⟨_, H, resV rfl (.cons rfl (.cons rfl .nil)), (by repeat (first | exact Sub.refl _ | apply Sub.drop)), (by first | exact ⟨.inl ⟨hbad, rfl⟩, rfl⟩ | exact ⟨.inr ⟨k, j, rfl, hj, .inl ⟨fun h => (nomatch hc0.2 h), rfl⟩⟩, rfl⟩ | exact ⟨.inr ⟨k, j, rfl, hj, .inr ⟨hc0.1 rfl, bj, oj, haj, rfl⟩⟩, rfl⟩)⟩
set_option maxRecDepth 100000 in
set_option maxHeartbeats 2000000 in
theorem finish_s (p : Nat) (a : Option Addr) (cap : Nat) (jobs : List Job) (live : Int) (E G : SHeap) (id st at_ : Int) (V : OwnVec 10 91 (.slice a jobs.length cap) jobs.length (jobs.flatMap Job.cells) E) (hlv : 1 ≤ live ∨ -1000000 ≤ live) (hlv2 : live ≤ 1000000) : AC Try.prog W0 35 [.pointer (some ⟨p, 0, none⟩), .int .i64 id, .int .i64 st, .int .i64 at_] (tab p (.slice a jobs.length cap) live :: (E ++ G)) (fun v H' => (((st < 4 ∨ 6 < st) ∧ v = .int .i64 1 ∧ H' = tab p (.slice a jobs.length cap) live :: (E ++ G)) ∨ (¬ (st < 4 ∨ 6 < st) ∧ (at_ < 0 ∨ 2199023255552 < at_) ∧ v = .int .i64 10 ∧ H' = tab p (.slice a jobs.length cap) live :: (E ++ G)) ∨ ((¬ (st < 4 ∨ 6 < st) ∧ ¬ (at_ < 0 ∨ 2199023255552 < at_)) ∧ (id < 1 ∨ jobs.length < id) ∧ v = .int .i64 7 ∧ H' = tab p (.slice a jobs.length cap) live :: (E ++ G)) ∨ (∃ (k : Nat) (j : Job), (¬ (st < 4 ∨ 6 < st) ∧ ¬ (at_ < 0 ∨ 2199023255552 < at_)) ∧ id = k + 1 ∧ jobs[k]? = some j ∧ ¬ (j.state = 3 ∨ (st = 5 ∧ (j.state = 1 ∨ j.state = 2))) ∧ v = .int .i64 8 ∧ H' = tab p (.slice a jobs.length cap) live :: (E ++ G)) ∨ (∃ (k : Nat) (j : Job), (¬ (st < 4 ∨ 6 < st) ∧ ¬ (at_ < 0 ∨ 2199023255552 < at_)) ∧ id = k + 1 ∧ jobs[k]? = some j ∧ (j.state = 3 ∨ (st = 5 ∧ (j.state = 1 ∨ j.state = 2))) ∧ v = .int .i64 0 ∧ ∃ E', OwnVec 10 91 (.slice a jobs.length cap) jobs.length ((jobs.set k { j with fin := if j.state = 3 then at_ else j.fin, state := st, plan := -1 }).flatMap Job.cells) E' ∧ H' = tab p (.slice a jobs.length cap) (live - 1) :: (E' ++ G)))) := by
  refine ac_of Try.func35 rfl rfl rfl ?_
  refine aw_seq_region ?_
  refine sr_x rfl (wtd_none rfl) rfl (Rd.x (x_assign rfl)) ?_
  refine sr_nil ?_
  refine aw_keep (keep_cons (t := 0) rfl (keep_cons (t := 1) rfl (keep_cons (t := 2) rfl (keep_cons (t := 3) rfl (keep_cons (t := 8) rfl keep_nil))))) ?_
  refine aw_seq ?_
  refine aw_seq_region ?_
  refine sr_x rfl (wtd_none rfl) rfl (Rd.x (x_move rfl)) ?_
  refine sr_cmp rfl (wtd_none rfl) rfl (Rd.x (x_lt rfl rfl)) (fun h1 => ?_) (fun h1 => ?_)
  · refine sr_x rfl (wtd_none rfl) rfl (Rd.x (x_move rfl)) ?_
    refine sr_skip rfl (wtd_no rfl rfl rfl rfl) rfl ?_
    refine sr_skip rfl (wtd_no rfl rfl rfl rfl) rfl ?_
    refine sr_x rfl (wtd_none rfl) rfl (Rd.x (x_pick_t rfl rfl rfl)) ?_
    refine sr_nil ?_
    refine aw_keep (keep_cons (t := 0) rfl (keep_cons (t := 1) rfl (keep_cons (t := 2) rfl (keep_cons (t := 3) rfl (keep_cons (t := 8) rfl (keep_cons (t := 17) rfl keep_nil)))))) ?_
    refine aw_true rfl ?_
    refine aw_seq_region ?_
    refine sr_x rfl (wtd_none rfl) rfl (Rd.x (x_assign rfl)) ?_
    refine sr_nil ?_
    refine aw_keep (keep_cons (t := 0) rfl (keep_cons (t := 1) rfl (keep_cons (t := 2) rfl (keep_cons (t := 3) rfl (keep_cons (t := 8) rfl keep_nil))))) ?_
    refine aw_ret ?_
    show ∃ v H2, ResV _ _ _ _ _ _ v ∧ Sub H2 _ ∧ _
    first | exact ⟨_, tab p (.slice a jobs.length cap) live :: (E ++ G), resV rfl (.cons rfl .nil), (by repeat (first | exact Sub.refl _ | refine Sub.take (by repeat (first | exact Take.here | apply Take.there | apply Take.app)) ?_ | refine Sub.takeE (by repeat (first | exact TakeE.here | apply TakeE.there | apply TakeE.app)) ?_ | exact Sub.nil _ | apply Sub.drop | apply Sub.dropE)), .inl ⟨by omega, rfl, rfl⟩⟩ | exact ⟨_, tab p (.slice a jobs.length cap) live :: (E ++ G), resV rfl (.cons rfl .nil), (by repeat (first | exact Sub.refl _ | refine Sub.take (by repeat (first | exact Take.here | apply Take.there | apply Take.app)) ?_ | refine Sub.takeE (by repeat (first | exact TakeE.here | apply TakeE.there | apply TakeE.app)) ?_ | exact Sub.nil _ | apply Sub.drop | apply Sub.dropE)), .inr (.inl ⟨by omega, by omega, rfl, rfl⟩)⟩ | exact ⟨_, tab p (.slice a jobs.length cap) live :: (E ++ G), resV rfl (.cons rfl .nil), (by repeat (first | exact Sub.refl _ | refine Sub.take (by repeat (first | exact Take.here | apply Take.there | apply Take.app)) ?_ | refine Sub.takeE (by repeat (first | exact TakeE.here | apply TakeE.there | apply TakeE.app)) ?_ | exact Sub.nil _ | apply Sub.drop | apply Sub.dropE)), .inr (.inr (.inl ⟨by omega, hbad, rfl, rfl⟩))⟩ | exact ⟨_, tab p (.slice a jobs.length cap) live :: (E ++ G), resV rfl (.cons rfl .nil), (by repeat (first | exact Sub.refl _ | refine Sub.take (by repeat (first | exact Take.here | apply Take.there | apply Take.app)) ?_ | refine Sub.takeE (by repeat (first | exact TakeE.here | apply TakeE.there | apply TakeE.app)) ?_ | exact Sub.nil _ | apply Sub.drop | apply Sub.dropE)), .inr (.inr (.inr (.inl ⟨k, j, by omega, rfl, hj, by (have h9 := hns; simp at h9; omega), rfl, rfl⟩)))⟩ | (simp only [List.set_set]; exact ⟨_, tab p (.slice (some ⟨bj, 0, none⟩) jobs.length cap) (live - 1) :: ([(bj, .cells ((jobs.set k { j with fin := at_, state := st, plan := -1 }).flatMap Job.cells ++ post).toArray 91 (0, 0))] ++ G), resV rfl (.cons rfl .nil), (by repeat (first | exact Sub.refl _ | refine Sub.take (by repeat (first | exact Take.here | apply Take.there | apply Take.app)) ?_ | refine Sub.takeE (by repeat (first | exact TakeE.here | apply TakeE.there | apply TakeE.app)) ?_ | exact Sub.nil _ | apply Sub.drop | apply Sub.dropE)), .inr (.inr (.inr (.inr ⟨k, j, by omega, rfl, hj, by (have h9 := his; simp at h9; omega), rfl, _, (by rw [if_pos (by assumption)]; exact .mk (by rw [flat_len (n := 10) (fun _ => rfl), List.length_set]) hpl hpn hpc), rfl⟩)))⟩) | (simp only [List.set_set]; exact ⟨_, tab p (.slice (some ⟨bj, 0, none⟩) jobs.length cap) (live - 1) :: ([(bj, .cells ((jobs.set k { j with state := st, plan := -1 }).flatMap Job.cells ++ post).toArray 91 (0, 0))] ++ G), resV rfl (.cons rfl .nil), (by repeat (first | exact Sub.refl _ | refine Sub.take (by repeat (first | exact Take.here | apply Take.there | apply Take.app)) ?_ | refine Sub.takeE (by repeat (first | exact TakeE.here | apply TakeE.there | apply TakeE.app)) ?_ | exact Sub.nil _ | apply Sub.drop | apply Sub.dropE)), .inr (.inr (.inr (.inr ⟨k, j, by omega, rfl, hj, by (have h9 := his; simp at h9; omega), rfl, _, (by rw [if_neg (by assumption)]; exact .mk (by rw [flat_len (n := 10) (fun _ => rfl), List.length_set]) hpl hpn hpc), rfl⟩)))⟩)
  · refine sr_x rfl (wtd_none rfl) rfl (Rd.x (x_move rfl)) ?_
    refine sr_x rfl (wtd_yes rfl rfl rfl) rfl (Rd.x (x_move rfl)) ?_
    refine sr_cmp rfl (wtd_yes rfl rfl rfl) rfl (Rd.x (x_gt rfl rfl)) (fun h2 => ?_) (fun h2 => ?_)
    · refine sr_x rfl (wtd_none rfl) rfl (Rd.x (x_pick_f rfl rfl rfl)) ?_
      refine sr_nil ?_
      refine aw_keep (keep_cons (t := 0) rfl (keep_cons (t := 1) rfl (keep_cons (t := 2) rfl (keep_cons (t := 3) rfl (keep_cons (t := 8) rfl (keep_cons (t := 17) rfl keep_nil)))))) ?_
      refine aw_true rfl ?_
      refine aw_seq_region ?_
      refine sr_x rfl (wtd_none rfl) rfl (Rd.x (x_assign rfl)) ?_
      refine sr_nil ?_
      refine aw_keep (keep_cons (t := 0) rfl (keep_cons (t := 1) rfl (keep_cons (t := 2) rfl (keep_cons (t := 3) rfl (keep_cons (t := 8) rfl keep_nil))))) ?_
      refine aw_ret ?_
      show ∃ v H2, ResV _ _ _ _ _ _ v ∧ Sub H2 _ ∧ _
      first | exact ⟨_, tab p (.slice a jobs.length cap) live :: (E ++ G), resV rfl (.cons rfl .nil), (by repeat (first | exact Sub.refl _ | refine Sub.take (by repeat (first | exact Take.here | apply Take.there | apply Take.app)) ?_ | refine Sub.takeE (by repeat (first | exact TakeE.here | apply TakeE.there | apply TakeE.app)) ?_ | exact Sub.nil _ | apply Sub.drop | apply Sub.dropE)), .inl ⟨by omega, rfl, rfl⟩⟩ | exact ⟨_, tab p (.slice a jobs.length cap) live :: (E ++ G), resV rfl (.cons rfl .nil), (by repeat (first | exact Sub.refl _ | refine Sub.take (by repeat (first | exact Take.here | apply Take.there | apply Take.app)) ?_ | refine Sub.takeE (by repeat (first | exact TakeE.here | apply TakeE.there | apply TakeE.app)) ?_ | exact Sub.nil _ | apply Sub.drop | apply Sub.dropE)), .inr (.inl ⟨by omega, by omega, rfl, rfl⟩)⟩ | exact ⟨_, tab p (.slice a jobs.length cap) live :: (E ++ G), resV rfl (.cons rfl .nil), (by repeat (first | exact Sub.refl _ | refine Sub.take (by repeat (first | exact Take.here | apply Take.there | apply Take.app)) ?_ | refine Sub.takeE (by repeat (first | exact TakeE.here | apply TakeE.there | apply TakeE.app)) ?_ | exact Sub.nil _ | apply Sub.drop | apply Sub.dropE)), .inr (.inr (.inl ⟨by omega, hbad, rfl, rfl⟩))⟩ | exact ⟨_, tab p (.slice a jobs.length cap) live :: (E ++ G), resV rfl (.cons rfl .nil), (by repeat (first | exact Sub.refl _ | refine Sub.take (by repeat (first | exact Take.here | apply Take.there | apply Take.app)) ?_ | refine Sub.takeE (by repeat (first | exact TakeE.here | apply TakeE.there | apply TakeE.app)) ?_ | exact Sub.nil _ | apply Sub.drop | apply Sub.dropE)), .inr (.inr (.inr (.inl ⟨k, j, by omega, rfl, hj, by (have h9 := hns; simp at h9; omega), rfl, rfl⟩)))⟩ | (simp only [List.set_set]; exact ⟨_, tab p (.slice (some ⟨bj, 0, none⟩) jobs.length cap) (live - 1) :: ([(bj, .cells ((jobs.set k { j with fin := at_, state := st, plan := -1 }).flatMap Job.cells ++ post).toArray 91 (0, 0))] ++ G), resV rfl (.cons rfl .nil), (by repeat (first | exact Sub.refl _ | refine Sub.take (by repeat (first | exact Take.here | apply Take.there | apply Take.app)) ?_ | refine Sub.takeE (by repeat (first | exact TakeE.here | apply TakeE.there | apply TakeE.app)) ?_ | exact Sub.nil _ | apply Sub.drop | apply Sub.dropE)), .inr (.inr (.inr (.inr ⟨k, j, by omega, rfl, hj, by (have h9 := his; simp at h9; omega), rfl, _, (by rw [if_pos (by assumption)]; exact .mk (by rw [flat_len (n := 10) (fun _ => rfl), List.length_set]) hpl hpn hpc), rfl⟩)))⟩) | (simp only [List.set_set]; exact ⟨_, tab p (.slice (some ⟨bj, 0, none⟩) jobs.length cap) (live - 1) :: ([(bj, .cells ((jobs.set k { j with state := st, plan := -1 }).flatMap Job.cells ++ post).toArray 91 (0, 0))] ++ G), resV rfl (.cons rfl .nil), (by repeat (first | exact Sub.refl _ | refine Sub.take (by repeat (first | exact Take.here | apply Take.there | apply Take.app)) ?_ | refine Sub.takeE (by repeat (first | exact TakeE.here | apply TakeE.there | apply TakeE.app)) ?_ | exact Sub.nil _ | apply Sub.drop | apply Sub.dropE)), .inr (.inr (.inr (.inr ⟨k, j, by omega, rfl, hj, by (have h9 := his; simp at h9; omega), rfl, _, (by rw [if_neg (by assumption)]; exact .mk (by rw [flat_len (n := 10) (fun _ => rfl), List.length_set]) hpl hpn hpc), rfl⟩)))⟩)
    · refine sr_x rfl (wtd_none rfl) rfl (Rd.x (x_pick_f rfl rfl rfl)) ?_
      refine sr_nil ?_
      refine aw_keep (keep_cons (t := 0) rfl (keep_cons (t := 1) rfl (keep_cons (t := 2) rfl (keep_cons (t := 3) rfl (keep_cons (t := 8) rfl (keep_cons (t := 17) rfl keep_nil)))))) ?_
      refine aw_false rfl ?_
      refine aw_skip ?_
      show AW _ _ _ _ _ _ _
      refine aw_seq ?_
      refine aw_seq_region ?_
      refine sr_x rfl (wtd_none rfl) rfl (Rd.x (x_move rfl)) ?_
      refine sr_cmp rfl (wtd_none rfl) rfl (Rd.x (x_lt rfl rfl)) (fun h3 => ?_) (fun h3 => ?_)
      · refine sr_x rfl (wtd_none rfl) rfl (Rd.x (x_move rfl)) ?_
        refine sr_skip rfl (wtd_no rfl rfl rfl rfl) rfl ?_
        refine sr_skip rfl (wtd_no rfl rfl rfl rfl) rfl ?_
        refine sr_x rfl (wtd_none rfl) rfl (Rd.x (x_pick_t rfl rfl rfl)) ?_
        refine sr_nil ?_
        refine aw_keep (keep_cons (t := 0) rfl (keep_cons (t := 1) rfl (keep_cons (t := 2) rfl (keep_cons (t := 3) rfl (keep_cons (t := 8) rfl (keep_cons (t := 23) rfl keep_nil)))))) ?_
        refine aw_true rfl ?_
        refine aw_seq_region ?_
        refine sr_x rfl (wtd_none rfl) rfl (Rd.x (x_assign rfl)) ?_
        refine sr_nil ?_
        refine aw_keep (keep_cons (t := 0) rfl (keep_cons (t := 1) rfl (keep_cons (t := 2) rfl (keep_cons (t := 3) rfl (keep_cons (t := 8) rfl keep_nil))))) ?_
        refine aw_ret ?_
        show ∃ v H2, ResV _ _ _ _ _ _ v ∧ Sub H2 _ ∧ _
        first | exact ⟨_, tab p (.slice a jobs.length cap) live :: (E ++ G), resV rfl (.cons rfl .nil), (by repeat (first | exact Sub.refl _ | refine Sub.take (by repeat (first | exact Take.here | apply Take.there | apply Take.app)) ?_ | refine Sub.takeE (by repeat (first | exact TakeE.here | apply TakeE.there | apply TakeE.app)) ?_ | exact Sub.nil _ | apply Sub.drop | apply Sub.dropE)), .inl ⟨by omega, rfl, rfl⟩⟩ | exact ⟨_, tab p (.slice a jobs.length cap) live :: (E ++ G), resV rfl (.cons rfl .nil), (by repeat (first | exact Sub.refl _ | refine Sub.take (by repeat (first | exact Take.here | apply Take.there | apply Take.app)) ?_ | refine Sub.takeE (by repeat (first | exact TakeE.here | apply TakeE.there | apply TakeE.app)) ?_ | exact Sub.nil _ | apply Sub.drop | apply Sub.dropE)), .inr (.inl ⟨by omega, by omega, rfl, rfl⟩)⟩ | exact ⟨_, tab p (.slice a jobs.length cap) live :: (E ++ G), resV rfl (.cons rfl .nil), (by repeat (first | exact Sub.refl _ | refine Sub.take (by repeat (first | exact Take.here | apply Take.there | apply Take.app)) ?_ | refine Sub.takeE (by repeat (first | exact TakeE.here | apply TakeE.there | apply TakeE.app)) ?_ | exact Sub.nil _ | apply Sub.drop | apply Sub.dropE)), .inr (.inr (.inl ⟨by omega, hbad, rfl, rfl⟩))⟩ | exact ⟨_, tab p (.slice a jobs.length cap) live :: (E ++ G), resV rfl (.cons rfl .nil), (by repeat (first | exact Sub.refl _ | refine Sub.take (by repeat (first | exact Take.here | apply Take.there | apply Take.app)) ?_ | refine Sub.takeE (by repeat (first | exact TakeE.here | apply TakeE.there | apply TakeE.app)) ?_ | exact Sub.nil _ | apply Sub.drop | apply Sub.dropE)), .inr (.inr (.inr (.inl ⟨k, j, by omega, rfl, hj, by (have h9 := hns; simp at h9; omega), rfl, rfl⟩)))⟩ | (simp only [List.set_set]; exact ⟨_, tab p (.slice (some ⟨bj, 0, none⟩) jobs.length cap) (live - 1) :: ([(bj, .cells ((jobs.set k { j with fin := at_, state := st, plan := -1 }).flatMap Job.cells ++ post).toArray 91 (0, 0))] ++ G), resV rfl (.cons rfl .nil), (by repeat (first | exact Sub.refl _ | refine Sub.take (by repeat (first | exact Take.here | apply Take.there | apply Take.app)) ?_ | refine Sub.takeE (by repeat (first | exact TakeE.here | apply TakeE.there | apply TakeE.app)) ?_ | exact Sub.nil _ | apply Sub.drop | apply Sub.dropE)), .inr (.inr (.inr (.inr ⟨k, j, by omega, rfl, hj, by (have h9 := his; simp at h9; omega), rfl, _, (by rw [if_pos (by assumption)]; exact .mk (by rw [flat_len (n := 10) (fun _ => rfl), List.length_set]) hpl hpn hpc), rfl⟩)))⟩) | (simp only [List.set_set]; exact ⟨_, tab p (.slice (some ⟨bj, 0, none⟩) jobs.length cap) (live - 1) :: ([(bj, .cells ((jobs.set k { j with state := st, plan := -1 }).flatMap Job.cells ++ post).toArray 91 (0, 0))] ++ G), resV rfl (.cons rfl .nil), (by repeat (first | exact Sub.refl _ | refine Sub.take (by repeat (first | exact Take.here | apply Take.there | apply Take.app)) ?_ | refine Sub.takeE (by repeat (first | exact TakeE.here | apply TakeE.there | apply TakeE.app)) ?_ | exact Sub.nil _ | apply Sub.drop | apply Sub.dropE)), .inr (.inr (.inr (.inr ⟨k, j, by omega, rfl, hj, by (have h9 := his; simp at h9; omega), rfl, _, (by rw [if_neg (by assumption)]; exact .mk (by rw [flat_len (n := 10) (fun _ => rfl), List.length_set]) hpl hpn hpc), rfl⟩)))⟩)
      · refine sr_x rfl (wtd_none rfl) rfl (Rd.x (x_move rfl)) ?_
        refine sr_x rfl (wtd_yes rfl rfl rfl) rfl (Rd.x (x_move rfl)) ?_
        refine sr_cmp rfl (wtd_yes rfl rfl rfl) rfl (Rd.x (x_gt rfl rfl)) (fun h4 => ?_) (fun h4 => ?_)
        · refine sr_x rfl (wtd_none rfl) rfl (Rd.x (x_pick_f rfl rfl rfl)) ?_
          refine sr_nil ?_
          refine aw_keep (keep_cons (t := 0) rfl (keep_cons (t := 1) rfl (keep_cons (t := 2) rfl (keep_cons (t := 3) rfl (keep_cons (t := 8) rfl (keep_cons (t := 23) rfl keep_nil)))))) ?_
          refine aw_true rfl ?_
          refine aw_seq_region ?_
          refine sr_x rfl (wtd_none rfl) rfl (Rd.x (x_assign rfl)) ?_
          refine sr_nil ?_
          refine aw_keep (keep_cons (t := 0) rfl (keep_cons (t := 1) rfl (keep_cons (t := 2) rfl (keep_cons (t := 3) rfl (keep_cons (t := 8) rfl keep_nil))))) ?_
          refine aw_ret ?_
          show ∃ v H2, ResV _ _ _ _ _ _ v ∧ Sub H2 _ ∧ _
          first | exact ⟨_, tab p (.slice a jobs.length cap) live :: (E ++ G), resV rfl (.cons rfl .nil), (by repeat (first | exact Sub.refl _ | refine Sub.take (by repeat (first | exact Take.here | apply Take.there | apply Take.app)) ?_ | refine Sub.takeE (by repeat (first | exact TakeE.here | apply TakeE.there | apply TakeE.app)) ?_ | exact Sub.nil _ | apply Sub.drop | apply Sub.dropE)), .inl ⟨by omega, rfl, rfl⟩⟩ | exact ⟨_, tab p (.slice a jobs.length cap) live :: (E ++ G), resV rfl (.cons rfl .nil), (by repeat (first | exact Sub.refl _ | refine Sub.take (by repeat (first | exact Take.here | apply Take.there | apply Take.app)) ?_ | refine Sub.takeE (by repeat (first | exact TakeE.here | apply TakeE.there | apply TakeE.app)) ?_ | exact Sub.nil _ | apply Sub.drop | apply Sub.dropE)), .inr (.inl ⟨by omega, by omega, rfl, rfl⟩)⟩ | exact ⟨_, tab p (.slice a jobs.length cap) live :: (E ++ G), resV rfl (.cons rfl .nil), (by repeat (first | exact Sub.refl _ | refine Sub.take (by repeat (first | exact Take.here | apply Take.there | apply Take.app)) ?_ | refine Sub.takeE (by repeat (first | exact TakeE.here | apply TakeE.there | apply TakeE.app)) ?_ | exact Sub.nil _ | apply Sub.drop | apply Sub.dropE)), .inr (.inr (.inl ⟨by omega, hbad, rfl, rfl⟩))⟩ | exact ⟨_, tab p (.slice a jobs.length cap) live :: (E ++ G), resV rfl (.cons rfl .nil), (by repeat (first | exact Sub.refl _ | refine Sub.take (by repeat (first | exact Take.here | apply Take.there | apply Take.app)) ?_ | refine Sub.takeE (by repeat (first | exact TakeE.here | apply TakeE.there | apply TakeE.app)) ?_ | exact Sub.nil _ | apply Sub.drop | apply Sub.dropE)), .inr (.inr (.inr (.inl ⟨k, j, by omega, rfl, hj, by (have h9 := hns; simp at h9; omega), rfl, rfl⟩)))⟩ | (simp only [List.set_set]; exact ⟨_, tab p (.slice (some ⟨bj, 0, none⟩) jobs.length cap) (live - 1) :: ([(bj, .cells ((jobs.set k { j with fin := at_, state := st, plan := -1 }).flatMap Job.cells ++ post).toArray 91 (0, 0))] ++ G), resV rfl (.cons rfl .nil), (by repeat (first | exact Sub.refl _ | refine Sub.take (by repeat (first | exact Take.here | apply Take.there | apply Take.app)) ?_ | refine Sub.takeE (by repeat (first | exact TakeE.here | apply TakeE.there | apply TakeE.app)) ?_ | exact Sub.nil _ | apply Sub.drop | apply Sub.dropE)), .inr (.inr (.inr (.inr ⟨k, j, by omega, rfl, hj, by (have h9 := his; simp at h9; omega), rfl, _, (by rw [if_pos (by assumption)]; exact .mk (by rw [flat_len (n := 10) (fun _ => rfl), List.length_set]) hpl hpn hpc), rfl⟩)))⟩) | (simp only [List.set_set]; exact ⟨_, tab p (.slice (some ⟨bj, 0, none⟩) jobs.length cap) (live - 1) :: ([(bj, .cells ((jobs.set k { j with state := st, plan := -1 }).flatMap Job.cells ++ post).toArray 91 (0, 0))] ++ G), resV rfl (.cons rfl .nil), (by repeat (first | exact Sub.refl _ | refine Sub.take (by repeat (first | exact Take.here | apply Take.there | apply Take.app)) ?_ | refine Sub.takeE (by repeat (first | exact TakeE.here | apply TakeE.there | apply TakeE.app)) ?_ | exact Sub.nil _ | apply Sub.drop | apply Sub.dropE)), .inr (.inr (.inr (.inr ⟨k, j, by omega, rfl, hj, by (have h9 := his; simp at h9; omega), rfl, _, (by rw [if_neg (by assumption)]; exact .mk (by rw [flat_len (n := 10) (fun _ => rfl), List.length_set]) hpl hpn hpc), rfl⟩)))⟩)
        · refine sr_x rfl (wtd_none rfl) rfl (Rd.x (x_pick_f rfl rfl rfl)) ?_
          refine sr_nil ?_
          refine aw_keep (keep_cons (t := 0) rfl (keep_cons (t := 1) rfl (keep_cons (t := 2) rfl (keep_cons (t := 3) rfl (keep_cons (t := 8) rfl (keep_cons (t := 23) rfl keep_nil)))))) ?_
          refine aw_false rfl ?_
          refine aw_skip ?_
          show AW _ _ _ _ _ _ _
          refine aw_seq_region ?_
          refine sr_new rfl (wtd_none rfl) rfl (x_buildSlice Try.underlying134 sz3 zr3 rfl rfl rfl rfl (by repeat (first | exact Parts.nil | (apply Parts.cons; rfl))) (by repeat (first | exact Fill.done | (apply Fill.part; rfl; rfl; rfl; focus (repeat (first | exact Spl.done | exact Spl.all rfl | apply Spl.put | apply Spl.skip)))))) ?_
          intro r5_0 hr5_0 gr5_0
          refine sr_x rfl (wtd_none rfl) rfl (Rd.x (x_assign rfl)) ?_
          refine sr_nil ?_
          refine aw_keep (keep_cons (t := 0) rfl (keep_cons (t := 1) rfl (keep_cons (t := 2) rfl (keep_cons (t := 3) rfl (keep_cons (t := 8) rfl (keep_cons (t := 9) rfl keep_nil)))))) ?_
          refine aw_seq ?_
          refine aw_seq_region ?_
          refine sr_x rfl (wtd_none rfl) rfl (Rd.x (x_move rfl)) ?_
          refine sr_cmp rfl (wtd_none rfl) rfl (Rd.x (x_eq rfl rfl)) (fun h5 => ?_) (fun h5 => ?_)
          · refine sr_nil ?_
            refine aw_keep (keep_cons (t := 0) rfl (keep_cons (t := 1) rfl (keep_cons (t := 2) rfl (keep_cons (t := 3) rfl (keep_cons (t := 8) rfl (keep_cons (t := 9) rfl (keep_cons (t := 26) rfl keep_nil))))))) ?_
            refine aw_true rfl ?_
            refine aw_region ?_
            refine sr_x rfl (wtd_none rfl) rfl (Rd.x (x_move rfl)) ?_
            refine sr_new rfl (wtd_none rfl) rfl (x_buildSlice Try.underlying134 sz3 zr3 rfl rfl rfl rfl (by repeat (first | exact Parts.nil | (apply Parts.cons; rfl))) (by repeat (first | exact Fill.done | (apply Fill.part; rfl; rfl; rfl; focus (repeat (first | exact Spl.done | exact Spl.all rfl | apply Spl.put | apply Spl.skip)))))) ?_
            intro r7_1 hr7_1 gr7_1
            refine sr_d rfl (wtd_none rfl) rfl (opS_append (G := tab p (.slice a jobs.length cap) live :: (E ++ G)) (N := [.int .i64 1, .int .i64 2]) (m := 2) Try.underlying134 sz3 zr3 rfl by3 rfl rfl (OwnVec.mk (r := r5_0) (n := 1) (cap := 1) (L := [.int .i64 3]) (post := []) rfl rfl (by omega) (by omega)) (by repeat (first | exact Sub.refl _ | refine Sub.take (by repeat (first | exact Take.here | apply Take.there | apply Take.app)) ?_ | refine Sub.takeE (by repeat (first | exact TakeE.here | apply TakeE.there | apply TakeE.app)) ?_ | exact Sub.nil _ | apply Sub.drop | apply Sub.dropE)) (.inr ⟨_, _, rfl, (cells_ext (by repeat (first | exact List.mem_cons_self | apply List.mem_cons_of_mem | apply List.mem_append_right)) (by repeat (first | exact Ext.all _ | exact Ext.done | apply Ext.take | apply Ext.skip)))⟩) (rfl) rfl (by omega) (by omega)) ?_
            rintro v29 _ ⟨E29, hV29, rfl⟩
            obtain ⟨a29, cap29, rfl⟩ := hV29.isSl
            obtain ⟨b9, rfl, hcs9⟩ := hV29.pos (by omega)
            refine sr_x rfl (wtd_none rfl) rfl (Rd.x (x_assign rfl)) ?_
            refine sr_nil ?_
            show AW _ _ _ _ _ _ _
            refine aw_seq_region ?_
            refine sr_x rfl (wtd_none rfl) rfl (Rd.x (x_move rfl)) ?_
            refine sr_x rfl (wtd_none rfl) rfl (Rd.x (x_move rfl)) ?_
            refine sr_x rfl (wtd_none rfl) rfl (Rd.x (x_move rfl)) ?_
            refine sr_d rfl (wtd_none rfl) rfl (opS_call rfl rfl rfl rfl cl100 (at2_s p a cap jobs live id b9 3 cap29 [3, 1, 2] _ (cells_ext (by repeat (first | exact List.mem_cons_self | apply List.mem_cons_of_mem | apply List.mem_append_right)) (by repeat (first | exact Ext.all _ | exact Ext.done | apply Ext.take | apply Ext.skip))) (V.slv' (fun _ => rfl) rfl (Sub.takeE0 (by repeat (first | exact TakeE.here | apply TakeE.there | apply TakeE.app)))) rfl (by omega) (hcs9 (Sub.takeE0 (by repeat (first | exact TakeE.here | apply TakeE.there | apply TakeE.app)))))) ?_
            rintro _ H0 ⟨hat, rfl⟩
            obtain ⟨hbad, rfl⟩ | ⟨k, j, rfl, hj, ⟨hns, rfl⟩ | ⟨his, bj, oj, haj, rfl⟩⟩ := hat
            · refine sr_x rfl (wtd_none rfl) rfl (Rd.x (x_move rfl)) ?_
              refine sr_x rfl (wtd_none rfl) rfl (Rd.x (x_extract rfl rfl)) ?_
              refine sr_x rfl (wtd_none rfl) rfl (Rd.x (x_extract rfl rfl)) ?_
              refine sr_x rfl (wtd_none rfl) rfl (Rd.x (x_assign rfl)) ?_
              refine sr_x rfl (wtd_none rfl) rfl (Rd.x (x_assign rfl)) ?_
              refine sr_nil ?_
              refine aw_keep (keep_cons (t := 0) rfl (keep_cons (t := 2) rfl (keep_cons (t := 3) rfl (keep_cons (t := 8) rfl (keep_cons (t := 10) rfl (keep_cons (t := 11) rfl keep_nil)))))) ?_
              refine aw_seq ?_
              refine aw_seq_region ?_
              refine sr_x rfl (wtd_none rfl) rfl (Rd.x (x_move rfl)) ?_
              refine sr_cmp rfl (wtd_none rfl) rfl (Rd.x (x_ne rfl rfl)) (fun h6 => ?_) (fun h6 => absurd (by first | omega | decide) h6)
              refine sr_nil ?_
              refine aw_keep (keep_cons (t := 0) rfl (keep_cons (t := 2) rfl (keep_cons (t := 3) rfl (keep_cons (t := 8) rfl (keep_cons (t := 10) rfl (keep_cons (t := 11) rfl (keep_cons (t := 38) rfl keep_nil))))))) ?_
              refine aw_true rfl ?_
              refine aw_seq_region ?_
              refine sr_x rfl (wtd_none rfl) rfl (Rd.x (x_move rfl)) ?_
              refine sr_x rfl (wtd_none rfl) rfl (Rd.x (x_assign rfl)) ?_
              refine sr_nil ?_
              refine aw_keep (keep_cons (t := 0) rfl (keep_cons (t := 2) rfl (keep_cons (t := 3) rfl (keep_cons (t := 8) rfl (keep_cons (t := 10) rfl keep_nil))))) ?_
              refine aw_ret ?_
              show ∃ v H2, ResV _ _ _ _ _ _ v ∧ Sub H2 _ ∧ _
              first | exact ⟨_, tab p (.slice a jobs.length cap) live :: (E ++ G), resV rfl (.cons rfl .nil), (by repeat (first | exact Sub.refl _ | refine Sub.take (by repeat (first | exact Take.here | apply Take.there | apply Take.app)) ?_ | refine Sub.takeE (by repeat (first | exact TakeE.here | apply TakeE.there | apply TakeE.app)) ?_ | exact Sub.nil _ | apply Sub.drop | apply Sub.dropE)), .inl ⟨by omega, rfl, rfl⟩⟩ | exact ⟨_, tab p (.slice a jobs.length cap) live :: (E ++ G), resV rfl (.cons rfl .nil), (by repeat (first | exact Sub.refl _ | refine Sub.take (by repeat (first | exact Take.here | apply Take.there | apply Take.app)) ?_ | refine Sub.takeE (by repeat (first | exact TakeE.here | apply TakeE.there | apply TakeE.app)) ?_ | exact Sub.nil _ | apply Sub.drop | apply Sub.dropE)), .inr (.inl ⟨by omega, by omega, rfl, rfl⟩)⟩ | exact ⟨_, tab p (.slice a jobs.length cap) live :: (E ++ G), resV rfl (.cons rfl .nil), (by repeat (first | exact Sub.refl _ | refine Sub.take (by repeat (first | exact Take.here | apply Take.there | apply Take.app)) ?_ | refine Sub.takeE (by repeat (first | exact TakeE.here | apply TakeE.there | apply TakeE.app)) ?_ | exact Sub.nil _ | apply Sub.drop | apply Sub.dropE)), .inr (.inr (.inl ⟨by omega, hbad, rfl, rfl⟩))⟩ | exact ⟨_, tab p (.slice a jobs.length cap) live :: (E ++ G), resV rfl (.cons rfl .nil), (by repeat (first | exact Sub.refl _ | refine Sub.take (by repeat (first | exact Take.here | apply Take.there | apply Take.app)) ?_ | refine Sub.takeE (by repeat (first | exact TakeE.here | apply TakeE.there | apply TakeE.app)) ?_ | exact Sub.nil _ | apply Sub.drop | apply Sub.dropE)), .inr (.inr (.inr (.inl ⟨k, j, by omega, rfl, hj, by (have h9 := hns; simp at h9; omega), rfl, rfl⟩)))⟩ | (simp only [List.set_set]; exact ⟨_, tab p (.slice (some ⟨bj, 0, none⟩) jobs.length cap) (live - 1) :: ([(bj, .cells ((jobs.set k { j with fin := at_, state := st, plan := -1 }).flatMap Job.cells ++ post).toArray 91 (0, 0))] ++ G), resV rfl (.cons rfl .nil), (by repeat (first | exact Sub.refl _ | refine Sub.take (by repeat (first | exact Take.here | apply Take.there | apply Take.app)) ?_ | refine Sub.takeE (by repeat (first | exact TakeE.here | apply TakeE.there | apply TakeE.app)) ?_ | exact Sub.nil _ | apply Sub.drop | apply Sub.dropE)), .inr (.inr (.inr (.inr ⟨k, j, by omega, rfl, hj, by (have h9 := his; simp at h9; omega), rfl, _, (by rw [if_pos (by assumption)]; exact .mk (by rw [flat_len (n := 10) (fun _ => rfl), List.length_set]) hpl hpn hpc), rfl⟩)))⟩) | (simp only [List.set_set]; exact ⟨_, tab p (.slice (some ⟨bj, 0, none⟩) jobs.length cap) (live - 1) :: ([(bj, .cells ((jobs.set k { j with state := st, plan := -1 }).flatMap Job.cells ++ post).toArray 91 (0, 0))] ++ G), resV rfl (.cons rfl .nil), (by repeat (first | exact Sub.refl _ | refine Sub.take (by repeat (first | exact Take.here | apply Take.there | apply Take.app)) ?_ | refine Sub.takeE (by repeat (first | exact TakeE.here | apply TakeE.there | apply TakeE.app)) ?_ | exact Sub.nil _ | apply Sub.drop | apply Sub.dropE)), .inr (.inr (.inr (.inr ⟨k, j, by omega, rfl, hj, by (have h9 := his; simp at h9; omega), rfl, _, (by rw [if_neg (by assumption)]; exact .mk (by rw [flat_len (n := 10) (fun _ => rfl), List.length_set]) hpl hpn hpc), rfl⟩)))⟩)
            · refine sr_x rfl (wtd_none rfl) rfl (Rd.x (x_move rfl)) ?_
              refine sr_x rfl (wtd_none rfl) rfl (Rd.x (x_extract rfl rfl)) ?_
              refine sr_x rfl (wtd_none rfl) rfl (Rd.x (x_extract rfl rfl)) ?_
              refine sr_x rfl (wtd_none rfl) rfl (Rd.x (x_assign rfl)) ?_
              refine sr_x rfl (wtd_none rfl) rfl (Rd.x (x_assign rfl)) ?_
              refine sr_nil ?_
              refine aw_keep (keep_cons (t := 0) rfl (keep_cons (t := 2) rfl (keep_cons (t := 3) rfl (keep_cons (t := 8) rfl (keep_cons (t := 10) rfl (keep_cons (t := 11) rfl keep_nil)))))) ?_
              refine aw_seq ?_
              refine aw_seq_region ?_
              refine sr_x rfl (wtd_none rfl) rfl (Rd.x (x_move rfl)) ?_
              refine sr_cmp rfl (wtd_none rfl) rfl (Rd.x (x_ne rfl rfl)) (fun h7 => ?_) (fun h7 => absurd (by first | omega | decide) h7)
              refine sr_nil ?_
              refine aw_keep (keep_cons (t := 0) rfl (keep_cons (t := 2) rfl (keep_cons (t := 3) rfl (keep_cons (t := 8) rfl (keep_cons (t := 10) rfl (keep_cons (t := 11) rfl (keep_cons (t := 38) rfl keep_nil))))))) ?_
              refine aw_true rfl ?_
              refine aw_seq_region ?_
              refine sr_x rfl (wtd_none rfl) rfl (Rd.x (x_move rfl)) ?_
              refine sr_x rfl (wtd_none rfl) rfl (Rd.x (x_assign rfl)) ?_
              refine sr_nil ?_
              refine aw_keep (keep_cons (t := 0) rfl (keep_cons (t := 2) rfl (keep_cons (t := 3) rfl (keep_cons (t := 8) rfl (keep_cons (t := 10) rfl keep_nil))))) ?_
              refine aw_ret ?_
              show ∃ v H2, ResV _ _ _ _ _ _ v ∧ Sub H2 _ ∧ _
              first | exact ⟨_, tab p (.slice a jobs.length cap) live :: (E ++ G), resV rfl (.cons rfl .nil), (by repeat (first | exact Sub.refl _ | refine Sub.take (by repeat (first | exact Take.here | apply Take.there | apply Take.app)) ?_ | refine Sub.takeE (by repeat (first | exact TakeE.here | apply TakeE.there | apply TakeE.app)) ?_ | exact Sub.nil _ | apply Sub.drop | apply Sub.dropE)), .inl ⟨by omega, rfl, rfl⟩⟩ | exact ⟨_, tab p (.slice a jobs.length cap) live :: (E ++ G), resV rfl (.cons rfl .nil), (by repeat (first | exact Sub.refl _ | refine Sub.take (by repeat (first | exact Take.here | apply Take.there | apply Take.app)) ?_ | refine Sub.takeE (by repeat (first | exact TakeE.here | apply TakeE.there | apply TakeE.app)) ?_ | exact Sub.nil _ | apply Sub.drop | apply Sub.dropE)), .inr (.inl ⟨by omega, by omega, rfl, rfl⟩)⟩ | exact ⟨_, tab p (.slice a jobs.length cap) live :: (E ++ G), resV rfl (.cons rfl .nil), (by repeat (first | exact Sub.refl _ | refine Sub.take (by repeat (first | exact Take.here | apply Take.there | apply Take.app)) ?_ | refine Sub.takeE (by repeat (first | exact TakeE.here | apply TakeE.there | apply TakeE.app)) ?_ | exact Sub.nil _ | apply Sub.drop | apply Sub.dropE)), .inr (.inr (.inl ⟨by omega, hbad, rfl, rfl⟩))⟩ | exact ⟨_, tab p (.slice a jobs.length cap) live :: (E ++ G), resV rfl (.cons rfl .nil), (by repeat (first | exact Sub.refl _ | refine Sub.take (by repeat (first | exact Take.here | apply Take.there | apply Take.app)) ?_ | refine Sub.takeE (by repeat (first | exact TakeE.here | apply TakeE.there | apply TakeE.app)) ?_ | exact Sub.nil _ | apply Sub.drop | apply Sub.dropE)), .inr (.inr (.inr (.inl ⟨k, j, by omega, rfl, hj, by (have h9 := hns; simp at h9; omega), rfl, rfl⟩)))⟩ | (simp only [List.set_set]; exact ⟨_, tab p (.slice (some ⟨bj, 0, none⟩) jobs.length cap) (live - 1) :: ([(bj, .cells ((jobs.set k { j with fin := at_, state := st, plan := -1 }).flatMap Job.cells ++ post).toArray 91 (0, 0))] ++ G), resV rfl (.cons rfl .nil), (by repeat (first | exact Sub.refl _ | refine Sub.take (by repeat (first | exact Take.here | apply Take.there | apply Take.app)) ?_ | refine Sub.takeE (by repeat (first | exact TakeE.here | apply TakeE.there | apply TakeE.app)) ?_ | exact Sub.nil _ | apply Sub.drop | apply Sub.dropE)), .inr (.inr (.inr (.inr ⟨k, j, by omega, rfl, hj, by (have h9 := his; simp at h9; omega), rfl, _, (by rw [if_pos (by assumption)]; exact .mk (by rw [flat_len (n := 10) (fun _ => rfl), List.length_set]) hpl hpn hpc), rfl⟩)))⟩) | (simp only [List.set_set]; exact ⟨_, tab p (.slice (some ⟨bj, 0, none⟩) jobs.length cap) (live - 1) :: ([(bj, .cells ((jobs.set k { j with state := st, plan := -1 }).flatMap Job.cells ++ post).toArray 91 (0, 0))] ++ G), resV rfl (.cons rfl .nil), (by repeat (first | exact Sub.refl _ | refine Sub.take (by repeat (first | exact Take.here | apply Take.there | apply Take.app)) ?_ | refine Sub.takeE (by repeat (first | exact TakeE.here | apply TakeE.there | apply TakeE.app)) ?_ | exact Sub.nil _ | apply Sub.drop | apply Sub.dropE)), .inr (.inr (.inr (.inr ⟨k, j, by omega, rfl, hj, by (have h9 := his; simp at h9; omega), rfl, _, (by rw [if_neg (by assumption)]; exact .mk (by rw [flat_len (n := 10) (fun _ => rfl), List.length_set]) hpl hpn hpc), rfl⟩)))⟩)
            · subst haj
              obtain ⟨rfl, _, post, rfl, hpL, hpl, hpn, hpc⟩ := V.blk
              have hx1 := set_get (y := { j with fin := at_ }) hj
              refine sr_x rfl (wtd_none rfl) rfl (Rd.x (x_move rfl)) ?_
              refine sr_x rfl (wtd_none rfl) rfl (Rd.x (x_extract rfl rfl)) ?_
              refine sr_x rfl (wtd_none rfl) rfl (Rd.x (x_extract rfl rfl)) ?_
              refine sr_x rfl (wtd_none rfl) rfl (Rd.x (x_assign rfl)) ?_
              refine sr_x rfl (wtd_none rfl) rfl (Rd.x (x_assign rfl)) ?_
              refine sr_nil ?_
              refine aw_keep (keep_cons (t := 0) rfl (keep_cons (t := 2) rfl (keep_cons (t := 3) rfl (keep_cons (t := 8) rfl (keep_cons (t := 10) rfl (keep_cons (t := 11) rfl keep_nil)))))) ?_
              refine aw_seq ?_
              refine aw_seq_region ?_
              refine sr_x rfl (wtd_none rfl) rfl (Rd.x (x_move rfl)) ?_
              refine sr_cmp rfl (wtd_none rfl) rfl (Rd.x (x_ne rfl rfl)) (fun h8 => absurd h8 (by first | omega | decide)) (fun h8 => ?_)
              refine sr_nil ?_
              refine aw_keep (keep_cons (t := 0) rfl (keep_cons (t := 2) rfl (keep_cons (t := 3) rfl (keep_cons (t := 8) rfl (keep_cons (t := 10) rfl (keep_cons (t := 11) rfl (keep_cons (t := 38) rfl keep_nil))))))) ?_
              refine aw_false rfl ?_
              refine aw_skip ?_
              show AW _ _ _ _ _ _ _
              refine aw_seq ?_
              refine aw_seq_region ?_
              refine sr_x rfl (wtd_none rfl) rfl (Rd.x (x_move rfl)) ?_
              refine sr_x rfl (wtd_none rfl) rfl (Rd.x (x_nilCheck rfl)) ?_
              refine sr_x rfl (wtd_none rfl) rfl (Rd.x (x_fieldAddr fd91_5 rfl)) ?_
              refine sr_x rfl (wtd_none rfl) rfl (Rd.x (x_load ag3 rfl (cells_get (cells_flat0 (xs := jobs) (post := post) (n := 10) (fun _ => rfl) (by repeat (first | exact List.mem_cons_self | apply List.mem_cons_of_mem | apply List.mem_append_right)) hj) 5 rfl))) ?_
              refine sr_cmp rfl (wtd_none rfl) rfl (Rd.x (x_eq rfl rfl)) (fun h9 => ?_) (fun h9 => ?_)
              · refine sr_nil ?_
                refine aw_keep (keep_cons (t := 0) rfl (keep_cons (t := 2) rfl (keep_cons (t := 3) rfl (keep_cons (t := 8) rfl (keep_cons (t := 10) rfl (keep_cons (t := 44) rfl keep_nil)))))) ?_
                refine aw_true rfl ?_
                refine aw_region ?_
                refine sr_x rfl (wtd_none rfl) rfl (Rd.x (x_move rfl)) ?_
                refine sr_x rfl (wtd_none rfl) rfl (Rd.x (x_move rfl)) ?_
                refine sr_x rfl (wtd_none rfl) rfl (Rd.x (x_nilCheck rfl)) ?_
                refine sr_x rfl (wtd_none rfl) rfl (Rd.x (x_fieldAddr fd91_7 rfl)) ?_
                refine sr_x0 rfl (wtd_none rfl) (x_store sz2 rfl rfl rfl rfl rfl (by repeat (first | exact Repl.here | apply Repl.there | apply Repl.app)) (spl_fld0 (enc := Job.cells) (xs := jobs) (post := post) (x := j) (x' := { j with fin := at_ }) (fun _ => rfl) hj (by repeat (first | exact Spl.done | exact Spl.all rfl | apply Spl.put | apply Spl.skip)))) ?_
                refine sr_nil ?_
                show AW _ _ _ _ _ _ _
                refine aw_seq_region ?_
                refine sr_x rfl (wtd_none rfl) rfl (Rd.x (x_move rfl)) ?_
                refine sr_x rfl (wtd_none rfl) rfl (Rd.x (x_move rfl)) ?_
                refine sr_x rfl (wtd_none rfl) rfl (Rd.x (x_move rfl)) ?_
                refine sr_x rfl (wtd_none rfl) rfl (Rd.x (x_nilCheck rfl)) ?_
                refine sr_x rfl (wtd_none rfl) rfl (Rd.x (x_fieldAddr fd91_5 rfl)) ?_
                refine sr_x0 rfl (wtd_none rfl) (x_store sz3 rfl rfl rfl rfl rfl (by repeat (first | exact Repl.here | apply Repl.there | apply Repl.app)) (by first | exact (spl_fld0 (enc := Job.cells) (xs := jobs) (post := post) (x := j) (x' := { j with state := st }) (fun _ => rfl) hj (by repeat (first | exact Spl.done | exact Spl.all rfl | apply Spl.put | apply Spl.skip))) | exact (spl_fld0 (enc := Job.cells) (xs := (jobs.set k { j with fin := at_ })) (post := post) (x := { j with fin := at_ }) (x' := { j with fin := at_, state := st }) (fun _ => rfl) (set_get hj) (by repeat (first | exact Spl.done | exact Spl.all rfl | apply Spl.put | apply Spl.skip))))) ?_
                refine sr_x rfl (wtd_none rfl) rfl (Rd.x (x_nilCheck rfl)) ?_
                refine sr_x rfl (wtd_none rfl) rfl (Rd.x (x_fieldAddr fd91_8 rfl)) ?_
                refine sr_x0 rfl (wtd_none rfl) (x_store sz2 rfl rfl rfl rfl rfl (by repeat (first | exact Repl.here | apply Repl.there | apply Repl.app)) (by first | exact (spl_fld0 (enc := Job.cells) (xs := (jobs.set k { j with state := st })) (post := post) (x := { j with state := st }) (x' := { j with state := st, plan := -1 }) (fun _ => rfl) (set_get hj) (by repeat (first | exact Spl.done | exact Spl.all rfl | apply Spl.put | apply Spl.skip))) | exact (spl_fld0 (enc := Job.cells) (xs := ((jobs.set k { j with fin := at_ }).set k { j with fin := at_, state := st })) (post := post) (x := { j with fin := at_, state := st }) (x' := { j with fin := at_, state := st, plan := -1 }) (fun _ => rfl) (set_get (set_get hj)) (by repeat (first | exact Spl.done | exact Spl.all rfl | apply Spl.put | apply Spl.skip))))) ?_
                refine sr_nil ?_
                refine aw_keep (keep_cons (t := 0) rfl (keep_cons (t := 8) rfl keep_nil)) ?_
                refine aw_seq_region ?_
                refine sr_x rfl (wtd_none rfl) rfl (Rd.x (x_move rfl)) ?_
                refine sr_x rfl (wtd_none rfl) rfl (Rd.x (x_nilCheck rfl)) ?_
                refine sr_x rfl (wtd_none rfl) rfl (Rd.x (x_fieldAddr fd168_1 rfl)) ?_
                refine sr_x rfl (wtd_none rfl) rfl (Rd.x (x_load ag3 rfl (cells_ext (by repeat (first | exact List.mem_cons_self | apply List.mem_cons_of_mem | apply List.mem_append_right)) (by repeat (first | exact Ext.all _ | exact Ext.done | apply Ext.take | apply Ext.skip))))) ?_
                refine sr_x rfl (wtd_none rfl) rfl (Rd.x (x_sub' rfl rfl (i64w (by omega) (by omega)))) ?_
                refine sr_x rfl (wtd_none rfl) rfl (Rd.x (x_nilCheck rfl)) ?_
                refine sr_x rfl (wtd_none rfl) rfl (Rd.x (x_fieldAddr fd168_1 rfl)) ?_
                refine sr_x0 rfl (wtd_none rfl) (x_store sz3 rfl rfl rfl rfl rfl (by repeat (first | exact Repl.here | apply Repl.there | apply Repl.app)) (by repeat (first | exact Spl.done | exact Spl.all rfl | apply Spl.put | apply Spl.skip))) ?_
                refine sr_nil ?_
                refine aw_keep (keep_cons (t := 8) rfl keep_nil) ?_
                refine aw_seq_region ?_
                refine sr_x rfl (wtd_none rfl) rfl (Rd.x (x_assign rfl)) ?_
                refine sr_nil ?_
                refine aw_keep (keep_cons (t := 8) rfl keep_nil) ?_
                refine aw_ret ?_
                show ∃ v H2, ResV _ _ _ _ _ _ v ∧ Sub H2 _ ∧ _
                first | exact ⟨_, tab p (.slice a jobs.length cap) live :: (E ++ G), resV rfl (.cons rfl .nil), (by repeat (first | exact Sub.refl _ | refine Sub.take (by repeat (first | exact Take.here | apply Take.there | apply Take.app)) ?_ | refine Sub.takeE (by repeat (first | exact TakeE.here | apply TakeE.there | apply TakeE.app)) ?_ | exact Sub.nil _ | apply Sub.drop | apply Sub.dropE)), .inl ⟨by omega, rfl, rfl⟩⟩ | exact ⟨_, tab p (.slice a jobs.length cap) live :: (E ++ G), resV rfl (.cons rfl .nil), (by repeat (first | exact Sub.refl _ | refine Sub.take (by repeat (first | exact Take.here | apply Take.there | apply Take.app)) ?_ | refine Sub.takeE (by repeat (first | exact TakeE.here | apply TakeE.there | apply TakeE.app)) ?_ | exact Sub.nil _ | apply Sub.drop | apply Sub.dropE)), .inr (.inl ⟨by omega, by omega, rfl, rfl⟩)⟩ | exact ⟨_, tab p (.slice a jobs.length cap) live :: (E ++ G), resV rfl (.cons rfl .nil), (by repeat (first | exact Sub.refl _ | refine Sub.take (by repeat (first | exact Take.here | apply Take.there | apply Take.app)) ?_ | refine Sub.takeE (by repeat (first | exact TakeE.here | apply TakeE.there | apply TakeE.app)) ?_ | exact Sub.nil _ | apply Sub.drop | apply Sub.dropE)), .inr (.inr (.inl ⟨by omega, hbad, rfl, rfl⟩))⟩ | exact ⟨_, tab p (.slice a jobs.length cap) live :: (E ++ G), resV rfl (.cons rfl .nil), (by repeat (first | exact Sub.refl _ | refine Sub.take (by repeat (first | exact Take.here | apply Take.there | apply Take.app)) ?_ | refine Sub.takeE (by repeat (first | exact TakeE.here | apply TakeE.there | apply TakeE.app)) ?_ | exact Sub.nil _ | apply Sub.drop | apply Sub.dropE)), .inr (.inr (.inr (.inl ⟨k, j, by omega, rfl, hj, by (have h9 := hns; simp at h9; omega), rfl, rfl⟩)))⟩ | (simp only [List.set_set]; exact ⟨_, tab p (.slice (some ⟨bj, 0, none⟩) jobs.length cap) (live - 1) :: ([(bj, .cells ((jobs.set k { j with fin := at_, state := st, plan := -1 }).flatMap Job.cells ++ post).toArray 91 (0, 0))] ++ G), resV rfl (.cons rfl .nil), (by repeat (first | exact Sub.refl _ | refine Sub.take (by repeat (first | exact Take.here | apply Take.there | apply Take.app)) ?_ | refine Sub.takeE (by repeat (first | exact TakeE.here | apply TakeE.there | apply TakeE.app)) ?_ | exact Sub.nil _ | apply Sub.drop | apply Sub.dropE)), .inr (.inr (.inr (.inr ⟨k, j, by omega, rfl, hj, by (have h9 := his; simp at h9; omega), rfl, _, (by rw [if_pos (by assumption)]; exact .mk (by rw [flat_len (n := 10) (fun _ => rfl), List.length_set]) hpl hpn hpc), rfl⟩)))⟩) | (simp only [List.set_set]; exact ⟨_, tab p (.slice (some ⟨bj, 0, none⟩) jobs.length cap) (live - 1) :: ([(bj, .cells ((jobs.set k { j with state := st, plan := -1 }).flatMap Job.cells ++ post).toArray 91 (0, 0))] ++ G), resV rfl (.cons rfl .nil), (by repeat (first | exact Sub.refl _ | refine Sub.take (by repeat (first | exact Take.here | apply Take.there | apply Take.app)) ?_ | refine Sub.takeE (by repeat (first | exact TakeE.here | apply TakeE.there | apply TakeE.app)) ?_ | exact Sub.nil _ | apply Sub.drop | apply Sub.dropE)), .inr (.inr (.inr (.inr ⟨k, j, by omega, rfl, hj, by (have h9 := his; simp at h9; omega), rfl, _, (by rw [if_neg (by assumption)]; exact .mk (by rw [flat_len (n := 10) (fun _ => rfl), List.length_set]) hpl hpn hpc), rfl⟩)))⟩)
              · refine sr_nil ?_
                refine aw_keep (keep_cons (t := 0) rfl (keep_cons (t := 2) rfl (keep_cons (t := 3) rfl (keep_cons (t := 8) rfl (keep_cons (t := 10) rfl (keep_cons (t := 44) rfl keep_nil)))))) ?_
                refine aw_false rfl ?_
                refine aw_skip ?_
                show AW _ _ _ _ _ _ _
                refine aw_seq_region ?_
                refine sr_x rfl (wtd_none rfl) rfl (Rd.x (x_move rfl)) ?_
                refine sr_x rfl (wtd_none rfl) rfl (Rd.x (x_move rfl)) ?_
                refine sr_x rfl (wtd_none rfl) rfl (Rd.x (x_move rfl)) ?_
                refine sr_x rfl (wtd_none rfl) rfl (Rd.x (x_nilCheck rfl)) ?_
                refine sr_x rfl (wtd_none rfl) rfl (Rd.x (x_fieldAddr fd91_5 rfl)) ?_
                refine sr_x0 rfl (wtd_none rfl) (x_store sz3 rfl rfl rfl rfl rfl (by repeat (first | exact Repl.here | apply Repl.there | apply Repl.app)) (by first | exact (spl_fld0 (enc := Job.cells) (xs := jobs) (post := post) (x := j) (x' := { j with state := st }) (fun _ => rfl) hj (by repeat (first | exact Spl.done | exact Spl.all rfl | apply Spl.put | apply Spl.skip))) | exact (spl_fld0 (enc := Job.cells) (xs := (jobs.set k { j with fin := at_ })) (post := post) (x := { j with fin := at_ }) (x' := { j with fin := at_, state := st }) (fun _ => rfl) (set_get hj) (by repeat (first | exact Spl.done | exact Spl.all rfl | apply Spl.put | apply Spl.skip))))) ?_
                refine sr_x rfl (wtd_none rfl) rfl (Rd.x (x_nilCheck rfl)) ?_
                refine sr_x rfl (wtd_none rfl) rfl (Rd.x (x_fieldAddr fd91_8 rfl)) ?_
                refine sr_x0 rfl (wtd_none rfl) (x_store sz2 rfl rfl rfl rfl rfl (by repeat (first | exact Repl.here | apply Repl.there | apply Repl.app)) (by first | exact (spl_fld0 (enc := Job.cells) (xs := (jobs.set k { j with state := st })) (post := post) (x := { j with state := st }) (x' := { j with state := st, plan := -1 }) (fun _ => rfl) (set_get hj) (by repeat (first | exact Spl.done | exact Spl.all rfl | apply Spl.put | apply Spl.skip))) | exact (spl_fld0 (enc := Job.cells) (xs := ((jobs.set k { j with fin := at_ }).set k { j with fin := at_, state := st })) (post := post) (x := { j with fin := at_, state := st }) (x' := { j with fin := at_, state := st, plan := -1 }) (fun _ => rfl) (set_get (set_get hj)) (by repeat (first | exact Spl.done | exact Spl.all rfl | apply Spl.put | apply Spl.skip))))) ?_
                refine sr_nil ?_
                refine aw_keep (keep_cons (t := 0) rfl (keep_cons (t := 8) rfl keep_nil)) ?_
                refine aw_seq_region ?_
                refine sr_x rfl (wtd_none rfl) rfl (Rd.x (x_move rfl)) ?_
                refine sr_x rfl (wtd_none rfl) rfl (Rd.x (x_nilCheck rfl)) ?_
                refine sr_x rfl (wtd_none rfl) rfl (Rd.x (x_fieldAddr fd168_1 rfl)) ?_
                refine sr_x rfl (wtd_none rfl) rfl (Rd.x (x_load ag3 rfl (cells_ext (by repeat (first | exact List.mem_cons_self | apply List.mem_cons_of_mem | apply List.mem_append_right)) (by repeat (first | exact Ext.all _ | exact Ext.done | apply Ext.take | apply Ext.skip))))) ?_
                refine sr_x rfl (wtd_none rfl) rfl (Rd.x (x_sub' rfl rfl (i64w (by omega) (by omega)))) ?_
                refine sr_x rfl (wtd_none rfl) rfl (Rd.x (x_nilCheck rfl)) ?_
                refine sr_x rfl (wtd_none rfl) rfl (Rd.x (x_fieldAddr fd168_1 rfl)) ?_
                refine sr_x0 rfl (wtd_none rfl) (x_store sz3 rfl rfl rfl rfl rfl (by repeat (first | exact Repl.here | apply Repl.there | apply Repl.app)) (by repeat (first | exact Spl.done | exact Spl.all rfl | apply Spl.put | apply Spl.skip))) ?_
                refine sr_nil ?_
                refine aw_keep (keep_cons (t := 8) rfl keep_nil) ?_
                refine aw_seq_region ?_
                refine sr_x rfl (wtd_none rfl) rfl (Rd.x (x_assign rfl)) ?_
                refine sr_nil ?_
                refine aw_keep (keep_cons (t := 8) rfl keep_nil) ?_
                refine aw_ret ?_
                show ∃ v H2, ResV _ _ _ _ _ _ v ∧ Sub H2 _ ∧ _
                first | exact ⟨_, tab p (.slice a jobs.length cap) live :: (E ++ G), resV rfl (.cons rfl .nil), (by repeat (first | exact Sub.refl _ | refine Sub.take (by repeat (first | exact Take.here | apply Take.there | apply Take.app)) ?_ | refine Sub.takeE (by repeat (first | exact TakeE.here | apply TakeE.there | apply TakeE.app)) ?_ | exact Sub.nil _ | apply Sub.drop | apply Sub.dropE)), .inl ⟨by omega, rfl, rfl⟩⟩ | exact ⟨_, tab p (.slice a jobs.length cap) live :: (E ++ G), resV rfl (.cons rfl .nil), (by repeat (first | exact Sub.refl _ | refine Sub.take (by repeat (first | exact Take.here | apply Take.there | apply Take.app)) ?_ | refine Sub.takeE (by repeat (first | exact TakeE.here | apply TakeE.there | apply TakeE.app)) ?_ | exact Sub.nil _ | apply Sub.drop | apply Sub.dropE)), .inr (.inl ⟨by omega, by omega, rfl, rfl⟩)⟩ | exact ⟨_, tab p (.slice a jobs.length cap) live :: (E ++ G), resV rfl (.cons rfl .nil), (by repeat (first | exact Sub.refl _ | refine Sub.take (by repeat (first | exact Take.here | apply Take.there | apply Take.app)) ?_ | refine Sub.takeE (by repeat (first | exact TakeE.here | apply TakeE.there | apply TakeE.app)) ?_ | exact Sub.nil _ | apply Sub.drop | apply Sub.dropE)), .inr (.inr (.inl ⟨by omega, hbad, rfl, rfl⟩))⟩ | exact ⟨_, tab p (.slice a jobs.length cap) live :: (E ++ G), resV rfl (.cons rfl .nil), (by repeat (first | exact Sub.refl _ | refine Sub.take (by repeat (first | exact Take.here | apply Take.there | apply Take.app)) ?_ | refine Sub.takeE (by repeat (first | exact TakeE.here | apply TakeE.there | apply TakeE.app)) ?_ | exact Sub.nil _ | apply Sub.drop | apply Sub.dropE)), .inr (.inr (.inr (.inl ⟨k, j, by omega, rfl, hj, by (have h9 := hns; simp at h9; omega), rfl, rfl⟩)))⟩ | (simp only [List.set_set]; exact ⟨_, tab p (.slice (some ⟨bj, 0, none⟩) jobs.length cap) (live - 1) :: ([(bj, .cells ((jobs.set k { j with fin := at_, state := st, plan := -1 }).flatMap Job.cells ++ post).toArray 91 (0, 0))] ++ G), resV rfl (.cons rfl .nil), (by repeat (first | exact Sub.refl _ | refine Sub.take (by repeat (first | exact Take.here | apply Take.there | apply Take.app)) ?_ | refine Sub.takeE (by repeat (first | exact TakeE.here | apply TakeE.there | apply TakeE.app)) ?_ | exact Sub.nil _ | apply Sub.drop | apply Sub.dropE)), .inr (.inr (.inr (.inr ⟨k, j, by omega, rfl, hj, by (have h9 := his; simp at h9; omega), rfl, _, (by rw [if_pos (by assumption)]; exact .mk (by rw [flat_len (n := 10) (fun _ => rfl), List.length_set]) hpl hpn hpc), rfl⟩)))⟩) | (simp only [List.set_set]; exact ⟨_, tab p (.slice (some ⟨bj, 0, none⟩) jobs.length cap) (live - 1) :: ([(bj, .cells ((jobs.set k { j with state := st, plan := -1 }).flatMap Job.cells ++ post).toArray 91 (0, 0))] ++ G), resV rfl (.cons rfl .nil), (by repeat (first | exact Sub.refl _ | refine Sub.take (by repeat (first | exact Take.here | apply Take.there | apply Take.app)) ?_ | refine Sub.takeE (by repeat (first | exact TakeE.here | apply TakeE.there | apply TakeE.app)) ?_ | exact Sub.nil _ | apply Sub.drop | apply Sub.dropE)), .inr (.inr (.inr (.inr ⟨k, j, by omega, rfl, hj, by (have h9 := his; simp at h9; omega), rfl, _, (by rw [if_neg (by assumption)]; exact .mk (by rw [flat_len (n := 10) (fun _ => rfl), List.length_set]) hpl hpn hpc), rfl⟩)))⟩)
          · refine sr_nil ?_
            refine aw_keep (keep_cons (t := 0) rfl (keep_cons (t := 1) rfl (keep_cons (t := 2) rfl (keep_cons (t := 3) rfl (keep_cons (t := 8) rfl (keep_cons (t := 9) rfl (keep_cons (t := 26) rfl keep_nil))))))) ?_
            refine aw_false rfl ?_
            refine aw_skip ?_
            show AW _ _ _ _ _ _ _
            refine aw_seq_region ?_
            refine sr_x rfl (wtd_none rfl) rfl (Rd.x (x_move rfl)) ?_
            refine sr_x rfl (wtd_none rfl) rfl (Rd.x (x_move rfl)) ?_
            refine sr_x rfl (wtd_none rfl) rfl (Rd.x (x_move rfl)) ?_
            refine sr_d rfl (wtd_none rfl) rfl (opS_call rfl rfl rfl rfl cl100 (at2_s p a cap jobs live id r5_0 1 1 [3] _ (cells_ext (by repeat (first | exact List.mem_cons_self | apply List.mem_cons_of_mem | apply List.mem_append_right)) (by repeat (first | exact Ext.all _ | exact Ext.done | apply Ext.take | apply Ext.skip))) (V.slv' (fun _ => rfl) rfl (Sub.takeE0 (by repeat (first | exact TakeE.here | apply TakeE.there | apply TakeE.app)))) rfl (by omega) (cells_ext (by repeat (first | exact List.mem_cons_self | apply List.mem_cons_of_mem | apply List.mem_append_right)) (by repeat (first | exact Ext.all _ | exact Ext.done | apply Ext.take | apply Ext.skip))))) ?_
            rintro _ H0 ⟨hat, rfl⟩
            obtain ⟨hbad, rfl⟩ | ⟨k, j, rfl, hj, ⟨hns, rfl⟩ | ⟨his, bj, oj, haj, rfl⟩⟩ := hat
            · refine sr_x rfl (wtd_none rfl) rfl (Rd.x (x_move rfl)) ?_
              refine sr_x rfl (wtd_none rfl) rfl (Rd.x (x_extract rfl rfl)) ?_
              refine sr_x rfl (wtd_none rfl) rfl (Rd.x (x_extract rfl rfl)) ?_
              refine sr_x rfl (wtd_none rfl) rfl (Rd.x (x_assign rfl)) ?_
              refine sr_x rfl (wtd_none rfl) rfl (Rd.x (x_assign rfl)) ?_
              refine sr_nil ?_
              refine aw_keep (keep_cons (t := 0) rfl (keep_cons (t := 2) rfl (keep_cons (t := 3) rfl (keep_cons (t := 8) rfl (keep_cons (t := 10) rfl (keep_cons (t := 11) rfl keep_nil)))))) ?_
              refine aw_seq ?_
              refine aw_seq_region ?_
              refine sr_x rfl (wtd_none rfl) rfl (Rd.x (x_move rfl)) ?_
              refine sr_cmp rfl (wtd_none rfl) rfl (Rd.x (x_ne rfl rfl)) (fun h10 => ?_) (fun h10 => absurd (by first | omega | decide) h10)
              refine sr_nil ?_
              refine aw_keep (keep_cons (t := 0) rfl (keep_cons (t := 2) rfl (keep_cons (t := 3) rfl (keep_cons (t := 8) rfl (keep_cons (t := 10) rfl (keep_cons (t := 11) rfl (keep_cons (t := 38) rfl keep_nil))))))) ?_
              refine aw_true rfl ?_
              refine aw_seq_region ?_
              refine sr_x rfl (wtd_none rfl) rfl (Rd.x (x_move rfl)) ?_
              refine sr_x rfl (wtd_none rfl) rfl (Rd.x (x_assign rfl)) ?_
              refine sr_nil ?_
              refine aw_keep (keep_cons (t := 0) rfl (keep_cons (t := 2) rfl (keep_cons (t := 3) rfl (keep_cons (t := 8) rfl (keep_cons (t := 10) rfl keep_nil))))) ?_
              refine aw_ret ?_
              show ∃ v H2, ResV _ _ _ _ _ _ v ∧ Sub H2 _ ∧ _
              first | exact ⟨_, tab p (.slice a jobs.length cap) live :: (E ++ G), resV rfl (.cons rfl .nil), (by repeat (first | exact Sub.refl _ | refine Sub.take (by repeat (first | exact Take.here | apply Take.there | apply Take.app)) ?_ | refine Sub.takeE (by repeat (first | exact TakeE.here | apply TakeE.there | apply TakeE.app)) ?_ | exact Sub.nil _ | apply Sub.drop | apply Sub.dropE)), .inl ⟨by omega, rfl, rfl⟩⟩ | exact ⟨_, tab p (.slice a jobs.length cap) live :: (E ++ G), resV rfl (.cons rfl .nil), (by repeat (first | exact Sub.refl _ | refine Sub.take (by repeat (first | exact Take.here | apply Take.there | apply Take.app)) ?_ | refine Sub.takeE (by repeat (first | exact TakeE.here | apply TakeE.there | apply TakeE.app)) ?_ | exact Sub.nil _ | apply Sub.drop | apply Sub.dropE)), .inr (.inl ⟨by omega, by omega, rfl, rfl⟩)⟩ | exact ⟨_, tab p (.slice a jobs.length cap) live :: (E ++ G), resV rfl (.cons rfl .nil), (by repeat (first | exact Sub.refl _ | refine Sub.take (by repeat (first | exact Take.here | apply Take.there | apply Take.app)) ?_ | refine Sub.takeE (by repeat (first | exact TakeE.here | apply TakeE.there | apply TakeE.app)) ?_ | exact Sub.nil _ | apply Sub.drop | apply Sub.dropE)), .inr (.inr (.inl ⟨by omega, hbad, rfl, rfl⟩))⟩ | exact ⟨_, tab p (.slice a jobs.length cap) live :: (E ++ G), resV rfl (.cons rfl .nil), (by repeat (first | exact Sub.refl _ | refine Sub.take (by repeat (first | exact Take.here | apply Take.there | apply Take.app)) ?_ | refine Sub.takeE (by repeat (first | exact TakeE.here | apply TakeE.there | apply TakeE.app)) ?_ | exact Sub.nil _ | apply Sub.drop | apply Sub.dropE)), .inr (.inr (.inr (.inl ⟨k, j, by omega, rfl, hj, by (have h9 := hns; simp at h9; omega), rfl, rfl⟩)))⟩ | (simp only [List.set_set]; exact ⟨_, tab p (.slice (some ⟨bj, 0, none⟩) jobs.length cap) (live - 1) :: ([(bj, .cells ((jobs.set k { j with fin := at_, state := st, plan := -1 }).flatMap Job.cells ++ post).toArray 91 (0, 0))] ++ G), resV rfl (.cons rfl .nil), (by repeat (first | exact Sub.refl _ | refine Sub.take (by repeat (first | exact Take.here | apply Take.there | apply Take.app)) ?_ | refine Sub.takeE (by repeat (first | exact TakeE.here | apply TakeE.there | apply TakeE.app)) ?_ | exact Sub.nil _ | apply Sub.drop | apply Sub.dropE)), .inr (.inr (.inr (.inr ⟨k, j, by omega, rfl, hj, by (have h9 := his; simp at h9; omega), rfl, _, (by rw [if_pos (by assumption)]; exact .mk (by rw [flat_len (n := 10) (fun _ => rfl), List.length_set]) hpl hpn hpc), rfl⟩)))⟩) | (simp only [List.set_set]; exact ⟨_, tab p (.slice (some ⟨bj, 0, none⟩) jobs.length cap) (live - 1) :: ([(bj, .cells ((jobs.set k { j with state := st, plan := -1 }).flatMap Job.cells ++ post).toArray 91 (0, 0))] ++ G), resV rfl (.cons rfl .nil), (by repeat (first | exact Sub.refl _ | refine Sub.take (by repeat (first | exact Take.here | apply Take.there | apply Take.app)) ?_ | refine Sub.takeE (by repeat (first | exact TakeE.here | apply TakeE.there | apply TakeE.app)) ?_ | exact Sub.nil _ | apply Sub.drop | apply Sub.dropE)), .inr (.inr (.inr (.inr ⟨k, j, by omega, rfl, hj, by (have h9 := his; simp at h9; omega), rfl, _, (by rw [if_neg (by assumption)]; exact .mk (by rw [flat_len (n := 10) (fun _ => rfl), List.length_set]) hpl hpn hpc), rfl⟩)))⟩)
            · refine sr_x rfl (wtd_none rfl) rfl (Rd.x (x_move rfl)) ?_
              refine sr_x rfl (wtd_none rfl) rfl (Rd.x (x_extract rfl rfl)) ?_
              refine sr_x rfl (wtd_none rfl) rfl (Rd.x (x_extract rfl rfl)) ?_
              refine sr_x rfl (wtd_none rfl) rfl (Rd.x (x_assign rfl)) ?_
              refine sr_x rfl (wtd_none rfl) rfl (Rd.x (x_assign rfl)) ?_
              refine sr_nil ?_
              refine aw_keep (keep_cons (t := 0) rfl (keep_cons (t := 2) rfl (keep_cons (t := 3) rfl (keep_cons (t := 8) rfl (keep_cons (t := 10) rfl (keep_cons (t := 11) rfl keep_nil)))))) ?_
              refine aw_seq ?_
              refine aw_seq_region ?_
              refine sr_x rfl (wtd_none rfl) rfl (Rd.x (x_move rfl)) ?_
              refine sr_cmp rfl (wtd_none rfl) rfl (Rd.x (x_ne rfl rfl)) (fun h11 => ?_) (fun h11 => absurd (by first | omega | decide) h11)
              refine sr_nil ?_
              refine aw_keep (keep_cons (t := 0) rfl (keep_cons (t := 2) rfl (keep_cons (t := 3) rfl (keep_cons (t := 8) rfl (keep_cons (t := 10) rfl (keep_cons (t := 11) rfl (keep_cons (t := 38) rfl keep_nil))))))) ?_
              refine aw_true rfl ?_
              refine aw_seq_region ?_
              refine sr_x rfl (wtd_none rfl) rfl (Rd.x (x_move rfl)) ?_
              refine sr_x rfl (wtd_none rfl) rfl (Rd.x (x_assign rfl)) ?_
              refine sr_nil ?_
              refine aw_keep (keep_cons (t := 0) rfl (keep_cons (t := 2) rfl (keep_cons (t := 3) rfl (keep_cons (t := 8) rfl (keep_cons (t := 10) rfl keep_nil))))) ?_
              refine aw_ret ?_
              show ∃ v H2, ResV _ _ _ _ _ _ v ∧ Sub H2 _ ∧ _
              first | exact ⟨_, tab p (.slice a jobs.length cap) live :: (E ++ G), resV rfl (.cons rfl .nil), (by repeat (first | exact Sub.refl _ | refine Sub.take (by repeat (first | exact Take.here | apply Take.there | apply Take.app)) ?_ | refine Sub.takeE (by repeat (first | exact TakeE.here | apply TakeE.there | apply TakeE.app)) ?_ | exact Sub.nil _ | apply Sub.drop | apply Sub.dropE)), .inl ⟨by omega, rfl, rfl⟩⟩ | exact ⟨_, tab p (.slice a jobs.length cap) live :: (E ++ G), resV rfl (.cons rfl .nil), (by repeat (first | exact Sub.refl _ | refine Sub.take (by repeat (first | exact Take.here | apply Take.there | apply Take.app)) ?_ | refine Sub.takeE (by repeat (first | exact TakeE.here | apply TakeE.there | apply TakeE.app)) ?_ | exact Sub.nil _ | apply Sub.drop | apply Sub.dropE)), .inr (.inl ⟨by omega, by omega, rfl, rfl⟩)⟩ | exact ⟨_, tab p (.slice a jobs.length cap) live :: (E ++ G), resV rfl (.cons rfl .nil), (by repeat (first | exact Sub.refl _ | refine Sub.take (by repeat (first | exact Take.here | apply Take.there | apply Take.app)) ?_ | refine Sub.takeE (by repeat (first | exact TakeE.here | apply TakeE.there | apply TakeE.app)) ?_ | exact Sub.nil _ | apply Sub.drop | apply Sub.dropE)), .inr (.inr (.inl ⟨by omega, hbad, rfl, rfl⟩))⟩ | exact ⟨_, tab p (.slice a jobs.length cap) live :: (E ++ G), resV rfl (.cons rfl .nil), (by repeat (first | exact Sub.refl _ | refine Sub.take (by repeat (first | exact Take.here | apply Take.there | apply Take.app)) ?_ | refine Sub.takeE (by repeat (first | exact TakeE.here | apply TakeE.there | apply TakeE.app)) ?_ | exact Sub.nil _ | apply Sub.drop | apply Sub.dropE)), .inr (.inr (.inr (.inl ⟨k, j, by omega, rfl, hj, by (have h9 := hns; simp at h9; omega), rfl, rfl⟩)))⟩ | (simp only [List.set_set]; exact ⟨_, tab p (.slice (some ⟨bj, 0, none⟩) jobs.length cap) (live - 1) :: ([(bj, .cells ((jobs.set k { j with fin := at_, state := st, plan := -1 }).flatMap Job.cells ++ post).toArray 91 (0, 0))] ++ G), resV rfl (.cons rfl .nil), (by repeat (first | exact Sub.refl _ | refine Sub.take (by repeat (first | exact Take.here | apply Take.there | apply Take.app)) ?_ | refine Sub.takeE (by repeat (first | exact TakeE.here | apply TakeE.there | apply TakeE.app)) ?_ | exact Sub.nil _ | apply Sub.drop | apply Sub.dropE)), .inr (.inr (.inr (.inr ⟨k, j, by omega, rfl, hj, by (have h9 := his; simp at h9; omega), rfl, _, (by rw [if_pos (by assumption)]; exact .mk (by rw [flat_len (n := 10) (fun _ => rfl), List.length_set]) hpl hpn hpc), rfl⟩)))⟩) | (simp only [List.set_set]; exact ⟨_, tab p (.slice (some ⟨bj, 0, none⟩) jobs.length cap) (live - 1) :: ([(bj, .cells ((jobs.set k { j with state := st, plan := -1 }).flatMap Job.cells ++ post).toArray 91 (0, 0))] ++ G), resV rfl (.cons rfl .nil), (by repeat (first | exact Sub.refl _ | refine Sub.take (by repeat (first | exact Take.here | apply Take.there | apply Take.app)) ?_ | refine Sub.takeE (by repeat (first | exact TakeE.here | apply TakeE.there | apply TakeE.app)) ?_ | exact Sub.nil _ | apply Sub.drop | apply Sub.dropE)), .inr (.inr (.inr (.inr ⟨k, j, by omega, rfl, hj, by (have h9 := his; simp at h9; omega), rfl, _, (by rw [if_neg (by assumption)]; exact .mk (by rw [flat_len (n := 10) (fun _ => rfl), List.length_set]) hpl hpn hpc), rfl⟩)))⟩)
            · subst haj
              obtain ⟨rfl, _, post, rfl, hpL, hpl, hpn, hpc⟩ := V.blk
              have hx1 := set_get (y := { j with fin := at_ }) hj
              refine sr_x rfl (wtd_none rfl) rfl (Rd.x (x_move rfl)) ?_
              refine sr_x rfl (wtd_none rfl) rfl (Rd.x (x_extract rfl rfl)) ?_
              refine sr_x rfl (wtd_none rfl) rfl (Rd.x (x_extract rfl rfl)) ?_
              refine sr_x rfl (wtd_none rfl) rfl (Rd.x (x_assign rfl)) ?_
              refine sr_x rfl (wtd_none rfl) rfl (Rd.x (x_assign rfl)) ?_
              refine sr_nil ?_
              refine aw_keep (keep_cons (t := 0) rfl (keep_cons (t := 2) rfl (keep_cons (t := 3) rfl (keep_cons (t := 8) rfl (keep_cons (t := 10) rfl (keep_cons (t := 11) rfl keep_nil)))))) ?_
              refine aw_seq ?_
              refine aw_seq_region ?_
              refine sr_x rfl (wtd_none rfl) rfl (Rd.x (x_move rfl)) ?_
              refine sr_cmp rfl (wtd_none rfl) rfl (Rd.x (x_ne rfl rfl)) (fun h12 => absurd h12 (by first | omega | decide)) (fun h12 => ?_)
              refine sr_nil ?_
              refine aw_keep (keep_cons (t := 0) rfl (keep_cons (t := 2) rfl (keep_cons (t := 3) rfl (keep_cons (t := 8) rfl (keep_cons (t := 10) rfl (keep_cons (t := 11) rfl (keep_cons (t := 38) rfl keep_nil))))))) ?_
              refine aw_false rfl ?_
              refine aw_skip ?_
              show AW _ _ _ _ _ _ _
              refine aw_seq ?_
              refine aw_seq_region ?_
              refine sr_x rfl (wtd_none rfl) rfl (Rd.x (x_move rfl)) ?_
              refine sr_x rfl (wtd_none rfl) rfl (Rd.x (x_nilCheck rfl)) ?_
              refine sr_x rfl (wtd_none rfl) rfl (Rd.x (x_fieldAddr fd91_5 rfl)) ?_
              refine sr_x rfl (wtd_none rfl) rfl (Rd.x (x_load ag3 rfl (cells_get (cells_flat0 (xs := jobs) (post := post) (n := 10) (fun _ => rfl) (by repeat (first | exact List.mem_cons_self | apply List.mem_cons_of_mem | apply List.mem_append_right)) hj) 5 rfl))) ?_
              refine sr_cmp rfl (wtd_none rfl) rfl (Rd.x (x_eq rfl rfl)) (fun h13 => ?_) (fun h13 => ?_)
              · refine sr_nil ?_
                refine aw_keep (keep_cons (t := 0) rfl (keep_cons (t := 2) rfl (keep_cons (t := 3) rfl (keep_cons (t := 8) rfl (keep_cons (t := 10) rfl (keep_cons (t := 44) rfl keep_nil)))))) ?_
                refine aw_true rfl ?_
                refine aw_region ?_
                refine sr_x rfl (wtd_none rfl) rfl (Rd.x (x_move rfl)) ?_
                refine sr_x rfl (wtd_none rfl) rfl (Rd.x (x_move rfl)) ?_
                refine sr_x rfl (wtd_none rfl) rfl (Rd.x (x_nilCheck rfl)) ?_
                refine sr_x rfl (wtd_none rfl) rfl (Rd.x (x_fieldAddr fd91_7 rfl)) ?_
                refine sr_x0 rfl (wtd_none rfl) (x_store sz2 rfl rfl rfl rfl rfl (by repeat (first | exact Repl.here | apply Repl.there | apply Repl.app)) (spl_fld0 (enc := Job.cells) (xs := jobs) (post := post) (x := j) (x' := { j with fin := at_ }) (fun _ => rfl) hj (by repeat (first | exact Spl.done | exact Spl.all rfl | apply Spl.put | apply Spl.skip)))) ?_
                refine sr_nil ?_
                show AW _ _ _ _ _ _ _
                refine aw_seq_region ?_
                refine sr_x rfl (wtd_none rfl) rfl (Rd.x (x_move rfl)) ?_
                refine sr_x rfl (wtd_none rfl) rfl (Rd.x (x_move rfl)) ?_
                refine sr_x rfl (wtd_none rfl) rfl (Rd.x (x_move rfl)) ?_
                refine sr_x rfl (wtd_none rfl) rfl (Rd.x (x_nilCheck rfl)) ?_
                refine sr_x rfl (wtd_none rfl) rfl (Rd.x (x_fieldAddr fd91_5 rfl)) ?_
                refine sr_x0 rfl (wtd_none rfl) (x_store sz3 rfl rfl rfl rfl rfl (by repeat (first | exact Repl.here | apply Repl.there | apply Repl.app)) (by first | exact (spl_fld0 (enc := Job.cells) (xs := jobs) (post := post) (x := j) (x' := { j with state := st }) (fun _ => rfl) hj (by repeat (first | exact Spl.done | exact Spl.all rfl | apply Spl.put | apply Spl.skip))) | exact (spl_fld0 (enc := Job.cells) (xs := (jobs.set k { j with fin := at_ })) (post := post) (x := { j with fin := at_ }) (x' := { j with fin := at_, state := st }) (fun _ => rfl) (set_get hj) (by repeat (first | exact Spl.done | exact Spl.all rfl | apply Spl.put | apply Spl.skip))))) ?_
                refine sr_x rfl (wtd_none rfl) rfl (Rd.x (x_nilCheck rfl)) ?_
                refine sr_x rfl (wtd_none rfl) rfl (Rd.x (x_fieldAddr fd91_8 rfl)) ?_
                refine sr_x0 rfl (wtd_none rfl) (x_store sz2 rfl rfl rfl rfl rfl (by repeat (first | exact Repl.here | apply Repl.there | apply Repl.app)) (by first | exact (spl_fld0 (enc := Job.cells) (xs := (jobs.set k { j with state := st })) (post := post) (x := { j with state := st }) (x' := { j with state := st, plan := -1 }) (fun _ => rfl) (set_get hj) (by repeat (first | exact Spl.done | exact Spl.all rfl | apply Spl.put | apply Spl.skip))) | exact (spl_fld0 (enc := Job.cells) (xs := ((jobs.set k { j with fin := at_ }).set k { j with fin := at_, state := st })) (post := post) (x := { j with fin := at_, state := st }) (x' := { j with fin := at_, state := st, plan := -1 }) (fun _ => rfl) (set_get (set_get hj)) (by repeat (first | exact Spl.done | exact Spl.all rfl | apply Spl.put | apply Spl.skip))))) ?_
                refine sr_nil ?_
                refine aw_keep (keep_cons (t := 0) rfl (keep_cons (t := 8) rfl keep_nil)) ?_
                refine aw_seq_region ?_
                refine sr_x rfl (wtd_none rfl) rfl (Rd.x (x_move rfl)) ?_
                refine sr_x rfl (wtd_none rfl) rfl (Rd.x (x_nilCheck rfl)) ?_
                refine sr_x rfl (wtd_none rfl) rfl (Rd.x (x_fieldAddr fd168_1 rfl)) ?_
                refine sr_x rfl (wtd_none rfl) rfl (Rd.x (x_load ag3 rfl (cells_ext (by repeat (first | exact List.mem_cons_self | apply List.mem_cons_of_mem | apply List.mem_append_right)) (by repeat (first | exact Ext.all _ | exact Ext.done | apply Ext.take | apply Ext.skip))))) ?_
                refine sr_x rfl (wtd_none rfl) rfl (Rd.x (x_sub' rfl rfl (i64w (by omega) (by omega)))) ?_
                refine sr_x rfl (wtd_none rfl) rfl (Rd.x (x_nilCheck rfl)) ?_
                refine sr_x rfl (wtd_none rfl) rfl (Rd.x (x_fieldAddr fd168_1 rfl)) ?_
                refine sr_x0 rfl (wtd_none rfl) (x_store sz3 rfl rfl rfl rfl rfl (by repeat (first | exact Repl.here | apply Repl.there | apply Repl.app)) (by repeat (first | exact Spl.done | exact Spl.all rfl | apply Spl.put | apply Spl.skip))) ?_
                refine sr_nil ?_
                refine aw_keep (keep_cons (t := 8) rfl keep_nil) ?_
                refine aw_seq_region ?_
                refine sr_x rfl (wtd_none rfl) rfl (Rd.x (x_assign rfl)) ?_
                refine sr_nil ?_
                refine aw_keep (keep_cons (t := 8) rfl keep_nil) ?_
                refine aw_ret ?_
                show ∃ v H2, ResV _ _ _ _ _ _ v ∧ Sub H2 _ ∧ _
                first | exact ⟨_, tab p (.slice a jobs.length cap) live :: (E ++ G), resV rfl (.cons rfl .nil), (by repeat (first | exact Sub.refl _ | refine Sub.take (by repeat (first | exact Take.here | apply Take.there | apply Take.app)) ?_ | refine Sub.takeE (by repeat (first | exact TakeE.here | apply TakeE.there | apply TakeE.app)) ?_ | exact Sub.nil _ | apply Sub.drop | apply Sub.dropE)), .inl ⟨by omega, rfl, rfl⟩⟩ | exact ⟨_, tab p (.slice a jobs.length cap) live :: (E ++ G), resV rfl (.cons rfl .nil), (by repeat (first | exact Sub.refl _ | refine Sub.take (by repeat (first | exact Take.here | apply Take.there | apply Take.app)) ?_ | refine Sub.takeE (by repeat (first | exact TakeE.here | apply TakeE.there | apply TakeE.app)) ?_ | exact Sub.nil _ | apply Sub.drop | apply Sub.dropE)), .inr (.inl ⟨by omega, by omega, rfl, rfl⟩)⟩ | exact ⟨_, tab p (.slice a jobs.length cap) live :: (E ++ G), resV rfl (.cons rfl .nil), (by repeat (first | exact Sub.refl _ | refine Sub.take (by repeat (first | exact Take.here | apply Take.there | apply Take.app)) ?_ | refine Sub.takeE (by repeat (first | exact TakeE.here | apply TakeE.there | apply TakeE.app)) ?_ | exact Sub.nil _ | apply Sub.drop | apply Sub.dropE)), .inr (.inr (.inl ⟨by omega, hbad, rfl, rfl⟩))⟩ | exact ⟨_, tab p (.slice a jobs.length cap) live :: (E ++ G), resV rfl (.cons rfl .nil), (by repeat (first | exact Sub.refl _ | refine Sub.take (by repeat (first | exact Take.here | apply Take.there | apply Take.app)) ?_ | refine Sub.takeE (by repeat (first | exact TakeE.here | apply TakeE.there | apply TakeE.app)) ?_ | exact Sub.nil _ | apply Sub.drop | apply Sub.dropE)), .inr (.inr (.inr (.inl ⟨k, j, by omega, rfl, hj, by (have h9 := hns; simp at h9; omega), rfl, rfl⟩)))⟩ | (simp only [List.set_set]; exact ⟨_, tab p (.slice (some ⟨bj, 0, none⟩) jobs.length cap) (live - 1) :: ([(bj, .cells ((jobs.set k { j with fin := at_, state := st, plan := -1 }).flatMap Job.cells ++ post).toArray 91 (0, 0))] ++ G), resV rfl (.cons rfl .nil), (by repeat (first | exact Sub.refl _ | refine Sub.take (by repeat (first | exact Take.here | apply Take.there | apply Take.app)) ?_ | refine Sub.takeE (by repeat (first | exact TakeE.here | apply TakeE.there | apply TakeE.app)) ?_ | exact Sub.nil _ | apply Sub.drop | apply Sub.dropE)), .inr (.inr (.inr (.inr ⟨k, j, by omega, rfl, hj, by (have h9 := his; simp at h9; omega), rfl, _, (by rw [if_pos (by assumption)]; exact .mk (by rw [flat_len (n := 10) (fun _ => rfl), List.length_set]) hpl hpn hpc), rfl⟩)))⟩) | (simp only [List.set_set]; exact ⟨_, tab p (.slice (some ⟨bj, 0, none⟩) jobs.length cap) (live - 1) :: ([(bj, .cells ((jobs.set k { j with state := st, plan := -1 }).flatMap Job.cells ++ post).toArray 91 (0, 0))] ++ G), resV rfl (.cons rfl .nil), (by repeat (first | exact Sub.refl _ | refine Sub.take (by repeat (first | exact Take.here | apply Take.there | apply Take.app)) ?_ | refine Sub.takeE (by repeat (first | exact TakeE.here | apply TakeE.there | apply TakeE.app)) ?_ | exact Sub.nil _ | apply Sub.drop | apply Sub.dropE)), .inr (.inr (.inr (.inr ⟨k, j, by omega, rfl, hj, by (have h9 := his; simp at h9; omega), rfl, _, (by rw [if_neg (by assumption)]; exact .mk (by rw [flat_len (n := 10) (fun _ => rfl), List.length_set]) hpl hpn hpc), rfl⟩)))⟩)
              · refine sr_nil ?_
                refine aw_keep (keep_cons (t := 0) rfl (keep_cons (t := 2) rfl (keep_cons (t := 3) rfl (keep_cons (t := 8) rfl (keep_cons (t := 10) rfl (keep_cons (t := 44) rfl keep_nil)))))) ?_
                refine aw_false rfl ?_
                refine aw_skip ?_
                show AW _ _ _ _ _ _ _
                refine aw_seq_region ?_
                refine sr_x rfl (wtd_none rfl) rfl (Rd.x (x_move rfl)) ?_
                refine sr_x rfl (wtd_none rfl) rfl (Rd.x (x_move rfl)) ?_
                refine sr_x rfl (wtd_none rfl) rfl (Rd.x (x_move rfl)) ?_
                refine sr_x rfl (wtd_none rfl) rfl (Rd.x (x_nilCheck rfl)) ?_
                refine sr_x rfl (wtd_none rfl) rfl (Rd.x (x_fieldAddr fd91_5 rfl)) ?_
                refine sr_x0 rfl (wtd_none rfl) (x_store sz3 rfl rfl rfl rfl rfl (by repeat (first | exact Repl.here | apply Repl.there | apply Repl.app)) (by first | exact (spl_fld0 (enc := Job.cells) (xs := jobs) (post := post) (x := j) (x' := { j with state := st }) (fun _ => rfl) hj (by repeat (first | exact Spl.done | exact Spl.all rfl | apply Spl.put | apply Spl.skip))) | exact (spl_fld0 (enc := Job.cells) (xs := (jobs.set k { j with fin := at_ })) (post := post) (x := { j with fin := at_ }) (x' := { j with fin := at_, state := st }) (fun _ => rfl) (set_get hj) (by repeat (first | exact Spl.done | exact Spl.all rfl | apply Spl.put | apply Spl.skip))))) ?_
                refine sr_x rfl (wtd_none rfl) rfl (Rd.x (x_nilCheck rfl)) ?_
                refine sr_x rfl (wtd_none rfl) rfl (Rd.x (x_fieldAddr fd91_8 rfl)) ?_
                refine sr_x0 rfl (wtd_none rfl) (x_store sz2 rfl rfl rfl rfl rfl (by repeat (first | exact Repl.here | apply Repl.there | apply Repl.app)) (by first | exact (spl_fld0 (enc := Job.cells) (xs := (jobs.set k { j with state := st })) (post := post) (x := { j with state := st }) (x' := { j with state := st, plan := -1 }) (fun _ => rfl) (set_get hj) (by repeat (first | exact Spl.done | exact Spl.all rfl | apply Spl.put | apply Spl.skip))) | exact (spl_fld0 (enc := Job.cells) (xs := ((jobs.set k { j with fin := at_ }).set k { j with fin := at_, state := st })) (post := post) (x := { j with fin := at_, state := st }) (x' := { j with fin := at_, state := st, plan := -1 }) (fun _ => rfl) (set_get (set_get hj)) (by repeat (first | exact Spl.done | exact Spl.all rfl | apply Spl.put | apply Spl.skip))))) ?_
                refine sr_nil ?_
                refine aw_keep (keep_cons (t := 0) rfl (keep_cons (t := 8) rfl keep_nil)) ?_
                refine aw_seq_region ?_
                refine sr_x rfl (wtd_none rfl) rfl (Rd.x (x_move rfl)) ?_
                refine sr_x rfl (wtd_none rfl) rfl (Rd.x (x_nilCheck rfl)) ?_
                refine sr_x rfl (wtd_none rfl) rfl (Rd.x (x_fieldAddr fd168_1 rfl)) ?_
                refine sr_x rfl (wtd_none rfl) rfl (Rd.x (x_load ag3 rfl (cells_ext (by repeat (first | exact List.mem_cons_self | apply List.mem_cons_of_mem | apply List.mem_append_right)) (by repeat (first | exact Ext.all _ | exact Ext.done | apply Ext.take | apply Ext.skip))))) ?_
                refine sr_x rfl (wtd_none rfl) rfl (Rd.x (x_sub' rfl rfl (i64w (by omega) (by omega)))) ?_
                refine sr_x rfl (wtd_none rfl) rfl (Rd.x (x_nilCheck rfl)) ?_
                refine sr_x rfl (wtd_none rfl) rfl (Rd.x (x_fieldAddr fd168_1 rfl)) ?_
                refine sr_x0 rfl (wtd_none rfl) (x_store sz3 rfl rfl rfl rfl rfl (by repeat (first | exact Repl.here | apply Repl.there | apply Repl.app)) (by repeat (first | exact Spl.done | exact Spl.all rfl | apply Spl.put | apply Spl.skip))) ?_
                refine sr_nil ?_
                refine aw_keep (keep_cons (t := 8) rfl keep_nil) ?_
                refine aw_seq_region ?_
                refine sr_x rfl (wtd_none rfl) rfl (Rd.x (x_assign rfl)) ?_
                refine sr_nil ?_
                refine aw_keep (keep_cons (t := 8) rfl keep_nil) ?_
                refine aw_ret ?_
                show ∃ v H2, ResV _ _ _ _ _ _ v ∧ Sub H2 _ ∧ _
                first | exact ⟨_, tab p (.slice a jobs.length cap) live :: (E ++ G), resV rfl (.cons rfl .nil), (by repeat (first | exact Sub.refl _ | refine Sub.take (by repeat (first | exact Take.here | apply Take.there | apply Take.app)) ?_ | refine Sub.takeE (by repeat (first | exact TakeE.here | apply TakeE.there | apply TakeE.app)) ?_ | exact Sub.nil _ | apply Sub.drop | apply Sub.dropE)), .inl ⟨by omega, rfl, rfl⟩⟩ | exact ⟨_, tab p (.slice a jobs.length cap) live :: (E ++ G), resV rfl (.cons rfl .nil), (by repeat (first | exact Sub.refl _ | refine Sub.take (by repeat (first | exact Take.here | apply Take.there | apply Take.app)) ?_ | refine Sub.takeE (by repeat (first | exact TakeE.here | apply TakeE.there | apply TakeE.app)) ?_ | exact Sub.nil _ | apply Sub.drop | apply Sub.dropE)), .inr (.inl ⟨by omega, by omega, rfl, rfl⟩)⟩ | exact ⟨_, tab p (.slice a jobs.length cap) live :: (E ++ G), resV rfl (.cons rfl .nil), (by repeat (first | exact Sub.refl _ | refine Sub.take (by repeat (first | exact Take.here | apply Take.there | apply Take.app)) ?_ | refine Sub.takeE (by repeat (first | exact TakeE.here | apply TakeE.there | apply TakeE.app)) ?_ | exact Sub.nil _ | apply Sub.drop | apply Sub.dropE)), .inr (.inr (.inl ⟨by omega, hbad, rfl, rfl⟩))⟩ | exact ⟨_, tab p (.slice a jobs.length cap) live :: (E ++ G), resV rfl (.cons rfl .nil), (by repeat (first | exact Sub.refl _ | refine Sub.take (by repeat (first | exact Take.here | apply Take.there | apply Take.app)) ?_ | refine Sub.takeE (by repeat (first | exact TakeE.here | apply TakeE.there | apply TakeE.app)) ?_ | exact Sub.nil _ | apply Sub.drop | apply Sub.dropE)), .inr (.inr (.inr (.inl ⟨k, j, by omega, rfl, hj, by (have h9 := hns; simp at h9; omega), rfl, rfl⟩)))⟩ | (simp only [List.set_set]; exact ⟨_, tab p (.slice (some ⟨bj, 0, none⟩) jobs.length cap) (live - 1) :: ([(bj, .cells ((jobs.set k { j with fin := at_, state := st, plan := -1 }).flatMap Job.cells ++ post).toArray 91 (0, 0))] ++ G), resV rfl (.cons rfl .nil), (by repeat (first | exact Sub.refl _ | refine Sub.take (by repeat (first | exact Take.here | apply Take.there | apply Take.app)) ?_ | refine Sub.takeE (by repeat (first | exact TakeE.here | apply TakeE.there | apply TakeE.app)) ?_ | exact Sub.nil _ | apply Sub.drop | apply Sub.dropE)), .inr (.inr (.inr (.inr ⟨k, j, by omega, rfl, hj, by (have h9 := his; simp at h9; omega), rfl, _, (by rw [if_pos (by assumption)]; exact .mk (by rw [flat_len (n := 10) (fun _ => rfl), List.length_set]) hpl hpn hpc), rfl⟩)))⟩) | (simp only [List.set_set]; exact ⟨_, tab p (.slice (some ⟨bj, 0, none⟩) jobs.length cap) (live - 1) :: ([(bj, .cells ((jobs.set k { j with state := st, plan := -1 }).flatMap Job.cells ++ post).toArray 91 (0, 0))] ++ G), resV rfl (.cons rfl .nil), (by repeat (first | exact Sub.refl _ | refine Sub.take (by repeat (first | exact Take.here | apply Take.there | apply Take.app)) ?_ | refine Sub.takeE (by repeat (first | exact TakeE.here | apply TakeE.there | apply TakeE.app)) ?_ | exact Sub.nil _ | apply Sub.drop | apply Sub.dropE)), .inr (.inr (.inr (.inr ⟨k, j, by omega, rfl, hj, by (have h9 := his; simp at h9; omega), rfl, _, (by rw [if_neg (by assumption)]; exact .mk (by rw [flat_len (n := 10) (fun _ => rfl), List.length_set]) hpl hpn hpc), rfl⟩)))⟩)
end
end Go.Proofs.Yteilocpjikmmdaa
