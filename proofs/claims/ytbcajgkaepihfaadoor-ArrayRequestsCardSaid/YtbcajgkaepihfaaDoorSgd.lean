/- What an array asks for. -/
import Derived.Test.YtbcajgkaepihfaaDoorSgc
import Derived.Test.YtbcajgkaepihfaaDoorSymRep
namespace Go.Proofs.YtbcajgkaepihfaaDoor
open Go.Proofs.YtbcajgkaepihfaaDoor.Sym
open Go.RowKit (Below)
set_option linter.unusedVariables false
set_option linter.unusedSimpArgs false
structure Req where
  kind : Int
  id : Int
  user : Int
  width : Int
  limit : Int
  prio : Int
  held : Bool
  node : Int
  by_ : Int
@[reducible] def Req.cells (j : Req) : List Value := [.int .i64 j.kind, .int .i64 j.id, .int .i64 j.user, .int .i64 j.width, .int .i64 j.limit, .int .i64 j.prio, .bool j.held, .int .i64 j.node, .int .i64 j.by_]
@[reducible] def Req.v (j : Req) : Value := .agg (Req.cells j).toArray
def Req.Wf (j : Req) : Prop := IntKind.min .i64 ≤ j.kind ∧ j.kind ≤ IntKind.max .i64 ∧ IntKind.min .i64 ≤ j.id ∧ j.id ≤ IntKind.max .i64 ∧ IntKind.min .i64 ≤ j.user ∧ j.user ≤ IntKind.max .i64 ∧ IntKind.min .i64 ≤ j.width ∧ j.width ≤ IntKind.max .i64 ∧ IntKind.min .i64 ≤ j.limit ∧ j.limit ≤ IntKind.max .i64 ∧ IntKind.min .i64 ≤ j.prio ∧ j.prio ≤ IntKind.max .i64 ∧ IntKind.min .i64 ≤ j.node ∧ j.node ≤ IntKind.max .i64 ∧ IntKind.min .i64 ≤ j.by_ ∧ j.by_ ≤ IntKind.max .i64
theorem eqC_req {a b : Req} : eqC a.cells b.cells = true ↔ a = b := by
  obtain ⟨a1, a2, a3, a4, a5, a6, a7, a8, a9⟩ := a
  obtain ⟨b1, b2, b3, b4, b5, b6, b7, b8, b9⟩ := b
  simp [eqC, sEq]
theorem and32 {n : Nat} (h : n ≤ 65535) : (((n : Int).toNat &&& (4294967295 : Int).toNat : Nat) : Int) = (n : Int) := by
  rw [Int.toNat_natCast]
  show ((n &&& 4294967295 : Nat) : Int) = _
  rw [show (4294967295 : Nat) = 2 ^ 32 - 1 by decide, Nat.and_two_pow_sub_one_eq_mod, Nat.mod_eq_of_lt (by have : (2 : Nat) ^ 32 = 4294967296 := (by decide); omega)]
theorem shr32 {n : Int} (h0 : 0 ≤ n) (h : n ≤ 65535) : n.fdiv (2 ^ (min (32 : Int).toNat (IntKind.bits .u64))) = 0 := by
  show n.fdiv 4294967296 = 0
  rw [Int.fdiv_eq_ediv_of_nonneg _ (by decide)]; omega
structure RpG where
  m : Nat
  post : List Value
theorem num_len {l : List Part} {ys : List Int} {e : Int} (h : NumR l ys e) : ys.length ≤ 1000 := by
  unfold NumR at h
  cases hg : numG [] l with
  | inr c => rw [hg] at h; rw [h.1]; exact Nat.zero_le _
  | inl xs =>
    rw [hg] at h
    obtain ⟨z, t, h1⟩ := h
    rcases h1 with ⟨a1, a2, a3⟩ | ⟨a1, a2, a3⟩
    · rw [a2]; exact Nat.zero_le _
    · rw [a2]; exact a1
theorem num_0 {l : List Part} {ys : List Int} {e : Int} (h : NumR l ys e) (he : e ≠ 0) : ys = [] := by
  unfold NumR at h
  cases hg : numG [] l with
  | inr c => rw [hg] at h; exact h.1
  | inl xs =>
    rw [hg] at h
    obtain ⟨z, t, h1⟩ := h
    rcases h1 with ⟨a1, a2, a3⟩ | ⟨a1, a2, a3⟩
    · exact a2
    · exact absurd a3 he
def ReqO (r : Req) (ys : List Int) (d : Int) (zs : List Req) (e : Int) : Prop := (d ≠ 0 ∧ zs = [] ∧ e = d) ∨ (d = 0 ∧ r.kind ≠ 1 ∧ zs = [] ∧ e = 1) ∨ (d = 0 ∧ r.kind = 1 ∧ zs = List.replicate ys.length r ∧ e = 0)
theorem ag35 : aggOf Tryd.prog 35 = some true := by kernel_rfl
theorem by35 : bytesOf Tryd.prog 35 = some 72 := by kernel_rfl
theorem cl107 : Callable Tryd.prog 107 := ⟨Tryd.f107, Tryd.func107, by kernel_rfl, by kernel_rfl⟩
theorem cl72 : Callable Tryd.prog 72 := ⟨Tryd.f72, Tryd.func72, by kernel_rfl, by kernel_rfl⟩
theorem cl85 : Callable Tryd.prog 85 := ⟨Tryd.f85, Tryd.func85, by kernel_rfl, by kernel_rfl⟩
theorem fd35_0 : fldOf Tryd.prog 35 0 = some (0, 3, 1) := by kernel_rfl
theorem sz35 : szOf Tryd.prog 35 = some 9 := by kernel_rfl
theorem zr35 : zeroOf Tryd.prog 35 = some (.agg #[.int .i64 0, .int .i64 0, .int .i64 0, .int .i64 0, .int .i64 0, .int .i64 0, .bool false, .int .i64 0, .int .i64 0]) := by kernel_rfl
section
variable {W0 : World}
set_option maxRecDepth 100000 in
set_option maxHeartbeats 400000 in
theorem mul64_s (n : Nat) (hn : n ≤ 65535) (H : SHeap) : AC Tryd.prog W0 107 [.int .u64 1, .int .u64 n] H (fun v H' => v = .tuple #[.int .u64 0, .int .u64 (n : Nat)] ∧ H' = H) := by
  refine ac_of Tryd.func107 rfl rfl rfl ?_
  refine aw_seq_region ?_
  refine sr_as ?_
  refine sr_as ?_
  refine sr_nil ?_
  refine aw_kp [0, 1, 4, 5] ?_
  refine aw_seq_region ?_
  refine sr_mv ?_
  refine sr_rd (x_cast (u := .int .u64 (1)) (x_andU rfl rfl (by omega) (by omega)) (congrArg (Value.int .u64) (by decide))) ?_
  refine sr_as ?_
  refine sr_nil ?_
  refine aw_kp [0, 1, 4, 5, 6] ?_
  refine aw_seq_region ?_
  refine sr_mv ?_
  refine sr_rd (x_cast (u := .int .u64 (0)) (x_shr rfl rfl (by decide)) (congrArg (Value.int .u64) (shr32 (by omega) (by omega)))) ?_
  refine sr_as ?_
  refine sr_nil ?_
  refine aw_kp [0, 1, 4, 5, 6, 7] ?_
  refine aw_seq_region ?_
  refine sr_mv ?_
  refine sr_rd (x_cast (u := .int .u64 ((n : Nat))) (x_andU rfl rfl (by omega) (by omega)) (congrArg (Value.int .u64) (and32 hn))) ?_
  refine sr_as ?_
  refine sr_nil ?_
  refine aw_kp [0, 1, 4, 5, 6, 7, 8] ?_
  refine aw_seq_region ?_
  refine sr_mv ?_
  refine sr_rd (x_cast (u := .int .u64 (0)) (x_shr rfl rfl (by decide)) (congrArg (Value.int .u64) (shr32 (by omega) (by omega)))) ?_
  refine sr_as ?_
  refine sr_nil ?_
  refine aw_kp [0, 1, 4, 5, 6, 7, 8, 9] ?_
  refine aw_seq_region ?_
  refine sr_mv ?_
  refine sr_mv ?_
  refine sr_rd (x_cast (u := .int .u64 ((n : Nat))) (x_mul' rfl rfl (u64w (by omega) (by omega))) (congrArg (Value.int .u64) (by omega))) ?_
  refine sr_as ?_
  refine sr_nil ?_
  refine aw_kp [0, 1, 4, 5, 6, 7, 8, 9, 10] ?_
  refine aw_seq_region ?_
  refine sr_mv ?_
  refine sr_mv ?_
  refine sr_rd (x_cast (u := .int .u64 (0)) (x_mul' rfl rfl (u64w (by omega) (by omega))) (congrArg (Value.int .u64) (by omega))) ?_
  refine sr_mv ?_
  refine sr_rd (x_cast (u := .int .u64 (0)) (x_shr rfl rfl (by decide)) (congrArg (Value.int .u64) (shr32 (by omega) (by omega)))) ?_
  refine sr_rd (x_cast (u := .int .u64 (0)) (x_add' rfl rfl (u64w (by omega) (by omega))) (congrArg (Value.int .u64) (by omega))) ?_
  refine sr_as ?_
  refine sr_nil ?_
  refine aw_kp [0, 1, 4, 5, 6, 7, 9, 11] ?_
  refine aw_seq_region ?_
  refine sr_mv ?_
  refine sr_rd (x_cast (u := .int .u64 (0)) (x_andU rfl rfl (by omega) (by omega)) (congrArg (Value.int .u64) (by decide))) ?_
  refine sr_as ?_
  refine sr_nil ?_
  refine aw_kp [0, 1, 4, 5, 6, 7, 9, 11, 12] ?_
  refine aw_seq_region ?_
  refine sr_mv ?_
  refine sr_rd (x_cast (u := .int .u64 (0)) (x_shr rfl rfl (by decide)) (congrArg (Value.int .u64) (shr32 (by omega) (by omega)))) ?_
  refine sr_as ?_
  refine sr_nil ?_
  refine aw_kp [0, 1, 4, 5, 6, 7, 9, 12, 13] ?_
  refine aw_seq_region ?_
  refine sr_mv ?_
  refine sr_mv ?_
  refine sr_mv ?_
  refine sr_rd (x_cast (u := .int .u64 (0)) (x_mul' rfl rfl (u64w (by omega) (by omega))) (congrArg (Value.int .u64) (by omega))) ?_
  refine sr_rd (x_cast (u := .int .u64 (0)) (x_add' rfl rfl (u64w (by omega) (by omega))) (congrArg (Value.int .u64) (by omega))) ?_
  refine sr_as ?_
  refine sr_nil ?_
  refine aw_kp [0, 1, 4, 5, 7, 9, 12, 13] ?_
  refine aw_seq_region ?_
  refine sr_mv ?_
  refine sr_mv ?_
  refine sr_rd (x_cast (u := .int .u64 (0)) (x_mul' rfl rfl (u64w (by omega) (by omega))) (congrArg (Value.int .u64) (by omega))) ?_
  refine sr_mv ?_
  refine sr_rd (x_cast (u := .int .u64 (0)) (x_add' rfl rfl (u64w (by omega) (by omega))) (congrArg (Value.int .u64) (by omega))) ?_
  refine sr_mv ?_
  refine sr_rd (x_cast (u := .int .u64 (0)) (x_shr rfl rfl (by decide)) (congrArg (Value.int .u64) (shr32 (by omega) (by omega)))) ?_
  refine sr_rd (x_cast (u := .int .u64 (0)) (x_add' rfl rfl (u64w (by omega) (by omega))) (congrArg (Value.int .u64) (by omega))) ?_
  refine sr_as ?_
  refine sr_nil ?_
  refine aw_kp [0, 1, 4, 5] ?_
  refine aw_seq_region ?_
  refine sr_mv ?_
  refine sr_mv ?_
  refine sr_rd (x_cast (u := .int .u64 ((n : Nat))) (x_mul' rfl rfl (u64w (by omega) (by omega))) (congrArg (Value.int .u64) (by omega))) ?_
  refine sr_as ?_
  refine sr_nil ?_
  refine aw_kp [4, 5] ?_
  refine aw_ret ?_
  show ∃ v H2, ResV _ _ _ _ _ _ v ∧ Sub H2 _ ∧ _
  exact ⟨_, H, resV rfl (.cons rfl (.cons rfl .nil)), (by repeat (first | exact Sub.refl _ | apply Sub.drop)), ⟨rfl, rfl⟩⟩
set_option maxRecDepth 100000 in
set_option maxHeartbeats 400000 in
theorem mul_s (n : Nat) (hn : n ≤ 65535) (H : SHeap) : AC Tryd.prog W0 85 [.int .u64 1, .int .u64 n] H (fun v H' => v = .tuple #[.int .u64 0, .int .u64 (n : Nat)] ∧ H' = H) := by
  refine ac_of Tryd.func85 rfl rfl rfl ?_
  refine aw_seq_region ?_
  refine sr_as ?_
  refine sr_as ?_
  refine sr_nil ?_
  refine aw_kp [0, 1, 4, 5] ?_
  refine aw_seq ?_
  refine aw_false rfl ?_
  refine aw_skip ?_
  show AW _ _ _ _ _ _ _
  refine aw_seq_region ?_
  refine sr_mv ?_
  refine sr_mv ?_
  refine sr_d rfl (wtd_none rfl) rfl (opS_call rfl rfl rfl rfl cl107 (mul64_s n hn _)) ?_
  rintro _ H ⟨rfl, rfl⟩
  refine sr_mv ?_
  refine sr_rd (x_extract rfl rfl) ?_
  refine sr_rd (x_extract rfl rfl) ?_
  refine sr_as ?_
  refine sr_as ?_
  refine sr_nil ?_
  refine aw_kp [4, 5, 8, 9] ?_
  refine aw_seq_region ?_
  refine sr_mv ?_
  refine sr_mv ?_
  refine sr_as ?_
  refine sr_as ?_
  refine sr_nil ?_
  refine aw_kp [4, 5] ?_
  refine aw_ret ?_
  show ∃ v H2, ResV _ _ _ _ _ _ v ∧ Sub H2 _ ∧ _
  exact ⟨_, H, resV rfl (.cons rfl (.cons rfl .nil)), (by repeat (first | exact Sub.refl _ | apply Sub.drop)), ⟨rfl, rfl⟩⟩
set_option maxRecDepth 100000 in
set_option maxHeartbeats 2000000 in
theorem rep_s (b : Nat) (x : Req) (n : Nat) (G : SHeap) (hn : n ≤ 1000) : AC Tryd.prog W0 72 [.slice (some ⟨b, 0, none⟩) 1 1, .int .i64 n] ((b, .cells x.cells.toArray 35 (0, 0)) :: G) (fun v H' => ∃ a cap E, v = .slice a n cap ∧ OwnVec 9 35 (.slice a n cap) n ((List.replicate n x).flatMap Req.cells) E ∧ H' = E ++ G) := by
  refine ac_of Tryd.func72 rfl rfl rfl ?_
  refine aw_seq_region ?_
  refine sr_as ?_
  refine sr_nil ?_
  refine aw_kp [0, 1, 4] ?_
  refine aw_seq ?_
  refine aw_seq_region ?_
  refine sr_mv ?_
  refine sr_c (x_lt rfl rfl) (fun h1 => absurd h1 (by first | omega | decide)) (fun h1 => ?_)
  refine sr_nil ?_
  refine aw_kp [0, 1, 4, 10] ?_
  refine aw_false rfl ?_
  refine aw_skip ?_
  show AW _ _ _ _ _ _ _
  refine aw_seq_region ?_
  refine sr_mv ?_
  refine sr_rd (x_lenSlice Tryd.underlying53 rfl) ?_
  refine sr_rd (x_conv' Tryd.underlying3 Tryd.underlying124 rfl (u64w (by omega) (by omega))) ?_
  refine sr_mv ?_
  refine sr_rd (x_conv' Tryd.underlying3 Tryd.underlying124 rfl (u64w (by omega) (by omega))) ?_
  refine sr_d rfl (wtd_none rfl) rfl (opS_call rfl rfl rfl rfl cl85 (mul_s n (by omega) _)) ?_
  rintro _ H9 ⟨rfl, rfl⟩
  refine sr_mv ?_
  refine sr_rd (x_extract rfl rfl) ?_
  refine sr_rd (x_extract rfl rfl) ?_
  refine sr_as ?_
  refine sr_as ?_
  refine sr_nil ?_
  refine aw_kp [0, 4, 5, 6] ?_
  refine aw_seq ?_
  refine aw_seq_region ?_
  refine sr_mv ?_
  refine sr_c (x_gt rfl rfl) (fun h2 => absurd h2 (by first | omega | decide)) (fun h2 => ?_)
  refine sr_mv ?_
  refine sr_ry (x_move rfl) ?_
  refine sr_cy (x_gt rfl rfl) (fun h3 => absurd h3 (by first | omega | decide)) (fun h3 => ?_)
  refine sr_rd (x_pick_f rfl rfl rfl) ?_
  refine sr_nil ?_
  refine aw_kp [0, 4, 6, 26] ?_
  refine aw_false rfl ?_
  refine aw_skip ?_
  show AW _ _ _ _ _ _ _
  refine aw_seq_region ?_
  refine sr_mv ?_
  refine sr_rd (x_conv' Tryd.underlying124 Tryd.underlying3 rfl (i64w (by omega) (by omega))) ?_
  refine sr_new rfl (wtd_none rfl) rfl (x_makeSliceN Tryd.underlying53 sz35 (by decide) zr35 rfl by35 rfl rfl (by omega) (by omega) (by omega)) ?_
  intro r6_2 hr6_2 gr6_2
  refine sr_as ?_
  refine sr_nil ?_
  refine aw_kp [0, 4, 7] ?_
  refine aw_seq_region ?_
  rw [Int.toNat_natCast]
  obtain ⟨Z, hZe⟩ : ∃ Z, Z = (Builtin.zeroCells (.agg #[.int .i64 0, .int .i64 0, .int .i64 0, .int .i64 0, .int .i64 0, .int .i64 0, .bool false, .int .i64 0, .int .i64 0] : Value).cells n).toList := ⟨_, rfl⟩
  have hZ : Z.length = n * 9 := by rw [hZe, zeroCells_len]; rfl
  rw [← hZe]
  refine sr_mv ?_
  refine sr_mv ?_
  refine sr_d rfl (wtd_none rfl) rfl ((x_copy (m := min 1 n) (N := (List.replicate (min 1 n) x).flatMap Req.cells) (cs' := (List.replicate (min 1 n) x).flatMap Req.cells ++ Z.drop (min 1 n * 9)) Tryd.underlying53 sz35 rfl rfl (by show min _ _ = _; omega) (cells_repl1 (by omega) mauto) (rep_flat_len (enc := Req.cells) (s := 9) (fun _ => rfl) _) (rep_all (enc := Req.cells) (fun _ => rfl) _) Repl.auto (by have h9 := spl_rep2 (x := x) (m := 0) (k := min 1 n) (enc := Req.cells) (s := 9) (fun _ => rfl) (post := Z) (by rw [hZ]; omega); rw [Nat.zero_mul, Nat.zero_add] at h9; exact h9)).opS) ?_
  rintro _ _ ⟨rfl, rfl⟩
  refine sr_as ?_
  refine sr_nil ?_
  refine aw_kp [4, 7, 8] ?_
  refine aw_seq ?_
  refine aw_block ?_
  refine aw_loop (ι := RpG) (fun s => min 1 n ≤ s.m ∧ s.m ≤ n ∧ s.post.length = (n - s.m) * 9) (fun s => [(7, .slice (some ⟨r6_2, 0, none⟩) n n), (8, .int .i64 (s.m : Nat))]) (fun s => (r6_2, .cells ((List.replicate (s.m) x).flatMap Req.cells ++ s.post).toArray 35 (0, 0)) :: (b, .cells x.cells.toArray 35 (0, 0)) :: G) (fun s => n - s.m) ⟨min 1 n, Z.drop (min 1 n * 9)⟩ (⟨Nat.le_refl _, by dsimp only; omega, by dsimp only; rw [List.length_drop, hZ]; omega⟩) KeepF.auto Sub.autoP ?_
  intro s hs9
  obtain ⟨m, post⟩ := s
  dsimp only at hs9 ⊢
  obtain ⟨hm1, hm2, hpl⟩ := hs9
  refine aw_seq ?_
  refine aw_seq_region ?_
  refine sr_mv ?_
  refine sr_mv ?_
  refine sr_rd (x_lenSlice Tryd.underlying53 rfl) ?_
  refine sr_c (x_lt rfl rfl) (fun h4 => ?_) (fun h4 => ?_)
  · refine sr_nil ?_
    refine aw_kp [7, 8, 34, 35, 36, 37] ?_
    refine aw_true rfl ?_
    refine aw_skip ?_
    show AW _ _ _ _ _ _ _
    refine aw_block ?_
    refine aw_dr ⟨_, 10, 48, [[], [], [], [1, 2], [], [], [4, 5], [1, 2, 3, 4, 5, 6], [0, 1, 2, 3, 4, 5, 6, 7], [0, 1, 2, 3, 4, 5, 6, 7, 8]], [.light, .light, .light, .light, .light, .light, .light, .eff, .light, .light]⟩ (by kernel_rfl) rfl rfl mix ?_
    refine dr_l (x_move rfl) ?_
    refine dr_l (x_move rfl) ?_
    refine dr_l (x_move rfl) ?_
    refine dr_l (x_sliceLoK m Tryd.underlying53 sz35 rfl rfl rfl (by omega) (by omega) (by omega)) ?_
    refine dr_l (x_move rfl) ?_
    refine dr_l (x_move rfl) ?_
    refine dr_l (x_sliceHiK m Tryd.underlying53 sz35 rfl rfl rfl (by omega)) ?_
    refine dr_effE rfl rfl (wtd_none rfl) ((x_copy (m := min m (n - m)) (N := (List.replicate (min m (n - m)) x).flatMap Req.cells) (cs' := (List.replicate (m + min m (n - m)) x).flatMap Req.cells ++ post.drop (min m (n - m) * 9)) Tryd.underlying53 sz35 rfl rfl (by show min _ _ = _; omega) (cells_repl (m := m) (by omega) mauto) (rep_flat_len (enc := Req.cells) (s := 9) (fun _ => rfl) _) (rep_all (enc := Req.cells) (fun _ => rfl) _) Repl.auto (by rw [Nat.zero_add]; exact spl_rep2 (enc := Req.cells) (s := 9) (fun _ => rfl) (by omega))).opSF) (by exact fun hw L => ⟨_, _, ⟨rfl, rfl⟩, hw.1, fun b hb => .inl hb⟩) ?_
    rintro _ _ ⟨rfl, rfl⟩
    refine dr_l (x_add' rfl rfl (i64w (by omega) (by omega))) ?_
    refine dr_l (x_assign rfl) ?_
    refine dr_nil0 ?_
    show ∃ s', _ ∧ _ ∧ _ ∧ _
    exact ⟨⟨m + min m (n - m), post.drop (min m (n - m) * 9)⟩, ⟨by dsimp only; omega, by dsimp only; omega, by dsimp only; rw [List.length_drop, hpl]; omega⟩, by dsimp only; omega, KeepF.auto, Sub.autoP⟩
  · refine sr_nil ?_
    refine aw_kp [7, 8, 34, 35, 36, 37] ?_
    refine aw_false rfl ?_
    refine aw_exit ?_
    show AW _ _ _ _ _ _ _
    refine aw_seq_region ?_
    refine sr_mv ?_
    refine sr_as ?_
    refine sr_nil ?_
    refine aw_kp [4] ?_
    refine aw_ret ?_
    show ∃ v H2, ResV _ _ _ _ _ _ v ∧ Sub H2 _ ∧ _
    ((obtain rfl : m = n := (by omega)); exact ⟨_, (r6_2, .cells ((List.replicate (m) x).flatMap Req.cells ++ post).toArray 35 (0, 0)) :: G, resV rfl (.cons rfl .nil), Sub.autoP, some ⟨r6_2, 0, none⟩, m, [(r6_2, .cells ((List.replicate (m) x).flatMap Req.cells ++ post).toArray 35 (0, 0))], rfl, .mk (rep_flat_len (enc := Req.cells) (s := 9) (fun _ => rfl) _) hpl (Nat.le_refl _) (by omega), rfl⟩)
set_option maxRecDepth 100000 in
set_option maxHeartbeats 1000000 in
theorem requests_s (r : Req) (sa : Option Addr) (scap : Nat) (l : List Part) (H : SHeap) (hs : ∀ G, SlV W0 G 3 Part.cells sa scap l) : AC Tryd.prog W0 49 [r.v, .slice sa l.length scap] H (fun v H' => ∃ ys d zs e a cap E, v = .tuple #[.slice a zs.length cap, .int .i64 e] ∧ NumR l ys d ∧ ReqO r ys d zs e ∧ OwnVec 9 35 (.slice a zs.length cap) zs.length (zs.flatMap Req.cells) E ∧ H' = E ++ H) := by
  refine ac_of Tryd.func49 rfl rfl rfl ?_
  refine aw_seq_region ?_
  refine sr_new rfl (wtd_none rfl) rfl (x_box rfl rfl) ?_
  intro r0_0 hr0_0 gr0_0
  refine sr_as ?_
  refine sr_as ?_
  refine sr_nil ?_
  refine aw_kp [1, 2, 4, 5] ?_
  refine aw_seq_region ?_
  refine sr_mv ?_
  refine sr_d rfl (wtd_none rfl) rfl (opS_call rfl rfl rfl rfl cl42 (numbers_s sa scap l _ (hs _))) ?_
  rintro _ _ ⟨ys, d, a9, c9, E9, rfl, hN, V9, rfl⟩
  have hyl := num_len hN
  refine sr_mv ?_
  refine sr_rd (x_extract rfl rfl) ?_
  refine sr_rd (x_extract rfl rfl) ?_
  refine sr_as ?_
  refine sr_as ?_
  refine sr_nil ?_
  refine aw_kp [2, 4, 5, 6, 7] ?_
  refine aw_seq ?_
  refine aw_seq_region ?_
  refine sr_mv ?_
  refine sr_c (x_ne rfl rfl) (fun h1 => ?_) (fun h1 => ?_)
  · refine sr_nil ?_
    refine aw_kp [2, 4, 5, 6, 7, 14] ?_
    refine aw_true rfl ?_
    refine aw_seq_region ?_
    refine sr_mv ?_
    refine sr_as ?_
    refine sr_as ?_
    refine sr_nil ?_
    refine aw_kp [2, 4, 5, 6] ?_
    refine aw_ret ?_
    show ∃ v H2, ResV _ _ _ _ _ _ v ∧ Sub H2 _ ∧ _
    exact ⟨_, H, resV rfl (.cons rfl (.cons rfl .nil)), Sub.autoP, ys, d, [], d, none, 0, [], rfl, hN, .inl ⟨by assumption, rfl, rfl⟩, .nil, rfl⟩
  · refine sr_nil ?_
    refine aw_kp [2, 4, 5, 6, 7, 14] ?_
    refine aw_false rfl ?_
    refine aw_skip ?_
    show AW _ _ _ _ _ _ _
    refine aw_seq ?_
    refine aw_seq_region ?_
    refine sr_rd (x_fieldAddr fd35_0 rfl) ?_
    refine sr_rd (x_load ag3 rfl (cells_ext mauto Ext.auto)) ?_
    refine sr_c (x_ne rfl rfl) (fun h2 => ?_) (fun h2 => ?_)
    · refine sr_nil ?_
      refine aw_kp [2, 4, 5, 6, 18] ?_
      refine aw_true rfl ?_
      refine aw_seq_region ?_
      refine sr_as ?_
      refine sr_as ?_
      refine sr_nil ?_
      refine aw_kp [2, 4, 5, 6] ?_
      refine aw_ret ?_
      show ∃ v H2, ResV _ _ _ _ _ _ v ∧ Sub H2 _ ∧ _
      exact ⟨_, H, resV rfl (.cons rfl (.cons rfl .nil)), Sub.autoP, ys, d, [], 1, none, 0, [], rfl, hN, .inr (.inl ⟨by omega, by assumption, rfl, rfl⟩), .nil, rfl⟩
    · refine sr_nil ?_
      refine aw_kp [2, 4, 5, 6, 18] ?_
      refine aw_false rfl ?_
      refine aw_skip ?_
      show AW _ _ _ _ _ _ _
      refine aw_seq_region ?_
      refine sr_rd (x_loadN ag35 sz35 rfl (cells_ext mauto Ext.auto) rfl) ?_
      refine sr_new rfl (wtd_none rfl) rfl (x_buildSlice Tryd.underlying53 sz35 zr35 rfl rfl rfl rfl Parts.auto Fill.auto) ?_
      intro r6_1 hr6_1 gr6_1
      refine sr_mv ?_
      refine sr_rd (x_lenSlice Tryd.underlying69 rfl) ?_
      refine sr_d rfl (wtd_none rfl) rfl (opS_call rfl rfl rfl rfl cl72 (AC.sub Sub.autoP (rep_s r6_1 r ys.length (E9 ++ ((r0_0, .cells r.cells.toArray 35 (0, 0)) :: H)) hyl))) ?_
      rintro _ _ ⟨a2, c2, E2, rfl, V2, rfl⟩
      refine sr_as ?_
      refine sr_as ?_
      refine sr_nil ?_
      refine aw_kp [4, 5] ?_
      refine aw_ret ?_
      show ∃ v H2, ResV _ _ _ _ _ _ v ∧ Sub H2 _ ∧ _
      exact ⟨_, E2 ++ H, resV rfl (.cons rfl (.cons rfl .nil)), Sub.autoP, ys, d, List.replicate ys.length r, 0, a2, c2, E2, by rw [List.length_replicate]; rfl, hN, .inr (.inr ⟨by omega, by omega, rfl, rfl⟩), (by rw [List.length_replicate]; exact V2), rfl⟩
end
end Go.Proofs.YtbcajgkaepihfaaDoor
