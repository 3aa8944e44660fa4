/- The law's book: what made comes to, for any users. -/
import Derived.Test.YteilocpjikmmdaaSha
namespace Go.Proofs.Yteilocpjikmmdaa
open Go.Proofs.Yteilocpjikmmdaa.Sym
open Go.RowKit (Below)
set_option linter.unusedVariables false
set_option linter.unusedSimpArgs false
@[reducible] def pk (p : Nat) (sl : Value) (half now : Int) : Nat × Obj := (p, .cells (bkC sl half now).toArray 83 (0, 0))
theorem nd_t {p : Prop} [Decidable p] (h : (!decide p) = true) : ¬ p := by simpa using h
theorem nd_f {p : Prop} [Decidable p] (h : (!decide p) = false) : p := by simpa using h
theorem outL_len {us : List User} {u : User} {j m : Nat} {put : Bool} (hj : j ≤ us.length) : (outL us u j put m).length ≤ us.length + 1 := by
  unfold outL
  split
  · unfold insU
    simp only [List.length_append, List.length_take, List.length_cons, List.length_drop]; omega
  · rw [List.length_take]; omega
def IInv (us : List User) (u : User) (s : IG) : Prop := s.j ≤ us.length ∧ (∀ k y, k < s.j → us[k]? = some y → y.id ≠ u.id) ∧ (s.put = false → ∀ k y, k < s.j → us[k]? = some y → y.id < u.id) ∧ (s.put = true → At us u.id s.m ∧ s.m < s.j) ∧ OwnVec 3 86 s.sl (outL us u s.j s.put s.m).length ((outL us u s.j s.put s.m).flatMap User.cells) s.E
def NInv (l : List User) (s : NG) : Prop := s.k ≤ l.length ∧ Srt s.us ∧ s.us.length ≤ s.k ∧ OwnVec 3 86 s.sl s.us.length (s.us.flatMap User.cells) s.E ∧ Goes l [] s.k s.us
section
variable {us l : List User} {u x : User} {j m k : Nat} {sl sl2 : Value} {E E2 : SHeap}
theorem inner_now (hx : us[j]? = some x) (hne : ∀ k y, k < j → us[k]? = some y → y.id ≠ u.id) (hat : At us u.id j) (h : x.id ≠ u.id) (hV : OwnVec 3 86 sl ((outL us u (j) false (m)).length + 1 + 1) ((outL us u (j) false (m) ++ [u]).flatMap User.cells ++ x.cells) E) : IInv us u ⟨j + 1, true, j, sl, E⟩ := by
  have hj := get_lt hx
  have e1 : outL us u (j + 1) true (j) = us.take j ++ [u] ++ [x] := by
    show insU (us.take (j + 1)) j u = _
    rw [← insU_snoc hx (Nat.le_refl _)]
    unfold insU
    rw [List.take_take, Nat.min_self, List.drop_eq_nil_of_le (by rw [List.length_take]; omega)]
  refine ⟨hj, lt_succ_all (p := fun y => y.id ≠ u.id) hx hne h, (fun h => by cases h), fun _ => ⟨hat, Nat.lt_succ_self _⟩, ?_⟩
  rw [e1, ← app_user]
  have : (us.take j ++ [u] ++ [x]).length = (outL us u (j) false (m)).length + 1 + 1 := by simp [outL]
  rw [this]
  exact hV
theorem inner_put (hx : us[j]? = some x) (hne : ∀ k y, k < j → us[k]? = some y → y.id ≠ u.id) (hat : At us u.id m ∧ m < j) (h : x.id ≠ u.id) (hV : OwnVec 3 86 sl ((outL us u (j) true (m)).length + 1) ((outL us u (j) true (m)).flatMap User.cells ++ x.cells) E) : IInv us u ⟨j + 1, true, m, sl, E⟩ := by
  have hj := get_lt hx
  have e1 : outL us u (j + 1) true (m) = outL us u (j) true (m) ++ [x] := (insU_snoc hx (Nat.le_of_lt hat.2)).symm
  refine ⟨hj, lt_succ_all (p := fun y => y.id ≠ u.id) hx hne h, (fun h => by cases h), fun _ => ⟨hat.1, Nat.lt_succ_of_lt hat.2⟩, ?_⟩
  rw [e1, ← app_user, List.length_append]
  exact hV
theorem inner_not (hx : us[j]? = some x) (hne : ∀ k y, k < j → us[k]? = some y → y.id ≠ u.id) (hlt : ∀ k y, k < j → us[k]? = some y → y.id < u.id) (h : x.id ≠ u.id) (h2 : x.id < u.id) (hV : OwnVec 3 86 sl ((outL us u (j) false (m)).length + 1) ((outL us u (j) false (m)).flatMap User.cells ++ x.cells) E) : IInv us u ⟨j + 1, false, m, sl, E⟩ := by
  have hj := get_lt hx
  have e1 : outL us u (j + 1) false (m) = outL us u (j) false (m) ++ [x] := (take_snoc hx).symm
  refine ⟨hj, lt_succ_all (p := fun y => y.id ≠ u.id) hx hne h, fun _ => lt_succ_all (p := fun y => y.id < u.id) hx hlt h2, (fun h => by cases h), ?_⟩
  rw [e1, ← app_user, List.length_append]
  exact hV
theorem outer_end (hgo : Goes l [] k us) (hu : l[k]? = some u) (hr : URight u) (hs : Srt us) (hk : k < l.length) (hul : us.length ≤ k) (hj : us.length ≤ j) (hne : ∀ k y, k < j → us[k]? = some y → y.id ≠ u.id) (hlt : ∀ k y, k < j → us[k]? = some y → y.id < u.id) (hV : OwnVec 3 86 sl ((outL us u (j) false (m)).length + 1) ((outL us u (j) false (m) ++ [u]).flatMap User.cells) E) : NInv l ⟨k + 1, insU us us.length u, sl, E⟩ := by
  have hat : At us u.id us.length := at_end fun k y hk hy => hlt k y (by omega) hy
  have hn := ne_mem hj hne
  have e1 : outL us u (j) false (m) = us := List.take_of_length_le hj
  rw [e1] at hV
  exact ⟨hk, srt_ins hs hat hn, by dsimp only; rw [insU_len (Nat.le_refl _)]; omega, by dsimp only; rw [insU_len (Nat.le_refl _), insU_end]; exact hV, hgo.step hu (.ok hr hn hat)⟩
theorem outer_put (hgo : Goes l [] k us) (hu : l[k]? = some u) (hr : URight u) (hs : Srt us) (hk : k < l.length) (hul : us.length ≤ k) (hj : us.length ≤ j) (hne : ∀ k y, k < j → us[k]? = some y → y.id ≠ u.id) (hat : At us u.id m) (hV : OwnVec 3 86 sl (outL us u (j) true (m)).length ((outL us u (j) true (m)).flatMap User.cells) E) : NInv l ⟨k + 1, insU us m u, sl, E⟩ := by
  have hn := ne_mem hj hne
  have e1 : outL us u (j) true (m) = insU us m u := by show insU (us.take j) m u = _; rw [List.take_of_length_le hj]
  rw [e1] at hV
  exact ⟨hk, srt_ins hs hat hn, by dsimp only; rw [insU_len hat.1]; omega, hV, hgo.step hu (.ok hr hn hat)⟩
end
theorem cl109 : Callable Try.prog 109 := ⟨Try.f109, Try.func109, by kernel_rfl, by kernel_rfl⟩
theorem fd83_0 : fldOf Try.prog 83 0 = some (0, 73, 1) := by kernel_rfl
theorem fl83 : flds Try.prog 83 = some [(0, 1), (1, 1), (2, 1)] := by kernel_rfl
theorem zr83 : zeroOf Try.prog 83 = some (.agg #[.slice none 0 0, .int .i64 0, .int .i64 0]) := by kernel_rfl
section
variable {W0 : World}
set_option maxRecDepth 100000 in
set_option maxHeartbeats 4000000 in
theorem umade_s (half : Int) (a : Option Addr) (cap : Nat) (l : List User) (G : SHeap) (hs : ∀ H, Sub G H → SlV W0 H 3 User.cells a cap l) (hl : l.length ≤ 1000) : AC Try.prog W0 50 [.int .i64 half, .slice a l.length cap] G (fun v H' => (((half < 1 ∨ 1099511627776 < half) ∧ v = .tuple #[.pointer none, .int .i64 1] ∧ H' = G) ∨ (¬ (half < 1 ∨ 1099511627776 < half) ∧ ∃ e us, AddAll [] l e us ∧ e ≠ 0 ∧ v = .tuple #[.pointer none, .int .i64 e] ∧ H' = G) ∨ (¬ (half < 1 ∨ 1099511627776 < half) ∧ ∃ us p sl E, AddAll [] l 0 us ∧ OwnVec 3 86 sl us.length (us.flatMap User.cells) E ∧ v = .tuple #[.pointer (some ⟨p, 0, none⟩), .int .i64 0] ∧ H' = pk p sl half 0 :: (E ++ G)))) := by
  have hle := (hs G (Sub.refl _)).le
  have hcb := (hs G (Sub.refl _)).capb
  refine ac_of Try.func50 rfl rfl rfl ?_
  refine aw_seq_region ?_
  refine sr_x rfl (wtd_none rfl) rfl (Rd.x (x_assign rfl)) ?_
  refine sr_x rfl (wtd_none rfl) rfl (Rd.x (x_assign rfl)) ?_
  refine sr_nil ?_
  refine aw_keep (keep_cons (t := 0) rfl (keep_cons (t := 1) rfl (keep_cons (t := 4) rfl (keep_cons (t := 5) rfl keep_nil)))) ?_
  refine aw_seq ?_
  refine aw_seq_region ?_
  refine sr_x rfl (wtd_none rfl) rfl (Rd.x (x_move rfl)) ?_
  refine sr_cmp rfl (wtd_none rfl) rfl (Rd.x (x_lt rfl rfl)) (fun h1 => ?_) (fun h1 => ?_)
  · refine sr_x rfl (wtd_none rfl) rfl (Rd.x (x_move rfl)) ?_
    refine sr_skip rfl (wtd_no rfl rfl rfl rfl) rfl ?_
    refine sr_skip rfl (wtd_no rfl rfl rfl rfl) rfl ?_
    refine sr_x rfl (wtd_none rfl) rfl (Rd.x (x_pick_t rfl rfl rfl)) ?_
    refine sr_nil ?_
    refine aw_keep (keep_cons (t := 0) rfl (keep_cons (t := 1) rfl (keep_cons (t := 4) rfl (keep_cons (t := 5) rfl (keep_cons (t := 16) rfl keep_nil))))) ?_
    refine aw_true rfl ?_
    refine aw_seq_region ?_
    refine sr_x rfl (wtd_none rfl) rfl (Rd.x (x_assign rfl)) ?_
    refine sr_x rfl (wtd_none rfl) rfl (Rd.x (x_assign rfl)) ?_
    refine sr_nil ?_
    refine aw_keep (keep_cons (t := 0) rfl (keep_cons (t := 1) rfl (keep_cons (t := 4) rfl (keep_cons (t := 5) rfl keep_nil)))) ?_
    refine aw_ret ?_
    show ∃ v H2, ResV _ _ _ _ _ _ v ∧ Sub H2 _ ∧ _
    first | exact ⟨_, G, resV rfl (.cons rfl (.cons rfl .nil)), Sub.refl _, .inl ⟨by omega, rfl, rfl⟩⟩ | exact ⟨_, G, resV rfl (.cons rfl (.cons rfl .nil)), (by (repeat (first | exact Sub.refl _ | refine Sub.take (by repeat (first | exact Take.here | apply Take.there | apply Take.app)) ?_ | refine Sub.takeE (by repeat (first | exact TakeE.here | apply TakeE.there | apply TakeE.app)) ?_ | exact Sub.nil _ | apply Sub.drop | apply Sub.dropE)); first | done | fail), .inr (.inl ⟨by omega, 5, us, hgo.stop hu (.bad (nd_t ‹(!decide (URight u)) = true›)) (by decide), by decide, rfl, rfl⟩)⟩ | exact ⟨_, G, resV rfl (.cons rfl (.cons rfl .nil)), (by (repeat (first | exact Sub.refl _ | refine Sub.take (by repeat (first | exact Take.here | apply Take.there | apply Take.app)) ?_ | refine Sub.takeE (by repeat (first | exact TakeE.here | apply TakeE.there | apply TakeE.app)) ?_ | exact Sub.nil _ | apply Sub.drop | apply Sub.dropE)); first | done | fail), .inr (.inl ⟨by omega, 13, us, hgo.stop hu (.twice (nd_f ‹(!decide (URight u)) = false›) ⟨x, List.mem_of_getElem? hx, by assumption⟩) (by decide), by decide, rfl, rfl⟩)⟩ | exact ⟨_, pk r3_2 (.slice a0 us.length c0) half 0 :: (E ++ G), resV rfl (.cons rfl (.cons rfl .nil)), Sub.refl _, .inr (.inr ⟨by omega, us, _, _, _, hgo.done (by omega), V, rfl, rfl⟩)⟩
  · refine sr_x rfl (wtd_none rfl) rfl (Rd.x (x_move rfl)) ?_
    refine sr_x rfl (wtd_yes rfl rfl rfl) rfl (Rd.x (x_move rfl)) ?_
    refine sr_cmp rfl (wtd_yes rfl rfl rfl) rfl (Rd.x (x_gt rfl rfl)) (fun h2 => ?_) (fun h2 => ?_)
    · refine sr_x rfl (wtd_none rfl) rfl (Rd.x (x_pick_f rfl rfl rfl)) ?_
      refine sr_nil ?_
      refine aw_keep (keep_cons (t := 0) rfl (keep_cons (t := 1) rfl (keep_cons (t := 4) rfl (keep_cons (t := 5) rfl (keep_cons (t := 16) rfl keep_nil))))) ?_
      refine aw_true rfl ?_
      refine aw_seq_region ?_
      refine sr_x rfl (wtd_none rfl) rfl (Rd.x (x_assign rfl)) ?_
      refine sr_x rfl (wtd_none rfl) rfl (Rd.x (x_assign rfl)) ?_
      refine sr_nil ?_
      refine aw_keep (keep_cons (t := 0) rfl (keep_cons (t := 1) rfl (keep_cons (t := 4) rfl (keep_cons (t := 5) rfl keep_nil)))) ?_
      refine aw_ret ?_
      show ∃ v H2, ResV _ _ _ _ _ _ v ∧ Sub H2 _ ∧ _
      first | exact ⟨_, G, resV rfl (.cons rfl (.cons rfl .nil)), Sub.refl _, .inl ⟨by omega, rfl, rfl⟩⟩ | exact ⟨_, G, resV rfl (.cons rfl (.cons rfl .nil)), (by (repeat (first | exact Sub.refl _ | refine Sub.take (by repeat (first | exact Take.here | apply Take.there | apply Take.app)) ?_ | refine Sub.takeE (by repeat (first | exact TakeE.here | apply TakeE.there | apply TakeE.app)) ?_ | exact Sub.nil _ | apply Sub.drop | apply Sub.dropE)); first | done | fail), .inr (.inl ⟨by omega, 5, us, hgo.stop hu (.bad (nd_t ‹(!decide (URight u)) = true›)) (by decide), by decide, rfl, rfl⟩)⟩ | exact ⟨_, G, resV rfl (.cons rfl (.cons rfl .nil)), (by (repeat (first | exact Sub.refl _ | refine Sub.take (by repeat (first | exact Take.here | apply Take.there | apply Take.app)) ?_ | refine Sub.takeE (by repeat (first | exact TakeE.here | apply TakeE.there | apply TakeE.app)) ?_ | exact Sub.nil _ | apply Sub.drop | apply Sub.dropE)); first | done | fail), .inr (.inl ⟨by omega, 13, us, hgo.stop hu (.twice (nd_f ‹(!decide (URight u)) = false›) ⟨x, List.mem_of_getElem? hx, by assumption⟩) (by decide), by decide, rfl, rfl⟩)⟩ | exact ⟨_, pk r3_2 (.slice a0 us.length c0) half 0 :: (E ++ G), resV rfl (.cons rfl (.cons rfl .nil)), Sub.refl _, .inr (.inr ⟨by omega, us, _, _, _, hgo.done (by omega), V, rfl, rfl⟩)⟩
    · refine sr_x rfl (wtd_none rfl) rfl (Rd.x (x_pick_f rfl rfl rfl)) ?_
      refine sr_nil ?_
      refine aw_keep (keep_cons (t := 0) rfl (keep_cons (t := 1) rfl (keep_cons (t := 4) rfl (keep_cons (t := 5) rfl (keep_cons (t := 16) rfl keep_nil))))) ?_
      refine aw_false rfl ?_
      refine aw_skip ?_
      show AW _ _ _ _ _ _ _
      refine aw_seq_region ?_
      refine sr_x rfl (wtd_none rfl) rfl (Rd.x (x_move rfl)) ?_
      refine sr_x rfl (wtd_none rfl) rfl (Rd.x (x_build zr83 rfl fl83 (by repeat (first | exact Parts.nil | (apply Parts.cons; rfl))) (by repeat (first | exact Fill.done | (apply Fill.part; rfl; rfl; rfl; focus (repeat (first | exact Spl.done | exact Spl.all rfl | apply Spl.put | apply Spl.skip))))))) ?_
      refine sr_new rfl (wtd_none rfl) rfl (x_box rfl rfl) ?_
      intro r3_2 hr3_2 gr3_2
      refine sr_x rfl (wtd_none rfl) rfl (Rd.x (x_assign rfl)) ?_
      refine sr_nil ?_
      refine aw_keep (keep_cons (t := 1) rfl (keep_cons (t := 4) rfl (keep_cons (t := 5) rfl (keep_cons (t := 6) rfl keep_nil)))) ?_
      refine aw_seq ?_
      refine aw_seq_region ?_
      refine sr_x rfl (wtd_none rfl) rfl (Rd.x (x_assign rfl)) ?_
      refine sr_nil ?_
      refine aw_keep (keep_cons (t := 1) rfl (keep_cons (t := 4) rfl (keep_cons (t := 5) rfl (keep_cons (t := 6) rfl (keep_cons (t := 7) rfl keep_nil))))) ?_
      refine aw_block ?_
      refine aw_loop (ι := NG) (fun s => NInv l s) (fun s => [(1, .slice a l.length cap), (4, .pointer none), (5, .int .i64 0), (6, .pointer (some ⟨r3_2, 0, none⟩)), (7, .int .i64 s.k)]) (fun s => pk r3_2 s.sl half 0 :: (s.E ++ G)) (fun s => l.length - s.k) ⟨0, [], .slice none 0 0, []⟩ (⟨Nat.zero_le _, List.Pairwise.nil, Nat.le_refl _, .nil, Goes.zero _ _⟩) (by (repeat (first | exact keep_nil | refine keep_cons rfl ?_)); first | done | fail) (by repeat (first | exact Sub.refl _ | refine Sub.take (by repeat (first | exact Take.here | apply Take.there | apply Take.app)) ?_ | refine Sub.takeE (by repeat (first | exact TakeE.here | apply TakeE.there | apply TakeE.app)) ?_ | exact Sub.nil _ | apply Sub.drop | apply Sub.dropE)) ?_
      intro s hs9
      obtain ⟨k, us, sl, E⟩ := s
      unfold NInv at hs9
      dsimp only at hs9 ⊢
      obtain ⟨hk, hsrt, hul, V, hgo⟩ := hs9
      obtain ⟨a0, c0, rfl⟩ := V.isSl
      refine aw_seq ?_
      refine aw_seq_region ?_
      refine sr_x rfl (wtd_none rfl) rfl (Rd.x (x_move rfl)) ?_
      refine sr_x rfl (wtd_none rfl) rfl (Rd.x (x_move rfl)) ?_
      refine sr_x rfl (wtd_none rfl) rfl (Rd.x (x_lenSlice Try.underlying73 rfl)) ?_
      refine sr_cmp rfl (wtd_none rfl) rfl (Rd.x (x_lt rfl rfl)) (fun h3 => ?_) (fun h3 => ?_)
      · refine sr_nil ?_
        refine aw_keep (keep_cons (t := 1) rfl (keep_cons (t := 4) rfl (keep_cons (t := 5) rfl (keep_cons (t := 6) rfl (keep_cons (t := 7) rfl (keep_cons (t := 20) rfl (keep_cons (t := 21) rfl (keep_cons (t := 22) rfl (keep_cons (t := 23) rfl keep_nil))))))))) ?_
        refine aw_true rfl ?_
        refine aw_skip ?_
        show AW _ _ _ _ _ _ _
        refine aw_seq ?_
        refine aw_block ?_
        refine aw_seq ?_
        refine aw_seq_region ?_
        obtain ⟨u, hu⟩ := get_ex (show k < l.length by omega)
        obtain ⟨bu, ou, hau, hcu⟩ := (hs G (Sub.refl _)).at_ k _ hu
        refine sr_x rfl (wtd_none rfl) rfl (Rd.x (x_move rfl)) ?_
        refine sr_x rfl (wtd_none rfl) rfl (Rd.x (x_move rfl)) ?_
        refine sr_x rfl (wtd_none rfl) rfl (Rd.x (x_indexAddrN k Try.underlying73 sz86 rfl hau rfl (by omega) (by omega))) ?_
        refine sr_x rfl (wtd_none rfl) rfl (Rd.x (x_loadN ag86 sz86 rfl (Cells.mono hcu (by repeat (first | exact Sub.refl _ | apply Sub.drop | apply Sub.dropE))) rfl)) ?_
        refine sr_d rfl (wtd_none rfl) rfl (opS_call rfl rfl rfl rfl cl109 (uright_s _ _)) ?_
        rintro _ H ⟨rfl, rfl⟩
        refine sr_x rfl (wtd_none rfl) rfl (Rd.x (x_not rfl)) ?_
        refine sr_nil ?_
        refine aw_keep (keep_cons (t := 1) rfl (keep_cons (t := 4) rfl (keep_cons (t := 5) rfl (keep_cons (t := 6) rfl (keep_cons (t := 7) rfl (keep_cons (t := 20) rfl (keep_cons (t := 21) rfl (keep_cons (t := 22) rfl (keep_cons (t := 23) rfl (keep_cons (t := 26) rfl (keep_cons (t := 27) rfl (keep_cons (t := 28) rfl (keep_cons (t := 29) rfl (keep_cons (t := 30) rfl (keep_cons (t := 31) rfl keep_nil))))))))))))))) ?_
        refine aw_cond rfl (fun hb4 => ?_) (fun hb4 => ?_)
        · refine aw_seq_region ?_
          refine sr_x rfl (wtd_none rfl) rfl (Rd.x (x_assign rfl)) ?_
          refine sr_x rfl (wtd_none rfl) rfl (Rd.x (x_assign rfl)) ?_
          refine sr_nil ?_
          refine aw_keep (keep_cons (t := 1) rfl (keep_cons (t := 4) rfl (keep_cons (t := 5) rfl (keep_cons (t := 6) rfl (keep_cons (t := 7) rfl (keep_cons (t := 20) rfl (keep_cons (t := 21) rfl (keep_cons (t := 22) rfl (keep_cons (t := 23) rfl (keep_cons (t := 26) rfl (keep_cons (t := 27) rfl (keep_cons (t := 28) rfl (keep_cons (t := 29) rfl (keep_cons (t := 30) rfl (keep_cons (t := 31) rfl keep_nil))))))))))))))) ?_
          refine aw_ret ?_
          show ∃ v H2, ResV _ _ _ _ _ _ v ∧ Sub H2 _ ∧ _
          first | exact ⟨_, G, resV rfl (.cons rfl (.cons rfl .nil)), Sub.refl _, .inl ⟨by omega, rfl, rfl⟩⟩ | exact ⟨_, G, resV rfl (.cons rfl (.cons rfl .nil)), (by (repeat (first | exact Sub.refl _ | refine Sub.take (by repeat (first | exact Take.here | apply Take.there | apply Take.app)) ?_ | refine Sub.takeE (by repeat (first | exact TakeE.here | apply TakeE.there | apply TakeE.app)) ?_ | exact Sub.nil _ | apply Sub.drop | apply Sub.dropE)); first | done | fail), .inr (.inl ⟨by omega, 5, us, hgo.stop hu (.bad (nd_t ‹(!decide (URight u)) = true›)) (by decide), by decide, rfl, rfl⟩)⟩ | exact ⟨_, G, resV rfl (.cons rfl (.cons rfl .nil)), (by (repeat (first | exact Sub.refl _ | refine Sub.take (by repeat (first | exact Take.here | apply Take.there | apply Take.app)) ?_ | refine Sub.takeE (by repeat (first | exact TakeE.here | apply TakeE.there | apply TakeE.app)) ?_ | exact Sub.nil _ | apply Sub.drop | apply Sub.dropE)); first | done | fail), .inr (.inl ⟨by omega, 13, us, hgo.stop hu (.twice (nd_f ‹(!decide (URight u)) = false›) ⟨x, List.mem_of_getElem? hx, by assumption⟩) (by decide), by decide, rfl, rfl⟩)⟩ | exact ⟨_, pk r3_2 (.slice a0 us.length c0) half 0 :: (E ++ G), resV rfl (.cons rfl (.cons rfl .nil)), Sub.refl _, .inr (.inr ⟨by omega, us, _, _, _, hgo.done (by omega), V, rfl, rfl⟩)⟩
        · refine aw_skip ?_
          show AW _ _ _ _ _ _ _
          refine aw_seq_region ?_
          refine sr_x rfl (wtd_none rfl) rfl (Rd.x (x_assign rfl)) ?_
          refine sr_nil ?_
          refine aw_keep (keep_cons (t := 1) rfl (keep_cons (t := 4) rfl (keep_cons (t := 5) rfl (keep_cons (t := 6) rfl (keep_cons (t := 7) rfl (keep_cons (t := 8) rfl (keep_cons (t := 20) rfl (keep_cons (t := 21) rfl (keep_cons (t := 22) rfl (keep_cons (t := 23) rfl (keep_cons (t := 26) rfl (keep_cons (t := 27) rfl (keep_cons (t := 28) rfl (keep_cons (t := 29) rfl (keep_cons (t := 30) rfl (keep_cons (t := 31) rfl keep_nil)))))))))))))))) ?_
          refine aw_seq_region ?_
          refine sr_x rfl (wtd_none rfl) rfl (Rd.x (x_assign rfl)) ?_
          refine sr_nil ?_
          refine aw_keep (keep_cons (t := 1) rfl (keep_cons (t := 4) rfl (keep_cons (t := 5) rfl (keep_cons (t := 6) rfl (keep_cons (t := 7) rfl (keep_cons (t := 8) rfl (keep_cons (t := 9) rfl (keep_cons (t := 20) rfl (keep_cons (t := 21) rfl (keep_cons (t := 22) rfl (keep_cons (t := 23) rfl (keep_cons (t := 26) rfl (keep_cons (t := 27) rfl (keep_cons (t := 28) rfl (keep_cons (t := 29) rfl (keep_cons (t := 30) rfl (keep_cons (t := 31) rfl keep_nil))))))))))))))))) ?_
          refine aw_seq ?_
          refine aw_seq_region ?_
          refine sr_x rfl (wtd_none rfl) rfl (Rd.x (x_assign rfl)) ?_
          refine sr_nil ?_
          refine aw_keep (keep_cons (t := 1) rfl (keep_cons (t := 4) rfl (keep_cons (t := 5) rfl (keep_cons (t := 6) rfl (keep_cons (t := 7) rfl (keep_cons (t := 8) rfl (keep_cons (t := 9) rfl (keep_cons (t := 10) rfl (keep_cons (t := 20) rfl (keep_cons (t := 21) rfl (keep_cons (t := 22) rfl (keep_cons (t := 23) rfl (keep_cons (t := 26) rfl (keep_cons (t := 27) rfl (keep_cons (t := 28) rfl (keep_cons (t := 29) rfl (keep_cons (t := 30) rfl (keep_cons (t := 31) rfl keep_nil)))))))))))))))))) ?_
          refine aw_block ?_
          refine aw_loop (ι := IG) (fun s => IInv us u s) (fun s => [(1, .slice a l.length cap), (4, .pointer none), (5, .int .i64 0), (6, .pointer (some ⟨r3_2, 0, none⟩)), (7, .int .i64 k), (8, s.sl), (9, .bool s.put), (10, .int .i64 s.j)]) (fun s => pk r3_2 (.slice a0 us.length c0) half 0 :: (E ++ (s.E ++ G))) (fun s => us.length - s.j) ⟨0, false, 0, .slice none 0 0, []⟩ (⟨Nat.zero_le _, fun k y h => absurd h (Nat.not_lt_zero k), fun _ k y h => absurd h (Nat.not_lt_zero k), (fun h => by cases h), .nil⟩) (by (repeat (first | exact keep_nil | refine keep_cons rfl ?_)); first | done | fail) (by repeat (first | exact Sub.refl _ | refine Sub.take (by repeat (first | exact Take.here | apply Take.there | apply Take.app)) ?_ | refine Sub.takeE (by repeat (first | exact TakeE.here | apply TakeE.there | apply TakeE.app)) ?_ | exact Sub.nil _ | apply Sub.drop | apply Sub.dropE)) ?_
          intro s hs8
          obtain ⟨j, put, m, sl2, E2⟩ := s
          unfold IInv at hs8
          dsimp only at hs8 ⊢
          obtain ⟨hj, hne, hlt, hpt, V2⟩ := hs8
          cases put
          · have hol := fun pt => outL_len (us := us) (u := u) (m := m) (put := pt) hj
            have hol1 := hol true
            have hol2 := hol false
            obtain ⟨a2, c2, rfl⟩ := V2.isSl
            refine aw_seq ?_
            refine aw_seq_region ?_
            refine sr_x rfl (wtd_none rfl) rfl (Rd.x (x_move rfl)) ?_
            refine sr_x rfl (wtd_none rfl) rfl (Rd.x (x_move rfl)) ?_
            refine sr_x rfl (wtd_none rfl) rfl (Rd.x (x_nilCheck rfl)) ?_
            refine sr_x rfl (wtd_none rfl) rfl (Rd.x (x_fieldAddr fd83_0 rfl)) ?_
            refine sr_x rfl (wtd_none rfl) rfl (Rd.x (x_load ag73 rfl (cells_ext (by repeat (first | exact List.mem_cons_self | apply List.mem_cons_of_mem | apply List.mem_append_right)) (by repeat (first | exact Ext.all _ | exact Ext.done | apply Ext.take | apply Ext.skip))))) ?_
            refine sr_x rfl (wtd_none rfl) rfl (Rd.x (x_lenSlice Try.underlying73 rfl)) ?_
            refine sr_cmp rfl (wtd_none rfl) rfl (Rd.x (x_lt rfl rfl)) (fun h5 => ?_) (fun h5 => ?_)
            · refine sr_nil ?_
              refine aw_keep (keep_cons (t := 1) rfl (keep_cons (t := 4) rfl (keep_cons (t := 5) rfl (keep_cons (t := 6) rfl (keep_cons (t := 7) rfl (keep_cons (t := 8) rfl (keep_cons (t := 9) rfl (keep_cons (t := 10) rfl (keep_cons (t := 32) rfl (keep_cons (t := 33) rfl (keep_cons (t := 34) rfl (keep_cons (t := 35) rfl (keep_cons (t := 36) rfl (keep_cons (t := 37) rfl (keep_cons (t := 38) rfl keep_nil))))))))))))))) ?_
              refine aw_true rfl ?_
              refine aw_skip ?_
              show AW _ _ _ _ _ _ _
              refine aw_seq ?_
              refine aw_block ?_
              refine aw_seq ?_
              refine aw_seq_dr ⟨_, 14, 104, [[], [0], [0, 1], [0, 1, 2], [], [0, 1, 2, 3, 4], [0, 1, 2, 3, 4, 5], [0, 1, 2, 3, 4, 5, 6], [], [], [8, 9], [8, 9, 10], [8, 9, 10, 11], [0, 1, 2, 3, 4, 5, 6, 7, 8, 9, 10, 11, 12]], [.light, .light, .light, .mem, .light, .light, .light, .mem, .light, .light, .light, .light, .mem, .light]⟩ (by kernel_rfl) rfl rfl mix ?_
              obtain ⟨x, hx⟩ := get_ex (show j < us.length by omega)
              obtain ⟨bx, ox, hax, hcx⟩ := (V.slv' (W0 := W0) (fun _ => rfl) rfl (Sub.refl _)).at_ j _ hx
              refine dr_light rfl rfl (wtd_none rfl) (x_move rfl) ?_
              refine dr_light rfl rfl (wtd_none rfl) (x_nilCheck rfl) ?_
              refine dr_light rfl rfl (wtd_none rfl) (x_fieldAddr fd83_0 rfl) ?_
              refine dr_mem0 rfl rfl (wtd_none rfl) (x_load ag73 rfl (cells_ext (by repeat (first | exact List.mem_cons_self | apply List.mem_cons_of_mem | apply List.mem_append_right)) (by repeat (first | exact Ext.all _ | exact Ext.done | apply Ext.take | apply Ext.skip)))) ?_
              refine dr_light rfl rfl (wtd_none rfl) (x_move rfl) ?_
              refine dr_light rfl rfl (wtd_none rfl) (x_indexAddrN j Try.underlying73 sz86 rfl hax rfl (by omega) (by omega)) ?_
              refine dr_light rfl rfl (wtd_none rfl) (x_fieldAddr fd86_0 rfl) ?_
              refine dr_mem0 rfl rfl (wtd_none rfl) (x_load ag3 rfl (cells_get (Cells.mono hcx (Sub.takeE0 (by repeat (first | exact TakeE.here | apply TakeE.there | apply TakeE.app)))) 0 rfl)) ?_
              refine dr_light rfl rfl (wtd_none rfl) (x_move rfl) ?_
              refine dr_light rfl rfl (wtd_none rfl) (x_move rfl) ?_
              refine dr_light rfl rfl (wtd_none rfl) (x_indexAddrN k Try.underlying73 sz86 rfl hau rfl (by omega) (by omega)) ?_
              refine dr_light rfl rfl (wtd_none rfl) (x_fieldAddr fd86_0 rfl) ?_
              refine dr_mem0 rfl rfl (wtd_none rfl) (x_load ag3 rfl (cells_get (Cells.mono hcu (by repeat (first | exact Sub.refl _ | apply Sub.drop | apply Sub.dropE))) 0 rfl)) ?_
              refine dr_cmp rfl rfl (wtd_none rfl) (x_eq rfl rfl) (fun h6 => ?_) (fun h6 => ?_)
              · refine dr_nil0 ?_
                refine aw_keep (keep_cons (t := 1) rfl (keep_cons (t := 4) rfl (keep_cons (t := 5) rfl (keep_cons (t := 6) rfl (keep_cons (t := 7) rfl (keep_cons (t := 8) rfl (keep_cons (t := 9) rfl (keep_cons (t := 10) rfl (keep_cons (t := 32) rfl (keep_cons (t := 33) rfl (keep_cons (t := 34) rfl (keep_cons (t := 35) rfl (keep_cons (t := 36) rfl (keep_cons (t := 37) rfl (keep_cons (t := 38) rfl (keep_cons (t := 41) rfl (keep_cons (t := 42) rfl (keep_cons (t := 43) rfl (keep_cons (t := 44) rfl (keep_cons (t := 45) rfl (keep_cons (t := 46) rfl (keep_cons (t := 47) rfl (keep_cons (t := 48) rfl (keep_cons (t := 49) rfl (keep_cons (t := 50) rfl (keep_cons (t := 51) rfl (keep_cons (t := 52) rfl (keep_cons (t := 53) rfl (keep_cons (t := 54) rfl keep_nil))))))))))))))))))))))))))))) ?_
                refine aw_true rfl ?_
                refine aw_seq_region ?_
                refine sr_x rfl (wtd_none rfl) rfl (Rd.x (x_assign rfl)) ?_
                refine sr_x rfl (wtd_none rfl) rfl (Rd.x (x_assign rfl)) ?_
                refine sr_nil ?_
                refine aw_keep (keep_cons (t := 1) rfl (keep_cons (t := 4) rfl (keep_cons (t := 5) rfl (keep_cons (t := 6) rfl (keep_cons (t := 7) rfl (keep_cons (t := 8) rfl (keep_cons (t := 9) rfl (keep_cons (t := 10) rfl (keep_cons (t := 32) rfl (keep_cons (t := 33) rfl (keep_cons (t := 34) rfl (keep_cons (t := 35) rfl (keep_cons (t := 36) rfl (keep_cons (t := 37) rfl (keep_cons (t := 38) rfl (keep_cons (t := 41) rfl (keep_cons (t := 42) rfl (keep_cons (t := 43) rfl (keep_cons (t := 44) rfl (keep_cons (t := 45) rfl (keep_cons (t := 46) rfl (keep_cons (t := 47) rfl (keep_cons (t := 48) rfl (keep_cons (t := 49) rfl (keep_cons (t := 50) rfl (keep_cons (t := 51) rfl (keep_cons (t := 52) rfl (keep_cons (t := 53) rfl (keep_cons (t := 54) rfl keep_nil))))))))))))))))))))))))))))) ?_
                refine aw_ret ?_
                show ∃ v H2, ResV _ _ _ _ _ _ v ∧ Sub H2 _ ∧ _
                first | exact ⟨_, G, resV rfl (.cons rfl (.cons rfl .nil)), Sub.refl _, .inl ⟨by omega, rfl, rfl⟩⟩ | exact ⟨_, G, resV rfl (.cons rfl (.cons rfl .nil)), (by (repeat (first | exact Sub.refl _ | refine Sub.take (by repeat (first | exact Take.here | apply Take.there | apply Take.app)) ?_ | refine Sub.takeE (by repeat (first | exact TakeE.here | apply TakeE.there | apply TakeE.app)) ?_ | exact Sub.nil _ | apply Sub.drop | apply Sub.dropE)); first | done | fail), .inr (.inl ⟨by omega, 5, us, hgo.stop hu (.bad (nd_t ‹(!decide (URight u)) = true›)) (by decide), by decide, rfl, rfl⟩)⟩ | exact ⟨_, G, resV rfl (.cons rfl (.cons rfl .nil)), (by (repeat (first | exact Sub.refl _ | refine Sub.take (by repeat (first | exact Take.here | apply Take.there | apply Take.app)) ?_ | refine Sub.takeE (by repeat (first | exact TakeE.here | apply TakeE.there | apply TakeE.app)) ?_ | exact Sub.nil _ | apply Sub.drop | apply Sub.dropE)); first | done | fail), .inr (.inl ⟨by omega, 13, us, hgo.stop hu (.twice (nd_f ‹(!decide (URight u)) = false›) ⟨x, List.mem_of_getElem? hx, by assumption⟩) (by decide), by decide, rfl, rfl⟩)⟩ | exact ⟨_, pk r3_2 (.slice a0 us.length c0) half 0 :: (E ++ G), resV rfl (.cons rfl (.cons rfl .nil)), Sub.refl _, .inr (.inr ⟨by omega, us, _, _, _, hgo.done (by omega), V, rfl, rfl⟩)⟩
              · refine dr_nil0 ?_
                refine aw_keep (keep_cons (t := 1) rfl (keep_cons (t := 4) rfl (keep_cons (t := 5) rfl (keep_cons (t := 6) rfl (keep_cons (t := 7) rfl (keep_cons (t := 8) rfl (keep_cons (t := 9) rfl (keep_cons (t := 10) rfl (keep_cons (t := 32) rfl (keep_cons (t := 33) rfl (keep_cons (t := 34) rfl (keep_cons (t := 35) rfl (keep_cons (t := 36) rfl (keep_cons (t := 37) rfl (keep_cons (t := 38) rfl (keep_cons (t := 41) rfl (keep_cons (t := 42) rfl (keep_cons (t := 43) rfl (keep_cons (t := 44) rfl (keep_cons (t := 45) rfl (keep_cons (t := 46) rfl (keep_cons (t := 47) rfl (keep_cons (t := 48) rfl (keep_cons (t := 49) rfl (keep_cons (t := 50) rfl (keep_cons (t := 51) rfl (keep_cons (t := 52) rfl (keep_cons (t := 53) rfl (keep_cons (t := 54) rfl keep_nil))))))))))))))))))))))))))))) ?_
                refine aw_false rfl ?_
                refine aw_skip ?_
                show AW _ _ _ _ _ _ _
                refine aw_seq ?_
                refine aw_seq_dr ⟨_, 18, 104, [[], [0], [0, 1], [0, 1, 2], [0, 1, 2, 3], [0, 1, 2, 3, 4], [0, 1, 2, 3, 4, 5], [0, 1, 2], [0, 1, 2, 3, 4, 5, 6, 7], [0, 1, 2, 3, 4, 5, 6, 7, 8], [0, 1, 2, 3, 4, 5, 6, 7, 8, 9], [0, 1, 2], [0, 1, 2], [0, 1, 2, 11, 12], [0, 1, 2, 11, 12, 13], [0, 1, 2, 11, 12, 13, 14], [0, 1, 2, 3, 4, 5, 6, 7, 8, 9, 10, 11, 12, 13, 14, 15], [0, 1, 2, 3, 4, 5, 6, 7, 8, 9, 10, 11, 12, 13, 14, 15, 16]], [.light, .light, .light, .light, .light, .light, .mem, .light, .light, .light, .mem, .light, .light, .light, .light, .mem, .light, .light]⟩ (by kernel_rfl) rfl rfl mix ?_
                refine dr_light rfl rfl (wtd_none rfl) (x_move rfl) ?_
                refine dr_light rfl rfl (wtd_none rfl) (x_not rfl) ?_
                refine dr_light rfl rfl (wtd_none rfl) (x_move rfl) ?_
                refine dr_light rfl rfl (wtd_yes rfl rfl rfl) (x_move rfl) ?_
                refine dr_light rfl rfl (wtd_yes rfl rfl rfl) (x_nilCheck rfl) ?_
                refine dr_light rfl rfl (wtd_yes rfl rfl rfl) (x_fieldAddr fd83_0 rfl) ?_
                refine dr_mem0 rfl rfl (wtd_yes rfl rfl rfl) (x_load ag73 rfl (cells_ext (by repeat (first | exact List.mem_cons_self | apply List.mem_cons_of_mem | apply List.mem_append_right)) (by repeat (first | exact Ext.all _ | exact Ext.done | apply Ext.take | apply Ext.skip)))) ?_
                refine dr_light rfl rfl (wtd_yes rfl rfl rfl) (x_move rfl) ?_
                refine dr_light rfl rfl (wtd_yes rfl rfl rfl) (x_indexAddrN j Try.underlying73 sz86 rfl hax rfl (by omega) (by omega)) ?_
                refine dr_light rfl rfl (wtd_yes rfl rfl rfl) (x_fieldAddr fd86_0 rfl) ?_
                refine dr_mem0 rfl rfl (wtd_yes rfl rfl rfl) (x_load ag3 rfl (cells_get (Cells.mono hcx (Sub.takeE0 (by repeat (first | exact TakeE.here | apply TakeE.there | apply TakeE.app)))) 0 rfl)) ?_
                refine dr_light rfl rfl (wtd_yes rfl rfl rfl) (x_move rfl) ?_
                refine dr_light rfl rfl (wtd_yes rfl rfl rfl) (x_move rfl) ?_
                refine dr_light rfl rfl (wtd_yes rfl rfl rfl) (x_indexAddrN k Try.underlying73 sz86 rfl hau rfl (by omega) (by omega)) ?_
                refine dr_light rfl rfl (wtd_yes rfl rfl rfl) (x_fieldAddr fd86_0 rfl) ?_
                refine dr_mem0 rfl rfl (wtd_yes rfl rfl rfl) (x_load ag3 rfl (cells_get (Cells.mono hcu (by repeat (first | exact Sub.refl _ | apply Sub.drop | apply Sub.dropE))) 0 rfl)) ?_
                refine dr_cmp rfl rfl (wtd_yes rfl rfl rfl) (x_gt rfl rfl) (fun h7 => ?_) (fun h7 => ?_)
                · refine dr_light rfl rfl (wtd_none rfl) (x_pick_t rfl rfl rfl) ?_
                  refine dr_nil0 ?_
                  refine aw_keep (keep_cons (t := 1) rfl (keep_cons (t := 4) rfl (keep_cons (t := 5) rfl (keep_cons (t := 6) rfl (keep_cons (t := 7) rfl (keep_cons (t := 8) rfl (keep_cons (t := 9) rfl (keep_cons (t := 10) rfl (keep_cons (t := 32) rfl (keep_cons (t := 33) rfl (keep_cons (t := 34) rfl (keep_cons (t := 35) rfl (keep_cons (t := 36) rfl (keep_cons (t := 37) rfl (keep_cons (t := 38) rfl (keep_cons (t := 41) rfl (keep_cons (t := 42) rfl (keep_cons (t := 43) rfl (keep_cons (t := 44) rfl (keep_cons (t := 45) rfl (keep_cons (t := 46) rfl (keep_cons (t := 47) rfl (keep_cons (t := 48) rfl (keep_cons (t := 49) rfl (keep_cons (t := 50) rfl (keep_cons (t := 51) rfl (keep_cons (t := 52) rfl (keep_cons (t := 53) rfl (keep_cons (t := 54) rfl (keep_cons (t := 55) rfl (keep_cons (t := 56) rfl (keep_cons (t := 57) rfl (keep_cons (t := 58) rfl (keep_cons (t := 59) rfl (keep_cons (t := 60) rfl (keep_cons (t := 61) rfl (keep_cons (t := 62) rfl (keep_cons (t := 63) rfl (keep_cons (t := 64) rfl (keep_cons (t := 65) rfl (keep_cons (t := 66) rfl (keep_cons (t := 67) rfl (keep_cons (t := 68) rfl (keep_cons (t := 69) rfl (keep_cons (t := 70) rfl (keep_cons (t := 71) rfl (keep_cons (t := 72) rfl keep_nil))))))))))))))))))))))))))))))))))))))))))))))) ?_
                  refine aw_true rfl ?_
                  refine aw_seq_region ?_
                  refine sr_x rfl (wtd_none rfl) rfl (Rd.x (x_move rfl)) ?_
                  refine sr_x rfl (wtd_none rfl) rfl (Rd.x (x_move rfl)) ?_
                  refine sr_x rfl (wtd_none rfl) rfl (Rd.x (x_move rfl)) ?_
                  refine sr_x rfl (wtd_none rfl) rfl (Rd.x (x_indexAddrN k Try.underlying73 sz86 rfl hau rfl (by omega) (by omega))) ?_
                  refine sr_x rfl (wtd_none rfl) rfl (Rd.x (x_loadN ag86 sz86 rfl (Cells.mono hcu (by repeat (first | exact Sub.refl _ | apply Sub.drop | apply Sub.dropE))) rfl)) ?_
                  refine sr_new rfl (wtd_none rfl) rfl (x_buildSlice Try.underlying73 sz86 zr86 rfl rfl rfl rfl (by repeat (first | exact Parts.nil | (apply Parts.cons; rfl))) (by repeat (first | exact Fill.done | (apply Fill.part; rfl; rfl; rfl; focus (repeat (first | exact Spl.done | exact Spl.all rfl | apply Spl.put | apply Spl.skip)))))) ?_
                  intro r17_5 hr17_5 gr17_5
                  refine sr_d rfl (wtd_none rfl) rfl (opS_append (G := pk r3_2 (.slice a0 us.length c0) half 0 :: (E ++ G)) (N := u.cells) (m := 1) Try.underlying73 sz86 zr86 rfl by86 rfl rfl V2 (by repeat (first | exact Sub.refl _ | refine Sub.take (by repeat (first | exact Take.here | apply Take.there | apply Take.app)) ?_ | refine Sub.takeE (by repeat (first | exact TakeE.here | apply TakeE.there | apply TakeE.app)) ?_ | exact Sub.nil _ | apply Sub.drop | apply Sub.dropE)) (.inr ⟨_, _, rfl, (cells_ext (by repeat (first | exact List.mem_cons_self | apply List.mem_cons_of_mem | apply List.mem_append_right)) (by repeat (first | exact Ext.all _ | exact Ext.done | apply Ext.take | apply Ext.skip)))⟩) (rfl) rfl (by omega) (by omega)) ?_
                  rintro v79 _ ⟨E79, hV79, rfl⟩
                  obtain ⟨a79, cap79, rfl⟩ := hV79.isSl
                  have hat : At us u.id j := at_here hsrt hx (by omega) (hlt rfl)
                  rw [app_user] at hV79
                  refine sr_x rfl (wtd_none rfl) rfl (Rd.x (x_assign rfl)) ?_
                  refine sr_nil ?_
                  refine aw_keep (keep_cons (t := 1) rfl (keep_cons (t := 4) rfl (keep_cons (t := 5) rfl (keep_cons (t := 6) rfl (keep_cons (t := 7) rfl (keep_cons (t := 8) rfl (keep_cons (t := 9) rfl (keep_cons (t := 10) rfl (keep_cons (t := 32) rfl (keep_cons (t := 33) rfl (keep_cons (t := 34) rfl (keep_cons (t := 35) rfl (keep_cons (t := 36) rfl (keep_cons (t := 37) rfl (keep_cons (t := 38) rfl (keep_cons (t := 41) rfl (keep_cons (t := 42) rfl (keep_cons (t := 43) rfl (keep_cons (t := 44) rfl (keep_cons (t := 45) rfl (keep_cons (t := 46) rfl (keep_cons (t := 47) rfl (keep_cons (t := 48) rfl (keep_cons (t := 49) rfl (keep_cons (t := 50) rfl (keep_cons (t := 51) rfl (keep_cons (t := 52) rfl (keep_cons (t := 53) rfl (keep_cons (t := 54) rfl (keep_cons (t := 55) rfl (keep_cons (t := 56) rfl (keep_cons (t := 57) rfl (keep_cons (t := 58) rfl (keep_cons (t := 59) rfl (keep_cons (t := 60) rfl (keep_cons (t := 61) rfl (keep_cons (t := 62) rfl (keep_cons (t := 63) rfl (keep_cons (t := 64) rfl (keep_cons (t := 65) rfl (keep_cons (t := 66) rfl (keep_cons (t := 67) rfl (keep_cons (t := 68) rfl (keep_cons (t := 69) rfl (keep_cons (t := 70) rfl (keep_cons (t := 71) rfl (keep_cons (t := 72) rfl (keep_cons (t := 73) rfl (keep_cons (t := 74) rfl (keep_cons (t := 75) rfl (keep_cons (t := 76) rfl (keep_cons (t := 77) rfl (keep_cons (t := 78) rfl (keep_cons (t := 79) rfl keep_nil)))))))))))))))))))))))))))))))))))))))))))))))))))))) ?_
                  refine aw_region ?_
                  refine sr_x rfl (wtd_none rfl) rfl (Rd.x (x_assign rfl)) ?_
                  refine sr_nil ?_
                  show AW _ _ _ _ _ _ _
                  refine aw_region ?_
                  refine sr_x rfl (wtd_none rfl) rfl (Rd.x (x_move rfl)) ?_
                  refine sr_x rfl (wtd_none rfl) rfl (Rd.x (x_move rfl)) ?_
                  refine sr_x rfl (wtd_none rfl) rfl (Rd.x (x_nilCheck rfl)) ?_
                  refine sr_x rfl (wtd_none rfl) rfl (Rd.x (x_fieldAddr fd83_0 rfl)) ?_
                  refine sr_x rfl (wtd_none rfl) rfl (Rd.x (x_load ag73 rfl (cells_ext (by repeat (first | exact List.mem_cons_self | apply List.mem_cons_of_mem | apply List.mem_append_right)) (by repeat (first | exact Ext.all _ | exact Ext.done | apply Ext.take | apply Ext.skip))))) ?_
                  refine sr_x rfl (wtd_none rfl) rfl (Rd.x (x_move rfl)) ?_
                  refine sr_x rfl (wtd_none rfl) rfl (Rd.x (x_indexAddrN j Try.underlying73 sz86 rfl hax rfl (by omega) (by omega))) ?_
                  refine sr_x rfl (wtd_none rfl) rfl (Rd.x (x_loadN ag86 sz86 rfl (Cells.mono hcx (Sub.takeE0 (by repeat (first | exact TakeE.here | apply TakeE.there | apply TakeE.app)))) rfl)) ?_
                  refine sr_new rfl (wtd_none rfl) rfl (x_buildSlice Try.underlying73 sz86 zr86 rfl rfl rfl rfl (by repeat (first | exact Parts.nil | (apply Parts.cons; rfl))) (by repeat (first | exact Fill.done | (apply Fill.part; rfl; rfl; rfl; focus (repeat (first | exact Spl.done | exact Spl.all rfl | apply Spl.put | apply Spl.skip)))))) ?_
                  intro r19_8 hr19_8 gr19_8
                  refine sr_d rfl (wtd_none rfl) rfl (opS_append (G := pk r3_2 (.slice a0 us.length c0) half 0 :: (E ++ G)) (N := x.cells) (m := 1) Try.underlying73 sz86 zr86 rfl by86 rfl rfl hV79 (by repeat (first | exact Sub.refl _ | refine Sub.take (by repeat (first | exact Take.here | apply Take.there | apply Take.app)) ?_ | refine Sub.takeE (by repeat (first | exact TakeE.here | apply TakeE.there | apply TakeE.app)) ?_ | exact Sub.nil _ | apply Sub.drop | apply Sub.dropE)) (.inr ⟨_, _, rfl, (cells_ext (by repeat (first | exact List.mem_cons_self | apply List.mem_cons_of_mem | apply List.mem_append_right)) (by repeat (first | exact Ext.all _ | exact Ext.done | apply Ext.take | apply Ext.skip)))⟩) (rfl) rfl (by omega) (by omega)) ?_
                  rintro v89 _ ⟨E89, hV89, rfl⟩
                  obtain ⟨a89, cap89, rfl⟩ := hV89.isSl
                  refine sr_x rfl (wtd_none rfl) rfl (Rd.x (x_assign rfl)) ?_
                  refine sr_nil ?_
                  show AW _ _ _ _ _ _ _
                  refine aw_region ?_
                  refine sr_x rfl (wtd_none rfl) rfl (Rd.x (x_move rfl)) ?_
                  refine sr_x rfl (wtd_none rfl) rfl (Rd.x (x_add' rfl rfl (i64w (by omega) (by omega)))) ?_
                  refine sr_x rfl (wtd_none rfl) rfl (Rd.x (x_assign rfl)) ?_
                  refine sr_nil ?_
                  show ∃ s', _ ∧ _ ∧ _ ∧ _
                  first | exact ⟨⟨j + 1, true, j, _, _⟩, inner_now hx hne hat (by omega) hV89, by dsimp only; omega, (by (repeat (first | exact keep_nil | refine keep_cons rfl ?_)); first | done | fail), (by repeat (first | exact Sub.refl _ | refine Sub.take (by repeat (first | exact Take.here | apply Take.there | apply Take.app)) ?_ | refine Sub.takeE (by repeat (first | exact TakeE.here | apply TakeE.there | apply TakeE.app)) ?_ | exact Sub.nil _ | apply Sub.drop | apply Sub.dropE))⟩ | exact ⟨⟨j + 1, true, m, _, _⟩, inner_put hx hne (hpt rfl) (by omega) hV89, by dsimp only; omega, (by (repeat (first | exact keep_nil | refine keep_cons rfl ?_)); first | done | fail), (by repeat (first | exact Sub.refl _ | refine Sub.take (by repeat (first | exact Take.here | apply Take.there | apply Take.app)) ?_ | refine Sub.takeE (by repeat (first | exact TakeE.here | apply TakeE.there | apply TakeE.app)) ?_ | exact Sub.nil _ | apply Sub.drop | apply Sub.dropE))⟩ | exact ⟨⟨j + 1, false, m, _, _⟩, inner_not hx hne (hlt rfl) (by omega) (by omega) hV89, by dsimp only; omega, (by (repeat (first | exact keep_nil | refine keep_cons rfl ?_)); first | done | fail), (by repeat (first | exact Sub.refl _ | refine Sub.take (by repeat (first | exact Take.here | apply Take.there | apply Take.app)) ?_ | refine Sub.takeE (by repeat (first | exact TakeE.here | apply TakeE.there | apply TakeE.app)) ?_ | exact Sub.nil _ | apply Sub.drop | apply Sub.dropE))⟩
                · refine dr_light rfl rfl (wtd_none rfl) (x_pick_t rfl rfl rfl) ?_
                  refine dr_nil0 ?_
                  refine aw_keep (keep_cons (t := 1) rfl (keep_cons (t := 4) rfl (keep_cons (t := 5) rfl (keep_cons (t := 6) rfl (keep_cons (t := 7) rfl (keep_cons (t := 8) rfl (keep_cons (t := 9) rfl (keep_cons (t := 10) rfl (keep_cons (t := 32) rfl (keep_cons (t := 33) rfl (keep_cons (t := 34) rfl (keep_cons (t := 35) rfl (keep_cons (t := 36) rfl (keep_cons (t := 37) rfl (keep_cons (t := 38) rfl (keep_cons (t := 41) rfl (keep_cons (t := 42) rfl (keep_cons (t := 43) rfl (keep_cons (t := 44) rfl (keep_cons (t := 45) rfl (keep_cons (t := 46) rfl (keep_cons (t := 47) rfl (keep_cons (t := 48) rfl (keep_cons (t := 49) rfl (keep_cons (t := 50) rfl (keep_cons (t := 51) rfl (keep_cons (t := 52) rfl (keep_cons (t := 53) rfl (keep_cons (t := 54) rfl (keep_cons (t := 55) rfl (keep_cons (t := 56) rfl (keep_cons (t := 57) rfl (keep_cons (t := 58) rfl (keep_cons (t := 59) rfl (keep_cons (t := 60) rfl (keep_cons (t := 61) rfl (keep_cons (t := 62) rfl (keep_cons (t := 63) rfl (keep_cons (t := 64) rfl (keep_cons (t := 65) rfl (keep_cons (t := 66) rfl (keep_cons (t := 67) rfl (keep_cons (t := 68) rfl (keep_cons (t := 69) rfl (keep_cons (t := 70) rfl (keep_cons (t := 71) rfl (keep_cons (t := 72) rfl keep_nil))))))))))))))))))))))))))))))))))))))))))))))) ?_
                  refine aw_false rfl ?_
                  refine aw_skip ?_
                  show AW _ _ _ _ _ _ _
                  refine aw_region ?_
                  refine sr_x rfl (wtd_none rfl) rfl (Rd.x (x_move rfl)) ?_
                  refine sr_x rfl (wtd_none rfl) rfl (Rd.x (x_move rfl)) ?_
                  refine sr_x rfl (wtd_none rfl) rfl (Rd.x (x_nilCheck rfl)) ?_
                  refine sr_x rfl (wtd_none rfl) rfl (Rd.x (x_fieldAddr fd83_0 rfl)) ?_
                  refine sr_x rfl (wtd_none rfl) rfl (Rd.x (x_load ag73 rfl (cells_ext (by repeat (first | exact List.mem_cons_self | apply List.mem_cons_of_mem | apply List.mem_append_right)) (by repeat (first | exact Ext.all _ | exact Ext.done | apply Ext.take | apply Ext.skip))))) ?_
                  refine sr_x rfl (wtd_none rfl) rfl (Rd.x (x_move rfl)) ?_
                  refine sr_x rfl (wtd_none rfl) rfl (Rd.x (x_indexAddrN j Try.underlying73 sz86 rfl hax rfl (by omega) (by omega))) ?_
                  refine sr_x rfl (wtd_none rfl) rfl (Rd.x (x_loadN ag86 sz86 rfl (Cells.mono hcx (Sub.takeE0 (by repeat (first | exact TakeE.here | apply TakeE.there | apply TakeE.app)))) rfl)) ?_
                  refine sr_new rfl (wtd_none rfl) rfl (x_buildSlice Try.underlying73 sz86 zr86 rfl rfl rfl rfl (by repeat (first | exact Parts.nil | (apply Parts.cons; rfl))) (by repeat (first | exact Fill.done | (apply Fill.part; rfl; rfl; rfl; focus (repeat (first | exact Spl.done | exact Spl.all rfl | apply Spl.put | apply Spl.skip)))))) ?_
                  intro r19_8 hr19_8 gr19_8
                  refine sr_d rfl (wtd_none rfl) rfl (opS_append (G := pk r3_2 (.slice a0 us.length c0) half 0 :: (E ++ G)) (N := x.cells) (m := 1) Try.underlying73 sz86 zr86 rfl by86 rfl rfl V2 (by repeat (first | exact Sub.refl _ | refine Sub.take (by repeat (first | exact Take.here | apply Take.there | apply Take.app)) ?_ | refine Sub.takeE (by repeat (first | exact TakeE.here | apply TakeE.there | apply TakeE.app)) ?_ | exact Sub.nil _ | apply Sub.drop | apply Sub.dropE)) (.inr ⟨_, _, rfl, (cells_ext (by repeat (first | exact List.mem_cons_self | apply List.mem_cons_of_mem | apply List.mem_append_right)) (by repeat (first | exact Ext.all _ | exact Ext.done | apply Ext.take | apply Ext.skip)))⟩) (rfl) rfl (by omega) (by omega)) ?_
                  rintro v89 _ ⟨E89, hV89, rfl⟩
                  obtain ⟨a89, cap89, rfl⟩ := hV89.isSl
                  refine sr_x rfl (wtd_none rfl) rfl (Rd.x (x_assign rfl)) ?_
                  refine sr_nil ?_
                  show AW _ _ _ _ _ _ _
                  refine aw_region ?_
                  refine sr_x rfl (wtd_none rfl) rfl (Rd.x (x_move rfl)) ?_
                  refine sr_x rfl (wtd_none rfl) rfl (Rd.x (x_add' rfl rfl (i64w (by omega) (by omega)))) ?_
                  refine sr_x rfl (wtd_none rfl) rfl (Rd.x (x_assign rfl)) ?_
                  refine sr_nil ?_
                  show ∃ s', _ ∧ _ ∧ _ ∧ _
                  first | exact ⟨⟨j + 1, true, j, _, _⟩, inner_now hx hne hat (by omega) hV89, by dsimp only; omega, (by (repeat (first | exact keep_nil | refine keep_cons rfl ?_)); first | done | fail), (by repeat (first | exact Sub.refl _ | refine Sub.take (by repeat (first | exact Take.here | apply Take.there | apply Take.app)) ?_ | refine Sub.takeE (by repeat (first | exact TakeE.here | apply TakeE.there | apply TakeE.app)) ?_ | exact Sub.nil _ | apply Sub.drop | apply Sub.dropE))⟩ | exact ⟨⟨j + 1, true, m, _, _⟩, inner_put hx hne (hpt rfl) (by omega) hV89, by dsimp only; omega, (by (repeat (first | exact keep_nil | refine keep_cons rfl ?_)); first | done | fail), (by repeat (first | exact Sub.refl _ | refine Sub.take (by repeat (first | exact Take.here | apply Take.there | apply Take.app)) ?_ | refine Sub.takeE (by repeat (first | exact TakeE.here | apply TakeE.there | apply TakeE.app)) ?_ | exact Sub.nil _ | apply Sub.drop | apply Sub.dropE))⟩ | exact ⟨⟨j + 1, false, m, _, _⟩, inner_not hx hne (hlt rfl) (by omega) (by omega) hV89, by dsimp only; omega, (by (repeat (first | exact keep_nil | refine keep_cons rfl ?_)); first | done | fail), (by repeat (first | exact Sub.refl _ | refine Sub.take (by repeat (first | exact Take.here | apply Take.there | apply Take.app)) ?_ | refine Sub.takeE (by repeat (first | exact TakeE.here | apply TakeE.there | apply TakeE.app)) ?_ | exact Sub.nil _ | apply Sub.drop | apply Sub.dropE))⟩
            · refine sr_nil ?_
              refine aw_keep (keep_cons (t := 1) rfl (keep_cons (t := 4) rfl (keep_cons (t := 5) rfl (keep_cons (t := 6) rfl (keep_cons (t := 7) rfl (keep_cons (t := 8) rfl (keep_cons (t := 9) rfl (keep_cons (t := 10) rfl (keep_cons (t := 32) rfl (keep_cons (t := 33) rfl (keep_cons (t := 34) rfl (keep_cons (t := 35) rfl (keep_cons (t := 36) rfl (keep_cons (t := 37) rfl (keep_cons (t := 38) rfl keep_nil))))))))))))))) ?_
              refine aw_false rfl ?_
              refine aw_exit ?_
              show AW _ _ _ _ _ _ _
              refine aw_seq ?_
              refine aw_seq_region ?_
              refine sr_x rfl (wtd_none rfl) rfl (Rd.x (x_move rfl)) ?_
              refine sr_x rfl (wtd_none rfl) rfl (Rd.x (x_not rfl)) ?_
              refine sr_nil ?_
              refine aw_keep (keep_cons (t := 1) rfl (keep_cons (t := 4) rfl (keep_cons (t := 5) rfl (keep_cons (t := 6) rfl (keep_cons (t := 7) rfl (keep_cons (t := 8) rfl (keep_cons (t := 9) rfl (keep_cons (t := 10) rfl (keep_cons (t := 32) rfl (keep_cons (t := 33) rfl (keep_cons (t := 34) rfl (keep_cons (t := 35) rfl (keep_cons (t := 36) rfl (keep_cons (t := 37) rfl (keep_cons (t := 38) rfl (keep_cons (t := 90) rfl (keep_cons (t := 91) rfl keep_nil))))))))))))))))) ?_
              refine aw_true rfl ?_
              refine aw_region ?_
              refine sr_x rfl (wtd_none rfl) rfl (Rd.x (x_move rfl)) ?_
              refine sr_x rfl (wtd_none rfl) rfl (Rd.x (x_move rfl)) ?_
              refine sr_x rfl (wtd_none rfl) rfl (Rd.x (x_move rfl)) ?_
              refine sr_x rfl (wtd_none rfl) rfl (Rd.x (x_indexAddrN k Try.underlying73 sz86 rfl hau rfl (by omega) (by omega))) ?_
              refine sr_x rfl (wtd_none rfl) rfl (Rd.x (x_loadN ag86 sz86 rfl (Cells.mono hcu (by repeat (first | exact Sub.refl _ | apply Sub.drop | apply Sub.dropE))) rfl)) ?_
              refine sr_new rfl (wtd_none rfl) rfl (x_buildSlice Try.underlying73 sz86 zr86 rfl rfl rfl rfl (by repeat (first | exact Parts.nil | (apply Parts.cons; rfl))) (by repeat (first | exact Fill.done | (apply Fill.part; rfl; rfl; rfl; focus (repeat (first | exact Spl.done | exact Spl.all rfl | apply Spl.put | apply Spl.skip)))))) ?_
              intro r21_5 hr21_5 gr21_5
              refine sr_d rfl (wtd_none rfl) rfl (opS_append (G := pk r3_2 (.slice a0 us.length c0) half 0 :: (E ++ G)) (N := u.cells) (m := 1) Try.underlying73 sz86 zr86 rfl by86 rfl rfl V2 (by repeat (first | exact Sub.refl _ | refine Sub.take (by repeat (first | exact Take.here | apply Take.there | apply Take.app)) ?_ | refine Sub.takeE (by repeat (first | exact TakeE.here | apply TakeE.there | apply TakeE.app)) ?_ | exact Sub.nil _ | apply Sub.drop | apply Sub.dropE)) (.inr ⟨_, _, rfl, (cells_ext (by repeat (first | exact List.mem_cons_self | apply List.mem_cons_of_mem | apply List.mem_append_right)) (by repeat (first | exact Ext.all _ | exact Ext.done | apply Ext.take | apply Ext.skip)))⟩) (rfl) rfl (by omega) (by omega)) ?_
              rintro v98 _ ⟨E98, hV98, rfl⟩
              obtain ⟨a98, cap98, rfl⟩ := hV98.isSl
              rw [app_user] at hV98
              refine sr_x rfl (wtd_none rfl) rfl (Rd.x (x_assign rfl)) ?_
              refine sr_nil ?_
              show AW _ _ _ _ _ _ _
              refine aw_region ?_
              refine sr_x rfl (wtd_none rfl) rfl (Rd.x (x_move rfl)) ?_
              refine sr_x rfl (wtd_none rfl) rfl (Rd.x (x_move rfl)) ?_
              refine sr_x rfl (wtd_none rfl) rfl (Rd.x (x_nilCheck rfl)) ?_
              refine sr_x rfl (wtd_none rfl) rfl (Rd.x (x_fieldAddr fd83_0 rfl)) ?_
              refine sr_x0 rfl (wtd_none rfl) (x_store sz73 rfl rfl rfl rfl rfl (by repeat (first | exact Repl.here | apply Repl.there | apply Repl.app)) (by repeat (first | exact Spl.done | exact Spl.all rfl | apply Spl.put | apply Spl.skip))) ?_
              refine sr_nil ?_
              show AW _ _ _ _ _ _ _
              refine aw_region ?_
              refine sr_x rfl (wtd_none rfl) rfl (Rd.x (x_move rfl)) ?_
              refine sr_x rfl (wtd_none rfl) rfl (Rd.x (x_add' rfl rfl (i64w (by omega) (by omega)))) ?_
              refine sr_x rfl (wtd_none rfl) rfl (Rd.x (x_assign rfl)) ?_
              refine sr_nil ?_
              show ∃ s', _ ∧ _ ∧ _ ∧ _
              first | exact ⟨⟨k + 1, insU us us.length u, _, _⟩, outer_end hgo hu (nd_f (by assumption)) hsrt (by omega) hul (by omega) hne (hlt rfl) hV98, by dsimp only; omega, (by (repeat (first | exact keep_nil | refine keep_cons rfl ?_)); first | done | fail), (by repeat (first | exact Sub.refl _ | refine Sub.take (by repeat (first | exact Take.here | apply Take.there | apply Take.app)) ?_ | refine Sub.takeE (by repeat (first | exact TakeE.here | apply TakeE.there | apply TakeE.app)) ?_ | exact Sub.nil _ | apply Sub.drop | apply Sub.dropE))⟩ | exact ⟨⟨k + 1, insU us m u, _, _⟩, outer_put hgo hu (nd_f (by assumption)) hsrt (by omega) hul (by omega) hne (hpt rfl).1 V2, by dsimp only; omega, (by (repeat (first | exact keep_nil | refine keep_cons rfl ?_)); first | done | fail), (by repeat (first | exact Sub.refl _ | refine Sub.take (by repeat (first | exact Take.here | apply Take.there | apply Take.app)) ?_ | refine Sub.takeE (by repeat (first | exact TakeE.here | apply TakeE.there | apply TakeE.app)) ?_ | exact Sub.nil _ | apply Sub.drop | apply Sub.dropE))⟩
          · have hol := fun pt => outL_len (us := us) (u := u) (m := m) (put := pt) hj
            have hol1 := hol true
            have hol2 := hol false
            obtain ⟨a2, c2, rfl⟩ := V2.isSl
            refine aw_seq ?_
            refine aw_seq_region ?_
            refine sr_x rfl (wtd_none rfl) rfl (Rd.x (x_move rfl)) ?_
            refine sr_x rfl (wtd_none rfl) rfl (Rd.x (x_move rfl)) ?_
            refine sr_x rfl (wtd_none rfl) rfl (Rd.x (x_nilCheck rfl)) ?_
            refine sr_x rfl (wtd_none rfl) rfl (Rd.x (x_fieldAddr fd83_0 rfl)) ?_
            refine sr_x rfl (wtd_none rfl) rfl (Rd.x (x_load ag73 rfl (cells_ext (by repeat (first | exact List.mem_cons_self | apply List.mem_cons_of_mem | apply List.mem_append_right)) (by repeat (first | exact Ext.all _ | exact Ext.done | apply Ext.take | apply Ext.skip))))) ?_
            refine sr_x rfl (wtd_none rfl) rfl (Rd.x (x_lenSlice Try.underlying73 rfl)) ?_
            refine sr_cmp rfl (wtd_none rfl) rfl (Rd.x (x_lt rfl rfl)) (fun h8 => ?_) (fun h8 => ?_)
            · refine sr_nil ?_
              refine aw_keep (keep_cons (t := 1) rfl (keep_cons (t := 4) rfl (keep_cons (t := 5) rfl (keep_cons (t := 6) rfl (keep_cons (t := 7) rfl (keep_cons (t := 8) rfl (keep_cons (t := 9) rfl (keep_cons (t := 10) rfl (keep_cons (t := 32) rfl (keep_cons (t := 33) rfl (keep_cons (t := 34) rfl (keep_cons (t := 35) rfl (keep_cons (t := 36) rfl (keep_cons (t := 37) rfl (keep_cons (t := 38) rfl keep_nil))))))))))))))) ?_
              refine aw_true rfl ?_
              refine aw_skip ?_
              show AW _ _ _ _ _ _ _
              refine aw_seq ?_
              refine aw_block ?_
              refine aw_seq ?_
              refine aw_seq_dr ⟨_, 14, 104, [[], [0], [0, 1], [0, 1, 2], [], [0, 1, 2, 3, 4], [0, 1, 2, 3, 4, 5], [0, 1, 2, 3, 4, 5, 6], [], [], [8, 9], [8, 9, 10], [8, 9, 10, 11], [0, 1, 2, 3, 4, 5, 6, 7, 8, 9, 10, 11, 12]], [.light, .light, .light, .mem, .light, .light, .light, .mem, .light, .light, .light, .light, .mem, .light]⟩ (by kernel_rfl) rfl rfl mix ?_
              obtain ⟨x, hx⟩ := get_ex (show j < us.length by omega)
              obtain ⟨bx, ox, hax, hcx⟩ := (V.slv' (W0 := W0) (fun _ => rfl) rfl (Sub.refl _)).at_ j _ hx
              refine dr_light rfl rfl (wtd_none rfl) (x_move rfl) ?_
              refine dr_light rfl rfl (wtd_none rfl) (x_nilCheck rfl) ?_
              refine dr_light rfl rfl (wtd_none rfl) (x_fieldAddr fd83_0 rfl) ?_
              refine dr_mem0 rfl rfl (wtd_none rfl) (x_load ag73 rfl (cells_ext (by repeat (first | exact List.mem_cons_self | apply List.mem_cons_of_mem | apply List.mem_append_right)) (by repeat (first | exact Ext.all _ | exact Ext.done | apply Ext.take | apply Ext.skip)))) ?_
              refine dr_light rfl rfl (wtd_none rfl) (x_move rfl) ?_
              refine dr_light rfl rfl (wtd_none rfl) (x_indexAddrN j Try.underlying73 sz86 rfl hax rfl (by omega) (by omega)) ?_
              refine dr_light rfl rfl (wtd_none rfl) (x_fieldAddr fd86_0 rfl) ?_
              refine dr_mem0 rfl rfl (wtd_none rfl) (x_load ag3 rfl (cells_get (Cells.mono hcx (Sub.takeE0 (by repeat (first | exact TakeE.here | apply TakeE.there | apply TakeE.app)))) 0 rfl)) ?_
              refine dr_light rfl rfl (wtd_none rfl) (x_move rfl) ?_
              refine dr_light rfl rfl (wtd_none rfl) (x_move rfl) ?_
              refine dr_light rfl rfl (wtd_none rfl) (x_indexAddrN k Try.underlying73 sz86 rfl hau rfl (by omega) (by omega)) ?_
              refine dr_light rfl rfl (wtd_none rfl) (x_fieldAddr fd86_0 rfl) ?_
              refine dr_mem0 rfl rfl (wtd_none rfl) (x_load ag3 rfl (cells_get (Cells.mono hcu (by repeat (first | exact Sub.refl _ | apply Sub.drop | apply Sub.dropE))) 0 rfl)) ?_
              refine dr_cmp rfl rfl (wtd_none rfl) (x_eq rfl rfl) (fun h9 => ?_) (fun h9 => ?_)
              · refine dr_nil0 ?_
                refine aw_keep (keep_cons (t := 1) rfl (keep_cons (t := 4) rfl (keep_cons (t := 5) rfl (keep_cons (t := 6) rfl (keep_cons (t := 7) rfl (keep_cons (t := 8) rfl (keep_cons (t := 9) rfl (keep_cons (t := 10) rfl (keep_cons (t := 32) rfl (keep_cons (t := 33) rfl (keep_cons (t := 34) rfl (keep_cons (t := 35) rfl (keep_cons (t := 36) rfl (keep_cons (t := 37) rfl (keep_cons (t := 38) rfl (keep_cons (t := 41) rfl (keep_cons (t := 42) rfl (keep_cons (t := 43) rfl (keep_cons (t := 44) rfl (keep_cons (t := 45) rfl (keep_cons (t := 46) rfl (keep_cons (t := 47) rfl (keep_cons (t := 48) rfl (keep_cons (t := 49) rfl (keep_cons (t := 50) rfl (keep_cons (t := 51) rfl (keep_cons (t := 52) rfl (keep_cons (t := 53) rfl (keep_cons (t := 54) rfl keep_nil))))))))))))))))))))))))))))) ?_
                refine aw_true rfl ?_
                refine aw_seq_region ?_
                refine sr_x rfl (wtd_none rfl) rfl (Rd.x (x_assign rfl)) ?_
                refine sr_x rfl (wtd_none rfl) rfl (Rd.x (x_assign rfl)) ?_
                refine sr_nil ?_
                refine aw_keep (keep_cons (t := 1) rfl (keep_cons (t := 4) rfl (keep_cons (t := 5) rfl (keep_cons (t := 6) rfl (keep_cons (t := 7) rfl (keep_cons (t := 8) rfl (keep_cons (t := 9) rfl (keep_cons (t := 10) rfl (keep_cons (t := 32) rfl (keep_cons (t := 33) rfl (keep_cons (t := 34) rfl (keep_cons (t := 35) rfl (keep_cons (t := 36) rfl (keep_cons (t := 37) rfl (keep_cons (t := 38) rfl (keep_cons (t := 41) rfl (keep_cons (t := 42) rfl (keep_cons (t := 43) rfl (keep_cons (t := 44) rfl (keep_cons (t := 45) rfl (keep_cons (t := 46) rfl (keep_cons (t := 47) rfl (keep_cons (t := 48) rfl (keep_cons (t := 49) rfl (keep_cons (t := 50) rfl (keep_cons (t := 51) rfl (keep_cons (t := 52) rfl (keep_cons (t := 53) rfl (keep_cons (t := 54) rfl keep_nil))))))))))))))))))))))))))))) ?_
                refine aw_ret ?_
                show ∃ v H2, ResV _ _ _ _ _ _ v ∧ Sub H2 _ ∧ _
                first | exact ⟨_, G, resV rfl (.cons rfl (.cons rfl .nil)), Sub.refl _, .inl ⟨by omega, rfl, rfl⟩⟩ | exact ⟨_, G, resV rfl (.cons rfl (.cons rfl .nil)), (by (repeat (first | exact Sub.refl _ | refine Sub.take (by repeat (first | exact Take.here | apply Take.there | apply Take.app)) ?_ | refine Sub.takeE (by repeat (first | exact TakeE.here | apply TakeE.there | apply TakeE.app)) ?_ | exact Sub.nil _ | apply Sub.drop | apply Sub.dropE)); first | done | fail), .inr (.inl ⟨by omega, 5, us, hgo.stop hu (.bad (nd_t ‹(!decide (URight u)) = true›)) (by decide), by decide, rfl, rfl⟩)⟩ | exact ⟨_, G, resV rfl (.cons rfl (.cons rfl .nil)), (by (repeat (first | exact Sub.refl _ | refine Sub.take (by repeat (first | exact Take.here | apply Take.there | apply Take.app)) ?_ | refine Sub.takeE (by repeat (first | exact TakeE.here | apply TakeE.there | apply TakeE.app)) ?_ | exact Sub.nil _ | apply Sub.drop | apply Sub.dropE)); first | done | fail), .inr (.inl ⟨by omega, 13, us, hgo.stop hu (.twice (nd_f ‹(!decide (URight u)) = false›) ⟨x, List.mem_of_getElem? hx, by assumption⟩) (by decide), by decide, rfl, rfl⟩)⟩ | exact ⟨_, pk r3_2 (.slice a0 us.length c0) half 0 :: (E ++ G), resV rfl (.cons rfl (.cons rfl .nil)), Sub.refl _, .inr (.inr ⟨by omega, us, _, _, _, hgo.done (by omega), V, rfl, rfl⟩)⟩
              · refine dr_nil0 ?_
                refine aw_keep (keep_cons (t := 1) rfl (keep_cons (t := 4) rfl (keep_cons (t := 5) rfl (keep_cons (t := 6) rfl (keep_cons (t := 7) rfl (keep_cons (t := 8) rfl (keep_cons (t := 9) rfl (keep_cons (t := 10) rfl (keep_cons (t := 32) rfl (keep_cons (t := 33) rfl (keep_cons (t := 34) rfl (keep_cons (t := 35) rfl (keep_cons (t := 36) rfl (keep_cons (t := 37) rfl (keep_cons (t := 38) rfl (keep_cons (t := 41) rfl (keep_cons (t := 42) rfl (keep_cons (t := 43) rfl (keep_cons (t := 44) rfl (keep_cons (t := 45) rfl (keep_cons (t := 46) rfl (keep_cons (t := 47) rfl (keep_cons (t := 48) rfl (keep_cons (t := 49) rfl (keep_cons (t := 50) rfl (keep_cons (t := 51) rfl (keep_cons (t := 52) rfl (keep_cons (t := 53) rfl (keep_cons (t := 54) rfl keep_nil))))))))))))))))))))))))))))) ?_
                refine aw_false rfl ?_
                refine aw_skip ?_
                show AW _ _ _ _ _ _ _
                refine aw_seq ?_
                refine aw_seq_dr ⟨_, 18, 104, [[], [0], [0, 1], [0, 1, 2], [0, 1, 2, 3], [0, 1, 2, 3, 4], [0, 1, 2, 3, 4, 5], [0, 1, 2], [0, 1, 2, 3, 4, 5, 6, 7], [0, 1, 2, 3, 4, 5, 6, 7, 8], [0, 1, 2, 3, 4, 5, 6, 7, 8, 9], [0, 1, 2], [0, 1, 2], [0, 1, 2, 11, 12], [0, 1, 2, 11, 12, 13], [0, 1, 2, 11, 12, 13, 14], [0, 1, 2, 3, 4, 5, 6, 7, 8, 9, 10, 11, 12, 13, 14, 15], [0, 1, 2, 3, 4, 5, 6, 7, 8, 9, 10, 11, 12, 13, 14, 15, 16]], [.light, .light, .light, .light, .light, .light, .mem, .light, .light, .light, .mem, .light, .light, .light, .light, .mem, .light, .light]⟩ (by kernel_rfl) rfl rfl mix ?_
                refine dr_light rfl rfl (wtd_none rfl) (x_move rfl) ?_
                refine dr_light rfl rfl (wtd_none rfl) (x_not rfl) ?_
                refine dr_light rfl rfl (wtd_none rfl) (x_move rfl) ?_
                refine dr_skip rfl (wtd_no rfl rfl rfl rfl) ?_
                refine dr_skip rfl (wtd_no rfl rfl rfl rfl) ?_
                refine dr_skip rfl (wtd_no rfl rfl rfl rfl) ?_
                refine dr_skip rfl (wtd_no rfl rfl rfl rfl) ?_
                refine dr_skip rfl (wtd_no rfl rfl rfl rfl) ?_
                refine dr_skip rfl (wtd_no rfl rfl rfl rfl) ?_
                refine dr_skip rfl (wtd_no rfl rfl rfl rfl) ?_
                refine dr_skip rfl (wtd_no rfl rfl rfl rfl) ?_
                refine dr_skip rfl (wtd_no rfl rfl rfl rfl) ?_
                refine dr_skip rfl (wtd_no rfl rfl rfl rfl) ?_
                refine dr_skip rfl (wtd_no rfl rfl rfl rfl) ?_
                refine dr_skip rfl (wtd_no rfl rfl rfl rfl) ?_
                refine dr_skip rfl (wtd_no rfl rfl rfl rfl) ?_
                refine dr_skip rfl (wtd_no rfl rfl rfl rfl) ?_
                refine dr_light rfl rfl (wtd_none rfl) (x_pick_f rfl rfl rfl) ?_
                refine dr_nil0 ?_
                refine aw_keep (keep_cons (t := 1) rfl (keep_cons (t := 4) rfl (keep_cons (t := 5) rfl (keep_cons (t := 6) rfl (keep_cons (t := 7) rfl (keep_cons (t := 8) rfl (keep_cons (t := 9) rfl (keep_cons (t := 10) rfl (keep_cons (t := 32) rfl (keep_cons (t := 33) rfl (keep_cons (t := 34) rfl (keep_cons (t := 35) rfl (keep_cons (t := 36) rfl (keep_cons (t := 37) rfl (keep_cons (t := 38) rfl (keep_cons (t := 41) rfl (keep_cons (t := 42) rfl (keep_cons (t := 43) rfl (keep_cons (t := 44) rfl (keep_cons (t := 45) rfl (keep_cons (t := 46) rfl (keep_cons (t := 47) rfl (keep_cons (t := 48) rfl (keep_cons (t := 49) rfl (keep_cons (t := 50) rfl (keep_cons (t := 51) rfl (keep_cons (t := 52) rfl (keep_cons (t := 53) rfl (keep_cons (t := 54) rfl (keep_cons (t := 55) rfl (keep_cons (t := 56) rfl (keep_cons (t := 57) rfl (keep_cons (t := 58) rfl (keep_cons (t := 59) rfl (keep_cons (t := 60) rfl (keep_cons (t := 61) rfl (keep_cons (t := 62) rfl (keep_cons (t := 63) rfl (keep_cons (t := 64) rfl (keep_cons (t := 65) rfl (keep_cons (t := 66) rfl (keep_cons (t := 67) rfl (keep_cons (t := 68) rfl (keep_cons (t := 69) rfl (keep_cons (t := 70) rfl (keep_cons (t := 71) rfl (keep_cons (t := 72) rfl keep_nil))))))))))))))))))))))))))))))))))))))))))))))) ?_
                refine aw_false rfl ?_
                refine aw_skip ?_
                show AW _ _ _ _ _ _ _
                refine aw_region ?_
                refine sr_x rfl (wtd_none rfl) rfl (Rd.x (x_move rfl)) ?_
                refine sr_x rfl (wtd_none rfl) rfl (Rd.x (x_move rfl)) ?_
                refine sr_x rfl (wtd_none rfl) rfl (Rd.x (x_nilCheck rfl)) ?_
                refine sr_x rfl (wtd_none rfl) rfl (Rd.x (x_fieldAddr fd83_0 rfl)) ?_
                refine sr_x rfl (wtd_none rfl) rfl (Rd.x (x_load ag73 rfl (cells_ext (by repeat (first | exact List.mem_cons_self | apply List.mem_cons_of_mem | apply List.mem_append_right)) (by repeat (first | exact Ext.all _ | exact Ext.done | apply Ext.take | apply Ext.skip))))) ?_
                refine sr_x rfl (wtd_none rfl) rfl (Rd.x (x_move rfl)) ?_
                refine sr_x rfl (wtd_none rfl) rfl (Rd.x (x_indexAddrN j Try.underlying73 sz86 rfl hax rfl (by omega) (by omega))) ?_
                refine sr_x rfl (wtd_none rfl) rfl (Rd.x (x_loadN ag86 sz86 rfl (Cells.mono hcx (Sub.takeE0 (by repeat (first | exact TakeE.here | apply TakeE.there | apply TakeE.app)))) rfl)) ?_
                refine sr_new rfl (wtd_none rfl) rfl (x_buildSlice Try.underlying73 sz86 zr86 rfl rfl rfl rfl (by repeat (first | exact Parts.nil | (apply Parts.cons; rfl))) (by repeat (first | exact Fill.done | (apply Fill.part; rfl; rfl; rfl; focus (repeat (first | exact Spl.done | exact Spl.all rfl | apply Spl.put | apply Spl.skip)))))) ?_
                intro r19_8 hr19_8 gr19_8
                refine sr_d rfl (wtd_none rfl) rfl (opS_append (G := pk r3_2 (.slice a0 us.length c0) half 0 :: (E ++ G)) (N := x.cells) (m := 1) Try.underlying73 sz86 zr86 rfl by86 rfl rfl V2 (by repeat (first | exact Sub.refl _ | refine Sub.take (by repeat (first | exact Take.here | apply Take.there | apply Take.app)) ?_ | refine Sub.takeE (by repeat (first | exact TakeE.here | apply TakeE.there | apply TakeE.app)) ?_ | exact Sub.nil _ | apply Sub.drop | apply Sub.dropE)) (.inr ⟨_, _, rfl, (cells_ext (by repeat (first | exact List.mem_cons_self | apply List.mem_cons_of_mem | apply List.mem_append_right)) (by repeat (first | exact Ext.all _ | exact Ext.done | apply Ext.take | apply Ext.skip)))⟩) (rfl) rfl (by omega) (by omega)) ?_
                rintro v89 _ ⟨E89, hV89, rfl⟩
                obtain ⟨a89, cap89, rfl⟩ := hV89.isSl
                refine sr_x rfl (wtd_none rfl) rfl (Rd.x (x_assign rfl)) ?_
                refine sr_nil ?_
                show AW _ _ _ _ _ _ _
                refine aw_region ?_
                refine sr_x rfl (wtd_none rfl) rfl (Rd.x (x_move rfl)) ?_
                refine sr_x rfl (wtd_none rfl) rfl (Rd.x (x_add' rfl rfl (i64w (by omega) (by omega)))) ?_
                refine sr_x rfl (wtd_none rfl) rfl (Rd.x (x_assign rfl)) ?_
                refine sr_nil ?_
                show ∃ s', _ ∧ _ ∧ _ ∧ _
                first | exact ⟨⟨j + 1, true, j, _, _⟩, inner_now hx hne hat (by omega) hV89, by dsimp only; omega, (by (repeat (first | exact keep_nil | refine keep_cons rfl ?_)); first | done | fail), (by repeat (first | exact Sub.refl _ | refine Sub.take (by repeat (first | exact Take.here | apply Take.there | apply Take.app)) ?_ | refine Sub.takeE (by repeat (first | exact TakeE.here | apply TakeE.there | apply TakeE.app)) ?_ | exact Sub.nil _ | apply Sub.drop | apply Sub.dropE))⟩ | exact ⟨⟨j + 1, true, m, _, _⟩, inner_put hx hne (hpt rfl) (by omega) hV89, by dsimp only; omega, (by (repeat (first | exact keep_nil | refine keep_cons rfl ?_)); first | done | fail), (by repeat (first | exact Sub.refl _ | refine Sub.take (by repeat (first | exact Take.here | apply Take.there | apply Take.app)) ?_ | refine Sub.takeE (by repeat (first | exact TakeE.here | apply TakeE.there | apply TakeE.app)) ?_ | exact Sub.nil _ | apply Sub.drop | apply Sub.dropE))⟩ | exact ⟨⟨j + 1, false, m, _, _⟩, inner_not hx hne (hlt rfl) (by omega) (by omega) hV89, by dsimp only; omega, (by (repeat (first | exact keep_nil | refine keep_cons rfl ?_)); first | done | fail), (by repeat (first | exact Sub.refl _ | refine Sub.take (by repeat (first | exact Take.here | apply Take.there | apply Take.app)) ?_ | refine Sub.takeE (by repeat (first | exact TakeE.here | apply TakeE.there | apply TakeE.app)) ?_ | exact Sub.nil _ | apply Sub.drop | apply Sub.dropE))⟩
            · refine sr_nil ?_
              refine aw_keep (keep_cons (t := 1) rfl (keep_cons (t := 4) rfl (keep_cons (t := 5) rfl (keep_cons (t := 6) rfl (keep_cons (t := 7) rfl (keep_cons (t := 8) rfl (keep_cons (t := 9) rfl (keep_cons (t := 10) rfl (keep_cons (t := 32) rfl (keep_cons (t := 33) rfl (keep_cons (t := 34) rfl (keep_cons (t := 35) rfl (keep_cons (t := 36) rfl (keep_cons (t := 37) rfl (keep_cons (t := 38) rfl keep_nil))))))))))))))) ?_
              refine aw_false rfl ?_
              refine aw_exit ?_
              show AW _ _ _ _ _ _ _
              refine aw_seq ?_
              refine aw_seq_region ?_
              refine sr_x rfl (wtd_none rfl) rfl (Rd.x (x_move rfl)) ?_
              refine sr_x rfl (wtd_none rfl) rfl (Rd.x (x_not rfl)) ?_
              refine sr_nil ?_
              refine aw_keep (keep_cons (t := 1) rfl (keep_cons (t := 4) rfl (keep_cons (t := 5) rfl (keep_cons (t := 6) rfl (keep_cons (t := 7) rfl (keep_cons (t := 8) rfl (keep_cons (t := 9) rfl (keep_cons (t := 10) rfl (keep_cons (t := 32) rfl (keep_cons (t := 33) rfl (keep_cons (t := 34) rfl (keep_cons (t := 35) rfl (keep_cons (t := 36) rfl (keep_cons (t := 37) rfl (keep_cons (t := 38) rfl (keep_cons (t := 90) rfl (keep_cons (t := 91) rfl keep_nil))))))))))))))))) ?_
              refine aw_false rfl ?_
              refine aw_skip ?_
              show AW _ _ _ _ _ _ _
              refine aw_region ?_
              refine sr_x rfl (wtd_none rfl) rfl (Rd.x (x_move rfl)) ?_
              refine sr_x rfl (wtd_none rfl) rfl (Rd.x (x_move rfl)) ?_
              refine sr_x rfl (wtd_none rfl) rfl (Rd.x (x_nilCheck rfl)) ?_
              refine sr_x rfl (wtd_none rfl) rfl (Rd.x (x_fieldAddr fd83_0 rfl)) ?_
              refine sr_x0 rfl (wtd_none rfl) (x_store sz73 rfl rfl rfl rfl rfl (by repeat (first | exact Repl.here | apply Repl.there | apply Repl.app)) (by repeat (first | exact Spl.done | exact Spl.all rfl | apply Spl.put | apply Spl.skip))) ?_
              refine sr_nil ?_
              show AW _ _ _ _ _ _ _
              refine aw_region ?_
              refine sr_x rfl (wtd_none rfl) rfl (Rd.x (x_move rfl)) ?_
              refine sr_x rfl (wtd_none rfl) rfl (Rd.x (x_add' rfl rfl (i64w (by omega) (by omega)))) ?_
              refine sr_x rfl (wtd_none rfl) rfl (Rd.x (x_assign rfl)) ?_
              refine sr_nil ?_
              show ∃ s', _ ∧ _ ∧ _ ∧ _
              first | exact ⟨⟨k + 1, insU us us.length u, _, _⟩, outer_end hgo hu (nd_f (by assumption)) hsrt (by omega) hul (by omega) hne (hlt rfl) hV98, by dsimp only; omega, (by (repeat (first | exact keep_nil | refine keep_cons rfl ?_)); first | done | fail), (by repeat (first | exact Sub.refl _ | refine Sub.take (by repeat (first | exact Take.here | apply Take.there | apply Take.app)) ?_ | refine Sub.takeE (by repeat (first | exact TakeE.here | apply TakeE.there | apply TakeE.app)) ?_ | exact Sub.nil _ | apply Sub.drop | apply Sub.dropE))⟩ | exact ⟨⟨k + 1, insU us m u, _, _⟩, outer_put hgo hu (nd_f (by assumption)) hsrt (by omega) hul (by omega) hne (hpt rfl).1 V2, by dsimp only; omega, (by (repeat (first | exact keep_nil | refine keep_cons rfl ?_)); first | done | fail), (by repeat (first | exact Sub.refl _ | refine Sub.take (by repeat (first | exact Take.here | apply Take.there | apply Take.app)) ?_ | refine Sub.takeE (by repeat (first | exact TakeE.here | apply TakeE.there | apply TakeE.app)) ?_ | exact Sub.nil _ | apply Sub.drop | apply Sub.dropE))⟩
      · refine sr_nil ?_
        refine aw_keep (keep_cons (t := 1) rfl (keep_cons (t := 4) rfl (keep_cons (t := 5) rfl (keep_cons (t := 6) rfl (keep_cons (t := 7) rfl (keep_cons (t := 20) rfl (keep_cons (t := 21) rfl (keep_cons (t := 22) rfl (keep_cons (t := 23) rfl keep_nil))))))))) ?_
        refine aw_false rfl ?_
        refine aw_exit ?_
        show AW _ _ _ _ _ _ _
        refine aw_seq_region ?_
        refine sr_x rfl (wtd_none rfl) rfl (Rd.x (x_move rfl)) ?_
        refine sr_x rfl (wtd_none rfl) rfl (Rd.x (x_assign rfl)) ?_
        refine sr_x rfl (wtd_none rfl) rfl (Rd.x (x_assign rfl)) ?_
        refine sr_nil ?_
        refine aw_keep (keep_cons (t := 4) rfl (keep_cons (t := 5) rfl keep_nil)) ?_
        refine aw_ret ?_
        show ∃ v H2, ResV _ _ _ _ _ _ v ∧ Sub H2 _ ∧ _
        first | exact ⟨_, G, resV rfl (.cons rfl (.cons rfl .nil)), Sub.refl _, .inl ⟨by omega, rfl, rfl⟩⟩ | exact ⟨_, G, resV rfl (.cons rfl (.cons rfl .nil)), (by (repeat (first | exact Sub.refl _ | refine Sub.take (by repeat (first | exact Take.here | apply Take.there | apply Take.app)) ?_ | refine Sub.takeE (by repeat (first | exact TakeE.here | apply TakeE.there | apply TakeE.app)) ?_ | exact Sub.nil _ | apply Sub.drop | apply Sub.dropE)); first | done | fail), .inr (.inl ⟨by omega, 5, us, hgo.stop hu (.bad (nd_t ‹(!decide (URight u)) = true›)) (by decide), by decide, rfl, rfl⟩)⟩ | exact ⟨_, G, resV rfl (.cons rfl (.cons rfl .nil)), (by (repeat (first | exact Sub.refl _ | refine Sub.take (by repeat (first | exact Take.here | apply Take.there | apply Take.app)) ?_ | refine Sub.takeE (by repeat (first | exact TakeE.here | apply TakeE.there | apply TakeE.app)) ?_ | exact Sub.nil _ | apply Sub.drop | apply Sub.dropE)); first | done | fail), .inr (.inl ⟨by omega, 13, us, hgo.stop hu (.twice (nd_f ‹(!decide (URight u)) = false›) ⟨x, List.mem_of_getElem? hx, by assumption⟩) (by decide), by decide, rfl, rfl⟩)⟩ | exact ⟨_, pk r3_2 (.slice a0 us.length c0) half 0 :: (E ++ G), resV rfl (.cons rfl (.cons rfl .nil)), Sub.refl _, .inr (.inr ⟨by omega, us, _, _, _, hgo.done (by omega), V, rfl, rfl⟩)⟩
end
end Go.Proofs.Yteilocpjikmmdaa
