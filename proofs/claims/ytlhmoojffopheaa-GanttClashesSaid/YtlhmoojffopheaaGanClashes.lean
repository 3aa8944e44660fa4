/- For any jobs Clash tells the first two that have one node at one time, as the law's own loops find them, and the law returns true; no condition. -/
import Derived.Test.YtlhmoojffopheaaGaw
import Derived.Test.YtlhmoojffopheaaRows
namespace Go.Proofs.Ytlhmoojffopheaa
open Go.Proofs.Ytlhmoojffopheaa.Sym
open Go.RowKit (Below)
set_option linter.unusedVariables false
set_option linter.unusedSimpArgs false
def Com (a b : Int) (n : Nat) (c : Bool) : Prop := c = true ↔ ∃ m : Nat, m < n ∧ hasB a m = true ∧ hasB b m = true
theorem com_0 {a b : Int} : Com a b 0 false := by unfold Com; simp
theorem com_t {a b : Int} {n : Nat} (h : Com a b n true) : Com a b (n + 1) true := by
  unfold Com at *
  obtain ⟨m, h1, h2⟩ := h.1 rfl
  exact ⟨fun _ => ⟨m, by omega, h2⟩, fun _ => rfl⟩
theorem com_st {a b : Int} {n : Nat} {c d : Bool} (h : Com a b n false) (hc : c = hasB a n) (hd : d = hasB b n) : Com a b (n + 1) (c && d) := by
  unfold Com at *
  rw [Bool.and_eq_true]
  refine ⟨fun ⟨h1, h2⟩ => ⟨n, by omega, by rw [← hc, h1], by rw [← hd, h2]⟩, fun ⟨m, h1, h2, h3⟩ => ?_⟩
  rcases Nat.lt_or_eq_of_le (Nat.le_of_lt_succ h1) with h4 | h4
  · have := h.2 ⟨m, h4, h2, h3⟩; cases this
  · subst h4; exact ⟨by rw [hc, h2], by rw [hd, h3]⟩
theorem com_ff {a b : Int} {n : Nat} (h : Com a b n false) (hc : false = hasB a n) : Com a b (n + 1) false := com_st (d := hasB b n) h hc rfl
theorem com_tt {a b : Int} {n : Nat} (h : Com a b n false) (hc : true = hasB a n) (hd : true = hasB b n) : Com a b (n + 1) true := com_st h hc hd
theorem com_tf {a b : Int} {n : Nat} (h : Com a b n false) (hc : true = hasB a n) (hd : false = hasB b n) : Com a b (n + 1) false := com_st h hc hd
theorem and_ne {a b : Nat} (ha : a < 2 ^ 64) : a &&& b ≠ 0 ↔ ∃ m, m < 64 ∧ a.testBit m = true ∧ b.testBit m = true := by
  constructor
  · intro h
    obtain ⟨i, hi⟩ := Nat.exists_testBit_of_ne_zero h
    rw [Nat.testBit_and, Bool.and_eq_true] at hi
    refine ⟨i, ?_, hi⟩
    rcases Nat.lt_or_ge i 64 with h1 | h1
    · exact h1
    · have := Nat.testBit_lt_two_pow (Nat.lt_of_lt_of_le ha (Nat.pow_le_pow_right (by omega) h1))
      rw [this] at hi; cases hi.1
  · rintro ⟨m, _, h1, h2⟩ h0
    have : (a &&& b).testBit m = true := by rw [Nat.testBit_and, h1, h2]; rfl
    rw [h0] at this; simp at this
def NodesOk (j : Job) : Prop := 0 ≤ j.nodes ∧ j.nodes ≤ 18446744073709551615
theorem wf_nodes {j : Job} (h : j.Wf) : 0 ≤ j.nodes ∧ j.nodes ≤ 18446744073709551615 := by
  unfold Job.Wf at h; rw [u64_min, u64_max] at h; omega
theorem hasB_nat {a : Int} {m : Nat} (hm : m < 64) : hasB a m = true ↔ a.toNat.testBit m = true := by
  unfold hasB
  simp; omega
theorem com_iff {x y : Job} {n : Nat} {c : Bool} (hx : 0 ≤ x.nodes ∧ x.nodes ≤ 18446744073709551615) (hy : 0 ≤ y.nodes ∧ y.nodes ≤ 18446744073709551615) (h : Com x.nodes y.nodes n c) (hn : n = 64) : c = true ↔ ((y.nodes.toNat &&& x.nodes.toNat : Nat) : Int) ≠ 0 := by
  subst hn
  unfold Com at h
  rw [h, show (((y.nodes.toNat &&& x.nodes.toNat : Nat) : Int) ≠ 0 ↔ x.nodes.toNat &&& y.nodes.toNat ≠ 0) by rw [Nat.and_comm]; omega, and_ne (by omega)]
  constructor
  · rintro ⟨m, h1, h2, h3⟩; exact ⟨m, h1, (hasB_nat h1).1 h2, (hasB_nat h1).1 h3⟩
  · rintro ⟨m, h1, h2, h3⟩; exact ⟨m, h1, (hasB_nat h1).2 h2, (hasB_nat h1).2 h3⟩
theorem com_yes {x y : Job} {n : Nat} (hx : 0 ≤ x.nodes ∧ x.nodes ≤ 18446744073709551615) (hy : 0 ≤ y.nodes ∧ y.nodes ≤ 18446744073709551615) (h : Com x.nodes y.nodes n true) (hn : n = 64) : ((y.nodes.toNat &&& x.nodes.toNat : Nat) : Int) ≠ 0 := (com_iff hx hy h hn).1 rfl
theorem com_no {x y : Job} {n : Nat} (hx : 0 ≤ x.nodes ∧ x.nodes ≤ 18446744073709551615) (hy : 0 ≤ y.nodes ∧ y.nodes ≤ 18446744073709551615) (h : Com x.nodes y.nodes n false) (hn : n = 64) : ¬ ((y.nodes.toNat &&& x.nodes.toNat : Nat) : Int) ≠ 0 := fun h2 => by cases (com_iff hx hy h hn).2 h2
theorem get_ex {α : Type} {xs : List α} {i : Nat} (h : i < xs.length) : ∃ x, xs[i]? = some x := ⟨_, List.getElem?_eq_getElem h⟩
theorem hit_lt {ys : List Job} {k i : Nat} {x y : Job} (hx : ys[k]? = some x) : k < ys.length := (List.getElem?_eq_some_iff.1 hx).1
theorem first_uniq {ys : List Job} {kk ii k i : Nat} {x y : Job} (h : FirstHit ys kk ii) (hx : ys[k]? = some x) (hy : ys[i]? = some y) (hki : k < i) (hh : hit y x)
    (h1 : ∀ k' i' x y, ys[k']? = some x → ys[i']? = some y → k' < i' → i' < i → ¬ hit y x) (h2 : ∀ k' x y, ys[k']? = some x → ys[i]? = some y → k' < k → ¬ hit y x) : kk = k ∧ ii = i := by
  obtain ⟨⟨u, v, g1, g2, g3, g4⟩, g5⟩ := h
  have hi : ¬ ii < i := fun q => h1 kk ii u v g1 g2 g3 q g4
  have hi2 : ¬ i < ii := fun q => g5 k i x y hx hy hki (.inl q) hh
  have e : ii = i := by omega
  subst e
  have hk : ¬ kk < k := fun q => h2 kk u v g1 g2 q g4
  have hk2 : ¬ k < kk := fun q => g5 k ii x y hx hy hki (.inr ⟨rfl, q⟩) hh
  exact ⟨by omega, rfl⟩
set_option maxRecDepth 100000 in
set_option linter.all false in
theorem open_Jobs {H : Type} {enc : TypeId × Value → H} {w : World} {base b0 : Nat} {spare : Nat → Bool} {held : Bool} {v : Value} {d : DataW H} {p : List MemPlace} {r : Reach} (hv : Value.okWide Try.prog w r b0 22 v) (h : DataW.Trod enc Try.prog w base spare held 22 v d p) : ∃ a cap xs, v = .slice a xs.length cap ∧ (∀ G, SlV w G 10 Job.cells a cap xs) ∧ ∀ y ∈ xs, Job.Wf y := by
  obtain ⟨fuel, hf⟩ := h
  obtain ⟨a, cap, xs, h1, h2, h3⟩ := read_slice Try.underlying22 cells28 (by omega) (fun fuel cs x h => read_Job h) hf
  refine ⟨a, cap, xs, ?_, h2, h3⟩
  obtain ⟨a', len, cap', rfl⟩ := Go.WideShapes.okWide_slice Try.underlying22 hv
  have h4 : [Value.slice a' len cap'] = [.slice a xs.length cap] := h1
  exact (List.cons.inj h4).1
theorem cl13 : Callable Try.prog 13 := ⟨Try.f13, Try.func13, by kernel_rfl, by kernel_rfl⟩
theorem cl14 : Callable Try.prog 14 := ⟨Try.f14, Try.func14, by kernel_rfl, by kernel_rfl⟩
theorem cl16 : Callable Try.prog 16 := ⟨Try.f16, Try.func16, by kernel_rfl, by kernel_rfl⟩
section
variable {W0 : World}
set_option maxRecDepth 100000 in
set_option maxHeartbeats 2000000 in
theorem ganttClashes_s (a : Option Addr) (cap : Nat) (xs : List Job) (hs : SlV W0 [] 10 Job.cells a cap xs) (hwf : ∀ j ∈ xs, j.Wf) : AC Try.prog W0 3 [.slice a xs.length cap] [] (fun v _ => v = .bool true) := by
  have hle := hs.le
  have hcb := hs.capb
  have hl20 := (hs.take 20).le
  refine ac_of Try.func3 rfl rfl rfl ?_
  refine aw_seq_region ?_
  refine sr_x rfl (wtd_none rfl) rfl (Rd.x (x_assign rfl)) ?_
  refine sr_nil ?_
  refine aw_keep (keep_cons (t := 0) rfl (keep_cons (t := 2) rfl keep_nil)) ?_
  refine aw_seq_region ?_
  refine sr_x rfl (wtd_none rfl) rfl (Rd.x (x_move rfl)) ?_
  refine sr_d rfl (wtd_none rfl) rfl (opS_call rfl rfl rfl rfl cl13 (few_s _ _ _ _ (by omega) (by omega))) ?_
  rintro _ _ ⟨rfl, rfl⟩
  refine sr_x rfl (wtd_none rfl) rfl (Rd.x (x_assign rfl)) ?_
  refine sr_nil ?_
  refine aw_keep (keep_cons (t := 0) rfl (keep_cons (t := 2) rfl keep_nil)) ?_
  refine aw_seq_region ?_
  refine sr_x rfl (wtd_none rfl) rfl (Rd.x (x_move rfl)) ?_
  refine sr_d rfl (wtd_none rfl) rfl (opS_call rfl rfl rfl rfl cl14 (clash_s a cap (xs.take 20) _ (hs.take 20) (fun j hj => hwf j (List.mem_of_mem_take hj)))) ?_
  rintro _ _ ⟨⟨kk, ii, ok, rfl, hok, hno0⟩, rfl⟩
  cases ok
  · refine sr_x rfl (wtd_none rfl) rfl (Rd.x (x_move rfl)) ?_
    refine sr_x rfl (wtd_none rfl) rfl (Rd.x (x_extract rfl rfl)) ?_
    refine sr_x rfl (wtd_none rfl) rfl (Rd.x (x_extract rfl rfl)) ?_
    refine sr_x rfl (wtd_none rfl) rfl (Rd.x (x_extract rfl rfl)) ?_
    refine sr_x rfl (wtd_none rfl) rfl (Rd.x (x_assign rfl)) ?_
    refine sr_x rfl (wtd_none rfl) rfl (Rd.x (x_assign rfl)) ?_
    refine sr_x rfl (wtd_none rfl) rfl (Rd.x (x_assign rfl)) ?_
    refine sr_nil ?_
    refine aw_keep (keep_cons (t := 0) rfl (keep_cons (t := 2) rfl (keep_cons (t := 3) rfl (keep_cons (t := 4) rfl (keep_cons (t := 5) rfl keep_nil))))) ?_
    refine aw_seq ?_
    refine aw_seq_region ?_
    refine sr_x rfl (wtd_none rfl) rfl (Rd.x (x_assign rfl)) ?_
    refine sr_nil ?_
    refine aw_keep (keep_cons (t := 0) rfl (keep_cons (t := 2) rfl (keep_cons (t := 3) rfl (keep_cons (t := 4) rfl (keep_cons (t := 5) rfl (keep_cons (t := 6) rfl keep_nil)))))) ?_
    refine aw_block ?_
    refine aw_loop (ι := Nat) (fun i => i ≤ (xs.take 20).length ∧ ∀ k' i' x y, (xs.take 20)[k']? = some x → (xs.take 20)[i']? = some y → k' < i' → i' < i → ¬ hit y x) (fun i => [(0, .slice a (xs.take 20).length cap), (2, .bool false), (3, .int .i64 kk), (4, .int .i64 ii), (5, .bool false), (6, .int .i64 i)]) (fun _ => []) (fun i => (xs.take 20).length - i) 0 (⟨Nat.zero_le _, fun _ _ _ _ _ _ _ h => by omega⟩) (by repeat (first | exact keep_nil | refine keep_cons rfl ?_)) (by repeat (first | exact Sub.refl _ | apply Sub.drop)) ?_
    intro i hi
    obtain ⟨hi0, hno⟩ := hi
    refine aw_seq ?_
    refine aw_seq_region ?_
    refine sr_x rfl (wtd_none rfl) rfl (Rd.x (x_move rfl)) ?_
    refine sr_x rfl (wtd_none rfl) rfl (Rd.x (x_move rfl)) ?_
    refine sr_x rfl (wtd_none rfl) rfl (Rd.x (x_lenSlice Try.underlying22 rfl)) ?_
    refine sr_cmp rfl (wtd_none rfl) rfl (Rd.x (x_lt rfl rfl)) (fun h1 => ?_) (fun h1 => ?_)
    · refine sr_nil ?_
      refine aw_keep (keep_cons (t := 0) rfl (keep_cons (t := 2) rfl (keep_cons (t := 3) rfl (keep_cons (t := 4) rfl (keep_cons (t := 5) rfl (keep_cons (t := 6) rfl (keep_cons (t := 22) rfl (keep_cons (t := 23) rfl (keep_cons (t := 24) rfl (keep_cons (t := 25) rfl keep_nil)))))))))) ?_
      refine aw_true rfl ?_
      refine aw_skip ?_
      show AW _ _ _ _ _ _ _
      refine aw_seq ?_
      refine aw_block ?_
      refine aw_seq_region ?_
      refine sr_x rfl (wtd_none rfl) rfl (Rd.x (x_assign rfl)) ?_
      refine sr_nil ?_
      refine aw_keep (keep_cons (t := 0) rfl (keep_cons (t := 2) rfl (keep_cons (t := 3) rfl (keep_cons (t := 4) rfl (keep_cons (t := 5) rfl (keep_cons (t := 6) rfl (keep_cons (t := 7) rfl (keep_cons (t := 22) rfl (keep_cons (t := 23) rfl (keep_cons (t := 24) rfl (keep_cons (t := 25) rfl keep_nil))))))))))) ?_
      refine aw_block ?_
      refine aw_loop (ι := Nat) (fun k => k ≤ i ∧ ∀ k' x y, (xs.take 20)[k']? = some x → (xs.take 20)[i]? = some y → k' < k → ¬ hit y x) (fun k => [(0, .slice a (xs.take 20).length cap), (2, .bool false), (3, .int .i64 kk), (4, .int .i64 ii), (5, .bool false), (6, .int .i64 i), (7, .int .i64 k)]) (fun _ => []) (fun k => i - k) 0 (⟨Nat.zero_le _, fun _ _ _ _ _ h => by omega⟩) (by repeat (first | exact keep_nil | refine keep_cons rfl ?_)) (by repeat (first | exact Sub.refl _ | apply Sub.drop)) ?_
      intro k hk
      obtain ⟨hk0, hnk⟩ := hk
      refine aw_seq ?_
      refine aw_seq_region ?_
      refine sr_x rfl (wtd_none rfl) rfl (Rd.x (x_move rfl)) ?_
      refine sr_x rfl (wtd_none rfl) rfl (Rd.x (x_move rfl)) ?_
      refine sr_cmp rfl (wtd_none rfl) rfl (Rd.x (x_lt rfl rfl)) (fun h2 => ?_) (fun h2 => ?_)
      · refine sr_nil ?_
        refine aw_keep (keep_cons (t := 0) rfl (keep_cons (t := 2) rfl (keep_cons (t := 3) rfl (keep_cons (t := 4) rfl (keep_cons (t := 5) rfl (keep_cons (t := 6) rfl (keep_cons (t := 7) rfl (keep_cons (t := 28) rfl (keep_cons (t := 29) rfl (keep_cons (t := 30) rfl keep_nil)))))))))) ?_
        refine aw_true rfl ?_
        refine aw_skip ?_
        show AW _ _ _ _ _ _ _
        refine aw_seq ?_
        refine aw_block ?_
        refine aw_seq_dr ⟨_, 12, 117, [[], [], [0, 1], [0, 1, 2], [], [], [4, 5], [4, 5, 6], [], [], [0, 1, 2, 3, 8, 9], [0, 1, 2, 3, 4, 5, 6, 7, 8, 9, 10]], [.light, .light, .light, .mem, .light, .light, .light, .mem, .alloc, .alloc, .loc 8, .loc 9]⟩ (by kernel_rfl) rfl rfl mix ?_
        obtain ⟨xk, hxk⟩ := get_ex (show k < (xs.take 20).length by omega)
        obtain ⟨bk, ok, hak, hck⟩ := (hs.take 20).at_ k _ hxk
        have hwk := wf_nodes (hwf _ (List.mem_of_mem_take (List.mem_of_getElem? hxk)))
        refine dr_light rfl rfl (wtd_none rfl) (x_move rfl) ?_
        refine dr_light rfl rfl (wtd_none rfl) (x_move rfl) ?_
        refine dr_light rfl rfl (wtd_none rfl) (x_indexAddrN k Try.underlying22 sz28 rfl hak rfl rfl (by omega)) ?_
        refine dr_mem0 rfl rfl (wtd_none rfl) (x_loadN ag28 sz28 rfl (Cells.mono hck (by repeat (first | exact Sub.refl _ | apply Sub.drop))) rfl) ?_
        obtain ⟨xi, hxi⟩ := get_ex (show i < (xs.take 20).length by omega)
        obtain ⟨bi, oi, hai, hci⟩ := (hs.take 20).at_ i _ hxi
        have hwi := wf_nodes (hwf _ (List.mem_of_mem_take (List.mem_of_getElem? hxi)))
        refine dr_light rfl rfl (wtd_none rfl) (x_move rfl) ?_
        refine dr_light rfl rfl (wtd_none rfl) (x_move rfl) ?_
        refine dr_light rfl rfl (wtd_none rfl) (x_indexAddrN i Try.underlying22 sz28 rfl hai rfl rfl (by omega)) ?_
        refine dr_mem0 rfl rfl (wtd_none rfl) (x_loadN ag28 sz28 rfl (Cells.mono hci (by repeat (first | exact Sub.refl _ | apply Sub.drop))) rfl) ?_
        refine dr_alloc rfl rfl (wtd_none rfl) (x_alloc zr28 rfl) ?_
        intro r9_8 hr9_8 gr9_8
        refine dr_alloc rfl rfl (wtd_none rfl) (x_alloc zr28 rfl) ?_
        intro r9_9 hr9_9 gr9_9
        refine dr_loc rfl rfl rfl (wtd_none rfl) (x_store sz28 rfl rfl rfl rfl rfl (by repeat (first | exact Repl.here | apply Repl.there)) (by repeat (first | exact Spl.done | exact Spl.all rfl | apply Spl.put | apply Spl.skip))) (by rfl) ?_
        refine dr_loc rfl rfl rfl (wtd_none rfl) (x_store sz28 rfl rfl rfl rfl rfl (by repeat (first | exact Repl.here | apply Repl.there)) (by repeat (first | exact Spl.done | exact Spl.all rfl | apply Spl.put | apply Spl.skip))) (by rfl) ?_
        refine dr_nil (E := [(r9_8, .cells xk.cells.toArray 28 (0, 0)), (r9_9, .cells xi.cells.toArray 28 (0, 0))]) rfl ?_
        refine aw_keep (keep_cons (t := 0) rfl (keep_cons (t := 2) rfl (keep_cons (t := 3) rfl (keep_cons (t := 4) rfl (keep_cons (t := 5) rfl (keep_cons (t := 6) rfl (keep_cons (t := 7) rfl (keep_cons (t := 8) rfl (keep_cons (t := 9) rfl (keep_cons (t := 28) rfl (keep_cons (t := 29) rfl (keep_cons (t := 30) rfl (keep_cons (t := 33) rfl (keep_cons (t := 34) rfl (keep_cons (t := 35) rfl (keep_cons (t := 36) rfl (keep_cons (t := 37) rfl (keep_cons (t := 38) rfl (keep_cons (t := 39) rfl (keep_cons (t := 40) rfl keep_nil)))))))))))))))))))) ?_
        refine aw_seq_region ?_
        refine sr_x rfl (wtd_none rfl) rfl (Rd.x (x_assign rfl)) ?_
        refine sr_nil ?_
        refine aw_keep (keep_cons (t := 0) rfl (keep_cons (t := 2) rfl (keep_cons (t := 3) rfl (keep_cons (t := 4) rfl (keep_cons (t := 5) rfl (keep_cons (t := 6) rfl (keep_cons (t := 7) rfl (keep_cons (t := 8) rfl (keep_cons (t := 9) rfl (keep_cons (t := 10) rfl (keep_cons (t := 28) rfl (keep_cons (t := 29) rfl (keep_cons (t := 30) rfl (keep_cons (t := 33) rfl (keep_cons (t := 34) rfl (keep_cons (t := 35) rfl (keep_cons (t := 36) rfl (keep_cons (t := 37) rfl (keep_cons (t := 38) rfl (keep_cons (t := 39) rfl (keep_cons (t := 40) rfl keep_nil))))))))))))))))))))) ?_
        refine aw_seq ?_
        refine aw_seq_region ?_
        refine sr_x rfl (wtd_none rfl) rfl (Rd.x (x_assign rfl)) ?_
        refine sr_nil ?_
        refine aw_keep (keep_cons (t := 0) rfl (keep_cons (t := 2) rfl (keep_cons (t := 3) rfl (keep_cons (t := 4) rfl (keep_cons (t := 5) rfl (keep_cons (t := 6) rfl (keep_cons (t := 7) rfl (keep_cons (t := 8) rfl (keep_cons (t := 9) rfl (keep_cons (t := 10) rfl (keep_cons (t := 11) rfl (keep_cons (t := 28) rfl (keep_cons (t := 29) rfl (keep_cons (t := 30) rfl (keep_cons (t := 33) rfl (keep_cons (t := 34) rfl (keep_cons (t := 35) rfl (keep_cons (t := 36) rfl (keep_cons (t := 37) rfl (keep_cons (t := 38) rfl (keep_cons (t := 39) rfl (keep_cons (t := 40) rfl keep_nil)))))))))))))))))))))) ?_
        refine aw_block ?_
        refine aw_loop (ι := Nat × Bool) (fun s => s.1 ≤ 64 ∧ Com xk.nodes xi.nodes s.1 s.2) (fun s => [(0, .slice a (xs.take 20).length cap), (2, .bool false), (3, .int .i64 kk), (4, .int .i64 ii), (5, .bool false), (6, .int .i64 i), (7, .int .i64 k), (8, .pointer (some ⟨r9_8, 0, none⟩)), (9, .pointer (some ⟨r9_9, 0, none⟩)), (10, .bool s.2), (11, .int .i64 s.1)]) (fun _ => [(r9_8, .cells xk.cells.toArray 28 (0, 0)), (r9_9, .cells xi.cells.toArray 28 (0, 0))]) (fun s => 64 - s.1) (0, false) (⟨Nat.zero_le _, com_0⟩) (by repeat (first | exact keep_nil | refine keep_cons rfl ?_)) (by repeat (first | exact Sub.refl _ | apply Sub.drop)) ?_
        intro s hn
        obtain ⟨n, c0⟩ := s
        obtain ⟨hn0, hC⟩ := hn
        simp only at hn0 hC ⊢
        cases c0
        · refine aw_seq ?_
          refine aw_seq_region ?_
          refine sr_x rfl (wtd_none rfl) rfl (Rd.x (x_move rfl)) ?_
          refine sr_cmp rfl (wtd_none rfl) rfl (Rd.x (x_lt rfl rfl)) (fun h3 => ?_) (fun h3 => ?_)
          · refine sr_nil ?_
            refine aw_keep (keep_cons (t := 0) rfl (keep_cons (t := 2) rfl (keep_cons (t := 3) rfl (keep_cons (t := 4) rfl (keep_cons (t := 5) rfl (keep_cons (t := 6) rfl (keep_cons (t := 7) rfl (keep_cons (t := 8) rfl (keep_cons (t := 9) rfl (keep_cons (t := 10) rfl (keep_cons (t := 11) rfl (keep_cons (t := 41) rfl (keep_cons (t := 42) rfl keep_nil))))))))))))) ?_
            refine aw_true rfl ?_
            refine aw_skip ?_
            show AW _ _ _ _ _ _ _
            refine aw_seq ?_
            refine aw_block ?_
            refine aw_region ?_
            refine sr_x rfl (wtd_none rfl) rfl (Rd.x (x_move rfl)) ?_
            refine sr_x rfl (wtd_none rfl) rfl (Rd.x (x_move rfl)) ?_
            refine sr_x rfl (wtd_yes rfl rfl rfl) rfl (Rd.x (x_fieldAddr fd28_9 rfl)) ?_
            refine sr_x rfl (wtd_yes rfl rfl rfl) rfl (Rd.x (x_load ag26 rfl (cells_ext (by repeat (first | exact List.mem_cons_self | apply List.mem_cons_of_mem)) (by repeat (first | exact Ext.all _ | exact Ext.done | apply Ext.take | apply Ext.skip))))) ?_
            refine sr_x rfl (wtd_yes rfl rfl rfl) rfl (Rd.x (x_move rfl)) ?_
            refine sr_d rfl (wtd_yes rfl rfl rfl) rfl (opS_call rfl rfl rfl rfl cl15 (has_s _ _ _ (by assumption))) ?_
            rintro _ _ ⟨⟨c, rfl, hc⟩, rfl⟩
            cases c
            · refine sr_x rfl (wtd_yes rfl rfl rfl) rfl (Rd.x (x_move rfl)) ?_
              refine sr_skip rfl (wtd_no rfl rfl rfl rfl) rfl ?_
              refine sr_skip rfl (wtd_no rfl rfl rfl rfl) rfl ?_
              refine sr_skip rfl (wtd_no rfl rfl rfl rfl) rfl ?_
              refine sr_skip rfl (wtd_no rfl rfl rfl rfl) rfl ?_
              refine sr_x rfl (wtd_yes rfl rfl rfl) rfl (Rd.x (x_pick_f rfl rfl rfl)) ?_
              refine sr_x rfl (wtd_none rfl) rfl (Rd.x (x_pick_f rfl rfl rfl)) ?_
              refine sr_x rfl (wtd_none rfl) rfl (Rd.x (x_assign rfl)) ?_
              refine sr_nil ?_
              show AW _ _ _ _ _ _ _
              refine aw_region ?_
              refine sr_x rfl (wtd_none rfl) rfl (Rd.x (x_move rfl)) ?_
              refine sr_x rfl (wtd_none rfl) rfl (Rd.x (x_add' rfl rfl (i64w (by omega) (by omega)))) ?_
              refine sr_x rfl (wtd_none rfl) rfl (Rd.x (x_assign rfl)) ?_
              refine sr_nil ?_
              show ∃ s', _ ∧ _ ∧ _ ∧ _
              first | exact ⟨(n + 1, true), ⟨by show n + 1 ≤ 64; omega, com_t hC⟩, by show 64 - (n + 1) < 64 - n; omega, (by repeat (first | exact keep_nil | refine keep_cons rfl ?_)), (by repeat (first | exact Sub.refl _ | apply Sub.drop))⟩ | exact ⟨(n + 1, _), ⟨by show n + 1 ≤ 64; omega, com_ff hC (by assumption)⟩, by show 64 - (n + 1) < 64 - n; omega, (by repeat (first | exact keep_nil | refine keep_cons rfl ?_)), (by repeat (first | exact Sub.refl _ | apply Sub.drop))⟩ | exact ⟨(n + 1, _), ⟨by show n + 1 ≤ 64; omega, com_st hC (by assumption) (by assumption)⟩, by show 64 - (n + 1) < 64 - n; omega, (by repeat (first | exact keep_nil | refine keep_cons rfl ?_)), (by repeat (first | exact Sub.refl _ | apply Sub.drop))⟩
            · refine sr_x rfl (wtd_yes rfl rfl rfl) rfl (Rd.x (x_move rfl)) ?_
              refine sr_x rfl (wtd_yes rfl rfl rfl) rfl (Rd.x (x_fieldAddr fd28_9 rfl)) ?_
              refine sr_x rfl (wtd_yes rfl rfl rfl) rfl (Rd.x (x_load ag26 rfl (cells_ext (by repeat (first | exact List.mem_cons_self | apply List.mem_cons_of_mem)) (by repeat (first | exact Ext.all _ | exact Ext.done | apply Ext.take | apply Ext.skip))))) ?_
              refine sr_x rfl (wtd_yes rfl rfl rfl) rfl (Rd.x (x_move rfl)) ?_
              refine sr_d rfl (wtd_yes rfl rfl rfl) rfl (opS_call rfl rfl rfl rfl cl15 (has_s _ _ _ (by assumption))) ?_
              rintro _ _ ⟨⟨c, rfl, hc⟩, rfl⟩
              cases c
              · refine sr_x rfl (wtd_yes rfl rfl rfl) rfl (Rd.x (x_pick_t rfl rfl rfl)) ?_
                refine sr_x rfl (wtd_none rfl) rfl (Rd.x (x_pick_f rfl rfl rfl)) ?_
                refine sr_x rfl (wtd_none rfl) rfl (Rd.x (x_assign rfl)) ?_
                refine sr_nil ?_
                show AW _ _ _ _ _ _ _
                refine aw_region ?_
                refine sr_x rfl (wtd_none rfl) rfl (Rd.x (x_move rfl)) ?_
                refine sr_x rfl (wtd_none rfl) rfl (Rd.x (x_add' rfl rfl (i64w (by omega) (by omega)))) ?_
                refine sr_x rfl (wtd_none rfl) rfl (Rd.x (x_assign rfl)) ?_
                refine sr_nil ?_
                show ∃ s', _ ∧ _ ∧ _ ∧ _
                first | exact ⟨(n + 1, true), ⟨by show n + 1 ≤ 64; omega, com_t hC⟩, by show 64 - (n + 1) < 64 - n; omega, (by repeat (first | exact keep_nil | refine keep_cons rfl ?_)), (by repeat (first | exact Sub.refl _ | apply Sub.drop))⟩ | exact ⟨(n + 1, _), ⟨by show n + 1 ≤ 64; omega, com_ff hC (by assumption)⟩, by show 64 - (n + 1) < 64 - n; omega, (by repeat (first | exact keep_nil | refine keep_cons rfl ?_)), (by repeat (first | exact Sub.refl _ | apply Sub.drop))⟩ | exact ⟨(n + 1, _), ⟨by show n + 1 ≤ 64; omega, com_st hC (by assumption) (by assumption)⟩, by show 64 - (n + 1) < 64 - n; omega, (by repeat (first | exact keep_nil | refine keep_cons rfl ?_)), (by repeat (first | exact Sub.refl _ | apply Sub.drop))⟩
              · refine sr_x rfl (wtd_yes rfl rfl rfl) rfl (Rd.x (x_pick_t rfl rfl rfl)) ?_
                refine sr_x rfl (wtd_none rfl) rfl (Rd.x (x_pick_f rfl rfl rfl)) ?_
                refine sr_x rfl (wtd_none rfl) rfl (Rd.x (x_assign rfl)) ?_
                refine sr_nil ?_
                show AW _ _ _ _ _ _ _
                refine aw_region ?_
                refine sr_x rfl (wtd_none rfl) rfl (Rd.x (x_move rfl)) ?_
                refine sr_x rfl (wtd_none rfl) rfl (Rd.x (x_add' rfl rfl (i64w (by omega) (by omega)))) ?_
                refine sr_x rfl (wtd_none rfl) rfl (Rd.x (x_assign rfl)) ?_
                refine sr_nil ?_
                show ∃ s', _ ∧ _ ∧ _ ∧ _
                first | exact ⟨(n + 1, true), ⟨by show n + 1 ≤ 64; omega, com_t hC⟩, by show 64 - (n + 1) < 64 - n; omega, (by repeat (first | exact keep_nil | refine keep_cons rfl ?_)), (by repeat (first | exact Sub.refl _ | apply Sub.drop))⟩ | exact ⟨(n + 1, _), ⟨by show n + 1 ≤ 64; omega, com_ff hC (by assumption)⟩, by show 64 - (n + 1) < 64 - n; omega, (by repeat (first | exact keep_nil | refine keep_cons rfl ?_)), (by repeat (first | exact Sub.refl _ | apply Sub.drop))⟩ | exact ⟨(n + 1, _), ⟨by show n + 1 ≤ 64; omega, com_st hC (by assumption) (by assumption)⟩, by show 64 - (n + 1) < 64 - n; omega, (by repeat (first | exact keep_nil | refine keep_cons rfl ?_)), (by repeat (first | exact Sub.refl _ | apply Sub.drop))⟩
          · refine sr_nil ?_
            refine aw_keep (keep_cons (t := 0) rfl (keep_cons (t := 2) rfl (keep_cons (t := 3) rfl (keep_cons (t := 4) rfl (keep_cons (t := 5) rfl (keep_cons (t := 6) rfl (keep_cons (t := 7) rfl (keep_cons (t := 8) rfl (keep_cons (t := 9) rfl (keep_cons (t := 10) rfl (keep_cons (t := 11) rfl (keep_cons (t := 41) rfl (keep_cons (t := 42) rfl keep_nil))))))))))))) ?_
            refine aw_false rfl ?_
            refine aw_exit ?_
            show AW _ _ _ _ _ _ _
            refine aw_seq_dr ⟨_, 6, 117, [[], [0], [], [2], [0, 1], [0, 1, 2, 3, 4]], [.light, .mem, .light, .mem, .light, .light]⟩ (by kernel_rfl) rfl rfl mix ?_
            refine dr_light rfl rfl (wtd_none rfl) (x_fieldAddr fd28_6 rfl) ?_
            refine dr_mem0 rfl rfl (wtd_none rfl) (x_load ag2 rfl (cells_ext (by repeat (first | exact List.mem_cons_self | apply List.mem_cons_of_mem)) (by repeat (first | exact Ext.all _ | exact Ext.done | apply Ext.take | apply Ext.skip)))) ?_
            refine dr_light rfl rfl (wtd_none rfl) (x_fieldAddr fd28_7 rfl) ?_
            refine dr_mem0 rfl rfl (wtd_none rfl) (x_load ag2 rfl (cells_ext (by repeat (first | exact List.mem_cons_self | apply List.mem_cons_of_mem)) (by repeat (first | exact Ext.all _ | exact Ext.done | apply Ext.take | apply Ext.skip)))) ?_
            refine dr_light rfl rfl (wtd_none rfl) (x_assign rfl) ?_
            refine dr_light rfl rfl (wtd_none rfl) (x_assign rfl) ?_
            refine dr_nil0 ?_
            refine aw_keep (keep_cons (t := 0) rfl (keep_cons (t := 2) rfl (keep_cons (t := 3) rfl (keep_cons (t := 4) rfl (keep_cons (t := 5) rfl (keep_cons (t := 6) rfl (keep_cons (t := 7) rfl (keep_cons (t := 8) rfl (keep_cons (t := 9) rfl (keep_cons (t := 10) rfl (keep_cons (t := 11) rfl (keep_cons (t := 12) rfl (keep_cons (t := 13) rfl (keep_cons (t := 41) rfl (keep_cons (t := 42) rfl (keep_cons (t := 58) rfl (keep_cons (t := 59) rfl (keep_cons (t := 60) rfl (keep_cons (t := 61) rfl keep_nil))))))))))))))))))) ?_
            refine aw_seq ?_
            refine aw_seq_region ?_
            refine sr_x rfl (wtd_none rfl) rfl (Rd.x (x_fieldAddr fd28_6 rfl)) ?_
            refine sr_x rfl (wtd_none rfl) rfl (Rd.x (x_load ag2 rfl (cells_ext (by repeat (first | exact List.mem_cons_self | apply List.mem_cons_of_mem)) (by repeat (first | exact Ext.all _ | exact Ext.done | apply Ext.take | apply Ext.skip))))) ?_
            refine sr_x rfl (wtd_none rfl) rfl (Rd.x (x_move rfl)) ?_
            refine sr_cmp rfl (wtd_none rfl) rfl (Rd.x (x_gt rfl rfl)) (fun h4 => ?_) (fun h4 => ?_)
            · refine sr_nil ?_
              refine aw_keep (keep_cons (t := 0) rfl (keep_cons (t := 2) rfl (keep_cons (t := 3) rfl (keep_cons (t := 4) rfl (keep_cons (t := 5) rfl (keep_cons (t := 6) rfl (keep_cons (t := 7) rfl (keep_cons (t := 8) rfl (keep_cons (t := 9) rfl (keep_cons (t := 10) rfl (keep_cons (t := 11) rfl (keep_cons (t := 12) rfl (keep_cons (t := 13) rfl (keep_cons (t := 41) rfl (keep_cons (t := 42) rfl (keep_cons (t := 58) rfl (keep_cons (t := 59) rfl (keep_cons (t := 60) rfl (keep_cons (t := 61) rfl (keep_cons (t := 62) rfl (keep_cons (t := 63) rfl (keep_cons (t := 64) rfl (keep_cons (t := 65) rfl keep_nil))))))))))))))))))))))) ?_
              refine aw_true rfl ?_
              refine aw_region ?_
              refine sr_x rfl (wtd_none rfl) rfl (Rd.x (x_fieldAddr fd28_6 rfl)) ?_
              refine sr_x rfl (wtd_none rfl) rfl (Rd.x (x_load ag2 rfl (cells_ext (by repeat (first | exact List.mem_cons_self | apply List.mem_cons_of_mem)) (by repeat (first | exact Ext.all _ | exact Ext.done | apply Ext.take | apply Ext.skip))))) ?_
              refine sr_x rfl (wtd_none rfl) rfl (Rd.x (x_assign rfl)) ?_
              refine sr_nil ?_
              show AW _ _ _ _ _ _ _
              refine aw_seq ?_
              refine aw_seq_region ?_
              refine sr_x rfl (wtd_none rfl) rfl (Rd.x (x_fieldAddr fd28_7 rfl)) ?_
              refine sr_x rfl (wtd_none rfl) rfl (Rd.x (x_load ag2 rfl (cells_ext (by repeat (first | exact List.mem_cons_self | apply List.mem_cons_of_mem)) (by repeat (first | exact Ext.all _ | exact Ext.done | apply Ext.take | apply Ext.skip))))) ?_
              refine sr_x rfl (wtd_none rfl) rfl (Rd.x (x_move rfl)) ?_
              refine sr_cmp rfl (wtd_none rfl) rfl (Rd.x (x_lt rfl rfl)) (fun h5 => ?_) (fun h5 => ?_)
              · refine sr_nil ?_
                refine aw_keep (keep_cons (t := 0) rfl (keep_cons (t := 2) rfl (keep_cons (t := 3) rfl (keep_cons (t := 4) rfl (keep_cons (t := 5) rfl (keep_cons (t := 6) rfl (keep_cons (t := 7) rfl (keep_cons (t := 8) rfl (keep_cons (t := 9) rfl (keep_cons (t := 10) rfl (keep_cons (t := 11) rfl (keep_cons (t := 12) rfl (keep_cons (t := 13) rfl (keep_cons (t := 41) rfl (keep_cons (t := 42) rfl (keep_cons (t := 58) rfl (keep_cons (t := 59) rfl (keep_cons (t := 60) rfl (keep_cons (t := 61) rfl (keep_cons (t := 62) rfl (keep_cons (t := 63) rfl (keep_cons (t := 64) rfl (keep_cons (t := 65) rfl (keep_cons (t := 66) rfl (keep_cons (t := 67) rfl (keep_cons (t := 68) rfl (keep_cons (t := 69) rfl (keep_cons (t := 70) rfl (keep_cons (t := 71) rfl keep_nil))))))))))))))))))))))))))))) ?_
                refine aw_true rfl ?_
                refine aw_region ?_
                refine sr_x rfl (wtd_none rfl) rfl (Rd.x (x_fieldAddr fd28_7 rfl)) ?_
                refine sr_x rfl (wtd_none rfl) rfl (Rd.x (x_load ag2 rfl (cells_ext (by repeat (first | exact List.mem_cons_self | apply List.mem_cons_of_mem)) (by repeat (first | exact Ext.all _ | exact Ext.done | apply Ext.take | apply Ext.skip))))) ?_
                refine sr_x rfl (wtd_none rfl) rfl (Rd.x (x_assign rfl)) ?_
                refine sr_nil ?_
                show AW _ _ _ _ _ _ _
                refine aw_seq_region ?_
                refine sr_x rfl (wtd_none rfl) rfl (Rd.x (x_move rfl)) ?_
                refine sr_x rfl (wtd_none rfl) rfl (Rd.x (x_move rfl)) ?_
                refine sr_skip rfl (wtd_no rfl rfl rfl rfl) rfl ?_
                refine sr_skip rfl (wtd_no rfl rfl rfl rfl) rfl ?_
                refine sr_skip rfl (wtd_no rfl rfl rfl rfl) rfl ?_
                refine sr_x rfl (wtd_none rfl) rfl (Rd.x (x_pick_f rfl rfl rfl)) ?_
                refine sr_x rfl (wtd_none rfl) rfl (Rd.x (x_move rfl)) ?_
                refine sr_skip rfl (wtd_no rfl rfl rfl rfl) rfl ?_
                refine sr_skip rfl (wtd_no rfl rfl rfl rfl) rfl ?_
                refine sr_skip rfl (wtd_no rfl rfl rfl rfl) rfl ?_
                refine sr_x rfl (wtd_none rfl) rfl (Rd.x (x_pick_f rfl rfl rfl)) ?_
                refine sr_x rfl (wtd_none rfl) rfl (Rd.x (x_move rfl)) ?_
                refine sr_skip rfl (wtd_no rfl rfl rfl rfl) rfl ?_
                refine sr_skip rfl (wtd_no rfl rfl rfl rfl) rfl ?_
                refine sr_skip rfl (wtd_no rfl rfl rfl rfl) rfl ?_
                refine sr_x rfl (wtd_none rfl) rfl (Rd.x (x_pick_f rfl rfl rfl)) ?_
                refine sr_nil ?_
                refine aw_keep (keep_cons (t := 0) rfl (keep_cons (t := 2) rfl (keep_cons (t := 3) rfl (keep_cons (t := 4) rfl (keep_cons (t := 5) rfl (keep_cons (t := 6) rfl (keep_cons (t := 7) rfl (keep_cons (t := 8) rfl (keep_cons (t := 9) rfl (keep_cons (t := 10) rfl (keep_cons (t := 11) rfl (keep_cons (t := 12) rfl (keep_cons (t := 13) rfl (keep_cons (t := 41) rfl (keep_cons (t := 42) rfl (keep_cons (t := 58) rfl (keep_cons (t := 59) rfl (keep_cons (t := 60) rfl (keep_cons (t := 61) rfl (keep_cons (t := 62) rfl (keep_cons (t := 63) rfl (keep_cons (t := 64) rfl (keep_cons (t := 65) rfl (keep_cons (t := 66) rfl (keep_cons (t := 67) rfl (keep_cons (t := 68) rfl (keep_cons (t := 69) rfl (keep_cons (t := 70) rfl (keep_cons (t := 71) rfl (keep_cons (t := 72) rfl (keep_cons (t := 73) rfl (keep_cons (t := 74) rfl (keep_cons (t := 75) rfl (keep_cons (t := 76) rfl (keep_cons (t := 77) rfl (keep_cons (t := 78) rfl (keep_cons (t := 79) rfl (keep_cons (t := 80) rfl (keep_cons (t := 81) rfl (keep_cons (t := 82) rfl (keep_cons (t := 83) rfl (keep_cons (t := 84) rfl (keep_cons (t := 85) rfl (keep_cons (t := 86) rfl (keep_cons (t := 87) rfl (keep_cons (t := 88) rfl (keep_cons (t := 89) rfl keep_nil))))))))))))))))))))))))))))))))))))))))))))))) ?_
                refine aw_false rfl ?_
                refine aw_skip ?_
                show AW _ _ _ _ _ _ _
                refine aw_region ?_
                refine sr_x rfl (wtd_none rfl) rfl (Rd.x (x_move rfl)) ?_
                refine sr_x rfl (wtd_none rfl) rfl (Rd.x (x_add' rfl rfl (i64w (by omega) (by omega)))) ?_
                refine sr_x rfl (wtd_none rfl) rfl (Rd.x (x_assign rfl)) ?_
                refine sr_nil ?_
                show ∃ s', _ ∧ _ ∧ _ ∧ _
                exact ⟨k + 1, ⟨by omega, fun k' x y hx hy h => (Nat.lt_or_eq_of_le (Nat.le_of_lt_succ h)).elim (hnk k' x y hx hy) fun e => by subst e; rw [hxk] at hx; rw [hxi] at hy; cases hx; cases hy; rintro ⟨q1, q2, q3, q4⟩; first | exact com_no hwk hwi hC (by omega) q1 | omega⟩, by omega, (by repeat (first | exact keep_nil | refine keep_cons rfl ?_)), (by repeat (first | exact Sub.refl _ | apply Sub.drop))⟩
              · refine sr_nil ?_
                refine aw_keep (keep_cons (t := 0) rfl (keep_cons (t := 2) rfl (keep_cons (t := 3) rfl (keep_cons (t := 4) rfl (keep_cons (t := 5) rfl (keep_cons (t := 6) rfl (keep_cons (t := 7) rfl (keep_cons (t := 8) rfl (keep_cons (t := 9) rfl (keep_cons (t := 10) rfl (keep_cons (t := 11) rfl (keep_cons (t := 12) rfl (keep_cons (t := 13) rfl (keep_cons (t := 41) rfl (keep_cons (t := 42) rfl (keep_cons (t := 58) rfl (keep_cons (t := 59) rfl (keep_cons (t := 60) rfl (keep_cons (t := 61) rfl (keep_cons (t := 62) rfl (keep_cons (t := 63) rfl (keep_cons (t := 64) rfl (keep_cons (t := 65) rfl (keep_cons (t := 66) rfl (keep_cons (t := 67) rfl (keep_cons (t := 68) rfl (keep_cons (t := 69) rfl (keep_cons (t := 70) rfl (keep_cons (t := 71) rfl keep_nil))))))))))))))))))))))))))))) ?_
                refine aw_false rfl ?_
                refine aw_skip ?_
                show AW _ _ _ _ _ _ _
                refine aw_seq_region ?_
                refine sr_x rfl (wtd_none rfl) rfl (Rd.x (x_move rfl)) ?_
                refine sr_x rfl (wtd_none rfl) rfl (Rd.x (x_move rfl)) ?_
                refine sr_skip rfl (wtd_no rfl rfl rfl rfl) rfl ?_
                refine sr_skip rfl (wtd_no rfl rfl rfl rfl) rfl ?_
                refine sr_skip rfl (wtd_no rfl rfl rfl rfl) rfl ?_
                refine sr_x rfl (wtd_none rfl) rfl (Rd.x (x_pick_f rfl rfl rfl)) ?_
                refine sr_x rfl (wtd_none rfl) rfl (Rd.x (x_move rfl)) ?_
                refine sr_skip rfl (wtd_no rfl rfl rfl rfl) rfl ?_
                refine sr_skip rfl (wtd_no rfl rfl rfl rfl) rfl ?_
                refine sr_skip rfl (wtd_no rfl rfl rfl rfl) rfl ?_
                refine sr_x rfl (wtd_none rfl) rfl (Rd.x (x_pick_f rfl rfl rfl)) ?_
                refine sr_x rfl (wtd_none rfl) rfl (Rd.x (x_move rfl)) ?_
                refine sr_skip rfl (wtd_no rfl rfl rfl rfl) rfl ?_
                refine sr_skip rfl (wtd_no rfl rfl rfl rfl) rfl ?_
                refine sr_skip rfl (wtd_no rfl rfl rfl rfl) rfl ?_
                refine sr_x rfl (wtd_none rfl) rfl (Rd.x (x_pick_f rfl rfl rfl)) ?_
                refine sr_nil ?_
                refine aw_keep (keep_cons (t := 0) rfl (keep_cons (t := 2) rfl (keep_cons (t := 3) rfl (keep_cons (t := 4) rfl (keep_cons (t := 5) rfl (keep_cons (t := 6) rfl (keep_cons (t := 7) rfl (keep_cons (t := 8) rfl (keep_cons (t := 9) rfl (keep_cons (t := 10) rfl (keep_cons (t := 11) rfl (keep_cons (t := 12) rfl (keep_cons (t := 13) rfl (keep_cons (t := 41) rfl (keep_cons (t := 42) rfl (keep_cons (t := 58) rfl (keep_cons (t := 59) rfl (keep_cons (t := 60) rfl (keep_cons (t := 61) rfl (keep_cons (t := 62) rfl (keep_cons (t := 63) rfl (keep_cons (t := 64) rfl (keep_cons (t := 65) rfl (keep_cons (t := 66) rfl (keep_cons (t := 67) rfl (keep_cons (t := 68) rfl (keep_cons (t := 69) rfl (keep_cons (t := 70) rfl (keep_cons (t := 71) rfl (keep_cons (t := 74) rfl (keep_cons (t := 75) rfl (keep_cons (t := 76) rfl (keep_cons (t := 77) rfl (keep_cons (t := 78) rfl (keep_cons (t := 79) rfl (keep_cons (t := 80) rfl (keep_cons (t := 81) rfl (keep_cons (t := 82) rfl (keep_cons (t := 83) rfl (keep_cons (t := 84) rfl (keep_cons (t := 85) rfl (keep_cons (t := 86) rfl (keep_cons (t := 87) rfl (keep_cons (t := 88) rfl (keep_cons (t := 89) rfl keep_nil))))))))))))))))))))))))))))))))))))))))))))) ?_
                refine aw_false rfl ?_
                refine aw_skip ?_
                show AW _ _ _ _ _ _ _
                refine aw_region ?_
                refine sr_x rfl (wtd_none rfl) rfl (Rd.x (x_move rfl)) ?_
                refine sr_x rfl (wtd_none rfl) rfl (Rd.x (x_add' rfl rfl (i64w (by omega) (by omega)))) ?_
                refine sr_x rfl (wtd_none rfl) rfl (Rd.x (x_assign rfl)) ?_
                refine sr_nil ?_
                show ∃ s', _ ∧ _ ∧ _ ∧ _
                exact ⟨k + 1, ⟨by omega, fun k' x y hx hy h => (Nat.lt_or_eq_of_le (Nat.le_of_lt_succ h)).elim (hnk k' x y hx hy) fun e => by subst e; rw [hxk] at hx; rw [hxi] at hy; cases hx; cases hy; rintro ⟨q1, q2, q3, q4⟩; first | exact com_no hwk hwi hC (by omega) q1 | omega⟩, by omega, (by repeat (first | exact keep_nil | refine keep_cons rfl ?_)), (by repeat (first | exact Sub.refl _ | apply Sub.drop))⟩
            · refine sr_nil ?_
              refine aw_keep (keep_cons (t := 0) rfl (keep_cons (t := 2) rfl (keep_cons (t := 3) rfl (keep_cons (t := 4) rfl (keep_cons (t := 5) rfl (keep_cons (t := 6) rfl (keep_cons (t := 7) rfl (keep_cons (t := 8) rfl (keep_cons (t := 9) rfl (keep_cons (t := 10) rfl (keep_cons (t := 11) rfl (keep_cons (t := 12) rfl (keep_cons (t := 13) rfl (keep_cons (t := 41) rfl (keep_cons (t := 42) rfl (keep_cons (t := 58) rfl (keep_cons (t := 59) rfl (keep_cons (t := 60) rfl (keep_cons (t := 61) rfl (keep_cons (t := 62) rfl (keep_cons (t := 63) rfl (keep_cons (t := 64) rfl (keep_cons (t := 65) rfl keep_nil))))))))))))))))))))))) ?_
              refine aw_false rfl ?_
              refine aw_skip ?_
              show AW _ _ _ _ _ _ _
              refine aw_seq ?_
              refine aw_seq_region ?_
              refine sr_x rfl (wtd_none rfl) rfl (Rd.x (x_fieldAddr fd28_7 rfl)) ?_
              refine sr_x rfl (wtd_none rfl) rfl (Rd.x (x_load ag2 rfl (cells_ext (by repeat (first | exact List.mem_cons_self | apply List.mem_cons_of_mem)) (by repeat (first | exact Ext.all _ | exact Ext.done | apply Ext.take | apply Ext.skip))))) ?_
              refine sr_x rfl (wtd_none rfl) rfl (Rd.x (x_move rfl)) ?_
              refine sr_cmp rfl (wtd_none rfl) rfl (Rd.x (x_lt rfl rfl)) (fun h6 => ?_) (fun h6 => ?_)
              · refine sr_nil ?_
                refine aw_keep (keep_cons (t := 0) rfl (keep_cons (t := 2) rfl (keep_cons (t := 3) rfl (keep_cons (t := 4) rfl (keep_cons (t := 5) rfl (keep_cons (t := 6) rfl (keep_cons (t := 7) rfl (keep_cons (t := 8) rfl (keep_cons (t := 9) rfl (keep_cons (t := 10) rfl (keep_cons (t := 11) rfl (keep_cons (t := 12) rfl (keep_cons (t := 13) rfl (keep_cons (t := 41) rfl (keep_cons (t := 42) rfl (keep_cons (t := 58) rfl (keep_cons (t := 59) rfl (keep_cons (t := 60) rfl (keep_cons (t := 61) rfl (keep_cons (t := 62) rfl (keep_cons (t := 63) rfl (keep_cons (t := 64) rfl (keep_cons (t := 65) rfl (keep_cons (t := 68) rfl (keep_cons (t := 69) rfl (keep_cons (t := 70) rfl (keep_cons (t := 71) rfl keep_nil))))))))))))))))))))))))))) ?_
                refine aw_true rfl ?_
                refine aw_region ?_
                refine sr_x rfl (wtd_none rfl) rfl (Rd.x (x_fieldAddr fd28_7 rfl)) ?_
                refine sr_x rfl (wtd_none rfl) rfl (Rd.x (x_load ag2 rfl (cells_ext (by repeat (first | exact List.mem_cons_self | apply List.mem_cons_of_mem)) (by repeat (first | exact Ext.all _ | exact Ext.done | apply Ext.take | apply Ext.skip))))) ?_
                refine sr_x rfl (wtd_none rfl) rfl (Rd.x (x_assign rfl)) ?_
                refine sr_nil ?_
                show AW _ _ _ _ _ _ _
                refine aw_seq_region ?_
                refine sr_x rfl (wtd_none rfl) rfl (Rd.x (x_move rfl)) ?_
                refine sr_x rfl (wtd_none rfl) rfl (Rd.x (x_move rfl)) ?_
                refine sr_skip rfl (wtd_no rfl rfl rfl rfl) rfl ?_
                refine sr_skip rfl (wtd_no rfl rfl rfl rfl) rfl ?_
                refine sr_skip rfl (wtd_no rfl rfl rfl rfl) rfl ?_
                refine sr_x rfl (wtd_none rfl) rfl (Rd.x (x_pick_f rfl rfl rfl)) ?_
                refine sr_x rfl (wtd_none rfl) rfl (Rd.x (x_move rfl)) ?_
                refine sr_skip rfl (wtd_no rfl rfl rfl rfl) rfl ?_
                refine sr_skip rfl (wtd_no rfl rfl rfl rfl) rfl ?_
                refine sr_skip rfl (wtd_no rfl rfl rfl rfl) rfl ?_
                refine sr_x rfl (wtd_none rfl) rfl (Rd.x (x_pick_f rfl rfl rfl)) ?_
                refine sr_x rfl (wtd_none rfl) rfl (Rd.x (x_move rfl)) ?_
                refine sr_skip rfl (wtd_no rfl rfl rfl rfl) rfl ?_
                refine sr_skip rfl (wtd_no rfl rfl rfl rfl) rfl ?_
                refine sr_skip rfl (wtd_no rfl rfl rfl rfl) rfl ?_
                refine sr_x rfl (wtd_none rfl) rfl (Rd.x (x_pick_f rfl rfl rfl)) ?_
                refine sr_nil ?_
                refine aw_keep (keep_cons (t := 0) rfl (keep_cons (t := 2) rfl (keep_cons (t := 3) rfl (keep_cons (t := 4) rfl (keep_cons (t := 5) rfl (keep_cons (t := 6) rfl (keep_cons (t := 7) rfl (keep_cons (t := 8) rfl (keep_cons (t := 9) rfl (keep_cons (t := 10) rfl (keep_cons (t := 11) rfl (keep_cons (t := 12) rfl (keep_cons (t := 13) rfl (keep_cons (t := 41) rfl (keep_cons (t := 42) rfl (keep_cons (t := 58) rfl (keep_cons (t := 59) rfl (keep_cons (t := 60) rfl (keep_cons (t := 61) rfl (keep_cons (t := 62) rfl (keep_cons (t := 63) rfl (keep_cons (t := 64) rfl (keep_cons (t := 65) rfl (keep_cons (t := 68) rfl (keep_cons (t := 69) rfl (keep_cons (t := 70) rfl (keep_cons (t := 71) rfl (keep_cons (t := 72) rfl (keep_cons (t := 73) rfl (keep_cons (t := 74) rfl (keep_cons (t := 75) rfl (keep_cons (t := 76) rfl (keep_cons (t := 77) rfl (keep_cons (t := 78) rfl (keep_cons (t := 79) rfl (keep_cons (t := 80) rfl (keep_cons (t := 81) rfl (keep_cons (t := 82) rfl (keep_cons (t := 83) rfl (keep_cons (t := 84) rfl (keep_cons (t := 85) rfl (keep_cons (t := 86) rfl (keep_cons (t := 87) rfl (keep_cons (t := 88) rfl (keep_cons (t := 89) rfl keep_nil))))))))))))))))))))))))))))))))))))))))))))) ?_
                refine aw_false rfl ?_
                refine aw_skip ?_
                show AW _ _ _ _ _ _ _
                refine aw_region ?_
                refine sr_x rfl (wtd_none rfl) rfl (Rd.x (x_move rfl)) ?_
                refine sr_x rfl (wtd_none rfl) rfl (Rd.x (x_add' rfl rfl (i64w (by omega) (by omega)))) ?_
                refine sr_x rfl (wtd_none rfl) rfl (Rd.x (x_assign rfl)) ?_
                refine sr_nil ?_
                show ∃ s', _ ∧ _ ∧ _ ∧ _
                exact ⟨k + 1, ⟨by omega, fun k' x y hx hy h => (Nat.lt_or_eq_of_le (Nat.le_of_lt_succ h)).elim (hnk k' x y hx hy) fun e => by subst e; rw [hxk] at hx; rw [hxi] at hy; cases hx; cases hy; rintro ⟨q1, q2, q3, q4⟩; first | exact com_no hwk hwi hC (by omega) q1 | omega⟩, by omega, (by repeat (first | exact keep_nil | refine keep_cons rfl ?_)), (by repeat (first | exact Sub.refl _ | apply Sub.drop))⟩
              · refine sr_nil ?_
                refine aw_keep (keep_cons (t := 0) rfl (keep_cons (t := 2) rfl (keep_cons (t := 3) rfl (keep_cons (t := 4) rfl (keep_cons (t := 5) rfl (keep_cons (t := 6) rfl (keep_cons (t := 7) rfl (keep_cons (t := 8) rfl (keep_cons (t := 9) rfl (keep_cons (t := 10) rfl (keep_cons (t := 11) rfl (keep_cons (t := 12) rfl (keep_cons (t := 13) rfl (keep_cons (t := 41) rfl (keep_cons (t := 42) rfl (keep_cons (t := 58) rfl (keep_cons (t := 59) rfl (keep_cons (t := 60) rfl (keep_cons (t := 61) rfl (keep_cons (t := 62) rfl (keep_cons (t := 63) rfl (keep_cons (t := 64) rfl (keep_cons (t := 65) rfl (keep_cons (t := 68) rfl (keep_cons (t := 69) rfl (keep_cons (t := 70) rfl (keep_cons (t := 71) rfl keep_nil))))))))))))))))))))))))))) ?_
                refine aw_false rfl ?_
                refine aw_skip ?_
                show AW _ _ _ _ _ _ _
                refine aw_seq_region ?_
                refine sr_x rfl (wtd_none rfl) rfl (Rd.x (x_move rfl)) ?_
                refine sr_x rfl (wtd_none rfl) rfl (Rd.x (x_move rfl)) ?_
                refine sr_skip rfl (wtd_no rfl rfl rfl rfl) rfl ?_
                refine sr_skip rfl (wtd_no rfl rfl rfl rfl) rfl ?_
                refine sr_skip rfl (wtd_no rfl rfl rfl rfl) rfl ?_
                refine sr_x rfl (wtd_none rfl) rfl (Rd.x (x_pick_f rfl rfl rfl)) ?_
                refine sr_x rfl (wtd_none rfl) rfl (Rd.x (x_move rfl)) ?_
                refine sr_skip rfl (wtd_no rfl rfl rfl rfl) rfl ?_
                refine sr_skip rfl (wtd_no rfl rfl rfl rfl) rfl ?_
                refine sr_skip rfl (wtd_no rfl rfl rfl rfl) rfl ?_
                refine sr_x rfl (wtd_none rfl) rfl (Rd.x (x_pick_f rfl rfl rfl)) ?_
                refine sr_x rfl (wtd_none rfl) rfl (Rd.x (x_move rfl)) ?_
                refine sr_skip rfl (wtd_no rfl rfl rfl rfl) rfl ?_
                refine sr_skip rfl (wtd_no rfl rfl rfl rfl) rfl ?_
                refine sr_skip rfl (wtd_no rfl rfl rfl rfl) rfl ?_
                refine sr_x rfl (wtd_none rfl) rfl (Rd.x (x_pick_f rfl rfl rfl)) ?_
                refine sr_nil ?_
                refine aw_keep (keep_cons (t := 0) rfl (keep_cons (t := 2) rfl (keep_cons (t := 3) rfl (keep_cons (t := 4) rfl (keep_cons (t := 5) rfl (keep_cons (t := 6) rfl (keep_cons (t := 7) rfl (keep_cons (t := 8) rfl (keep_cons (t := 9) rfl (keep_cons (t := 10) rfl (keep_cons (t := 11) rfl (keep_cons (t := 12) rfl (keep_cons (t := 13) rfl (keep_cons (t := 41) rfl (keep_cons (t := 42) rfl (keep_cons (t := 58) rfl (keep_cons (t := 59) rfl (keep_cons (t := 60) rfl (keep_cons (t := 61) rfl (keep_cons (t := 62) rfl (keep_cons (t := 63) rfl (keep_cons (t := 64) rfl (keep_cons (t := 65) rfl (keep_cons (t := 68) rfl (keep_cons (t := 69) rfl (keep_cons (t := 70) rfl (keep_cons (t := 71) rfl (keep_cons (t := 74) rfl (keep_cons (t := 75) rfl (keep_cons (t := 76) rfl (keep_cons (t := 77) rfl (keep_cons (t := 78) rfl (keep_cons (t := 79) rfl (keep_cons (t := 80) rfl (keep_cons (t := 81) rfl (keep_cons (t := 82) rfl (keep_cons (t := 83) rfl (keep_cons (t := 84) rfl (keep_cons (t := 85) rfl (keep_cons (t := 86) rfl (keep_cons (t := 87) rfl (keep_cons (t := 88) rfl (keep_cons (t := 89) rfl keep_nil))))))))))))))))))))))))))))))))))))))))))) ?_
                refine aw_false rfl ?_
                refine aw_skip ?_
                show AW _ _ _ _ _ _ _
                refine aw_region ?_
                refine sr_x rfl (wtd_none rfl) rfl (Rd.x (x_move rfl)) ?_
                refine sr_x rfl (wtd_none rfl) rfl (Rd.x (x_add' rfl rfl (i64w (by omega) (by omega)))) ?_
                refine sr_x rfl (wtd_none rfl) rfl (Rd.x (x_assign rfl)) ?_
                refine sr_nil ?_
                show ∃ s', _ ∧ _ ∧ _ ∧ _
                exact ⟨k + 1, ⟨by omega, fun k' x y hx hy h => (Nat.lt_or_eq_of_le (Nat.le_of_lt_succ h)).elim (hnk k' x y hx hy) fun e => by subst e; rw [hxk] at hx; rw [hxi] at hy; cases hx; cases hy; rintro ⟨q1, q2, q3, q4⟩; first | exact com_no hwk hwi hC (by omega) q1 | omega⟩, by omega, (by repeat (first | exact keep_nil | refine keep_cons rfl ?_)), (by repeat (first | exact Sub.refl _ | apply Sub.drop))⟩
        · refine aw_seq ?_
          refine aw_seq_region ?_
          refine sr_x rfl (wtd_none rfl) rfl (Rd.x (x_move rfl)) ?_
          refine sr_cmp rfl (wtd_none rfl) rfl (Rd.x (x_lt rfl rfl)) (fun h7 => ?_) (fun h7 => ?_)
          · refine sr_nil ?_
            refine aw_keep (keep_cons (t := 0) rfl (keep_cons (t := 2) rfl (keep_cons (t := 3) rfl (keep_cons (t := 4) rfl (keep_cons (t := 5) rfl (keep_cons (t := 6) rfl (keep_cons (t := 7) rfl (keep_cons (t := 8) rfl (keep_cons (t := 9) rfl (keep_cons (t := 10) rfl (keep_cons (t := 11) rfl (keep_cons (t := 41) rfl (keep_cons (t := 42) rfl keep_nil))))))))))))) ?_
            refine aw_true rfl ?_
            refine aw_skip ?_
            show AW _ _ _ _ _ _ _
            refine aw_seq ?_
            refine aw_block ?_
            refine aw_region ?_
            refine sr_x rfl (wtd_none rfl) rfl (Rd.x (x_move rfl)) ?_
            refine sr_x rfl (wtd_none rfl) rfl (Rd.x (x_move rfl)) ?_
            refine sr_skip rfl (wtd_no rfl rfl rfl rfl) rfl ?_
            refine sr_skip rfl (wtd_no rfl rfl rfl rfl) rfl ?_
            refine sr_skip rfl (wtd_no rfl rfl rfl rfl) rfl ?_
            refine sr_skip rfl (wtd_no rfl rfl rfl rfl) rfl ?_
            refine sr_skip rfl (wtd_no rfl rfl rfl rfl) rfl ?_
            refine sr_skip rfl (wtd_un rfl rfl rfl) rfl ?_
            refine sr_skip rfl (wtd_un rfl rfl rfl) rfl ?_
            refine sr_skip rfl (wtd_un rfl rfl rfl) rfl ?_
            refine sr_skip rfl (wtd_un rfl rfl rfl) rfl ?_
            refine sr_skip rfl (wtd_no rfl rfl rfl rfl) rfl ?_
            refine sr_x rfl (wtd_none rfl) rfl (Rd.x (x_pick_t rfl rfl rfl)) ?_
            refine sr_x rfl (wtd_none rfl) rfl (Rd.x (x_assign rfl)) ?_
            refine sr_nil ?_
            show AW _ _ _ _ _ _ _
            refine aw_region ?_
            refine sr_x rfl (wtd_none rfl) rfl (Rd.x (x_move rfl)) ?_
            refine sr_x rfl (wtd_none rfl) rfl (Rd.x (x_add' rfl rfl (i64w (by omega) (by omega)))) ?_
            refine sr_x rfl (wtd_none rfl) rfl (Rd.x (x_assign rfl)) ?_
            refine sr_nil ?_
            show ∃ s', _ ∧ _ ∧ _ ∧ _
            first | exact ⟨(n + 1, true), ⟨by show n + 1 ≤ 64; omega, com_t hC⟩, by show 64 - (n + 1) < 64 - n; omega, (by repeat (first | exact keep_nil | refine keep_cons rfl ?_)), (by repeat (first | exact Sub.refl _ | apply Sub.drop))⟩ | exact ⟨(n + 1, _), ⟨by show n + 1 ≤ 64; omega, com_ff hC (by assumption)⟩, by show 64 - (n + 1) < 64 - n; omega, (by repeat (first | exact keep_nil | refine keep_cons rfl ?_)), (by repeat (first | exact Sub.refl _ | apply Sub.drop))⟩ | exact ⟨(n + 1, _), ⟨by show n + 1 ≤ 64; omega, com_st hC (by assumption) (by assumption)⟩, by show 64 - (n + 1) < 64 - n; omega, (by repeat (first | exact keep_nil | refine keep_cons rfl ?_)), (by repeat (first | exact Sub.refl _ | apply Sub.drop))⟩
          · refine sr_nil ?_
            refine aw_keep (keep_cons (t := 0) rfl (keep_cons (t := 2) rfl (keep_cons (t := 3) rfl (keep_cons (t := 4) rfl (keep_cons (t := 5) rfl (keep_cons (t := 6) rfl (keep_cons (t := 7) rfl (keep_cons (t := 8) rfl (keep_cons (t := 9) rfl (keep_cons (t := 10) rfl (keep_cons (t := 11) rfl (keep_cons (t := 41) rfl (keep_cons (t := 42) rfl keep_nil))))))))))))) ?_
            refine aw_false rfl ?_
            refine aw_exit ?_
            show AW _ _ _ _ _ _ _
            refine aw_seq_dr ⟨_, 6, 117, [[], [0], [], [2], [0, 1], [0, 1, 2, 3, 4]], [.light, .mem, .light, .mem, .light, .light]⟩ (by kernel_rfl) rfl rfl mix ?_
            refine dr_light rfl rfl (wtd_none rfl) (x_fieldAddr fd28_6 rfl) ?_
            refine dr_mem0 rfl rfl (wtd_none rfl) (x_load ag2 rfl (cells_ext (by repeat (first | exact List.mem_cons_self | apply List.mem_cons_of_mem)) (by repeat (first | exact Ext.all _ | exact Ext.done | apply Ext.take | apply Ext.skip)))) ?_
            refine dr_light rfl rfl (wtd_none rfl) (x_fieldAddr fd28_7 rfl) ?_
            refine dr_mem0 rfl rfl (wtd_none rfl) (x_load ag2 rfl (cells_ext (by repeat (first | exact List.mem_cons_self | apply List.mem_cons_of_mem)) (by repeat (first | exact Ext.all _ | exact Ext.done | apply Ext.take | apply Ext.skip)))) ?_
            refine dr_light rfl rfl (wtd_none rfl) (x_assign rfl) ?_
            refine dr_light rfl rfl (wtd_none rfl) (x_assign rfl) ?_
            refine dr_nil0 ?_
            refine aw_keep (keep_cons (t := 0) rfl (keep_cons (t := 2) rfl (keep_cons (t := 3) rfl (keep_cons (t := 4) rfl (keep_cons (t := 5) rfl (keep_cons (t := 6) rfl (keep_cons (t := 7) rfl (keep_cons (t := 8) rfl (keep_cons (t := 9) rfl (keep_cons (t := 10) rfl (keep_cons (t := 11) rfl (keep_cons (t := 12) rfl (keep_cons (t := 13) rfl (keep_cons (t := 41) rfl (keep_cons (t := 42) rfl (keep_cons (t := 58) rfl (keep_cons (t := 59) rfl (keep_cons (t := 60) rfl (keep_cons (t := 61) rfl keep_nil))))))))))))))))))) ?_
            refine aw_seq ?_
            refine aw_seq_region ?_
            refine sr_x rfl (wtd_none rfl) rfl (Rd.x (x_fieldAddr fd28_6 rfl)) ?_
            refine sr_x rfl (wtd_none rfl) rfl (Rd.x (x_load ag2 rfl (cells_ext (by repeat (first | exact List.mem_cons_self | apply List.mem_cons_of_mem)) (by repeat (first | exact Ext.all _ | exact Ext.done | apply Ext.take | apply Ext.skip))))) ?_
            refine sr_x rfl (wtd_none rfl) rfl (Rd.x (x_move rfl)) ?_
            refine sr_cmp rfl (wtd_none rfl) rfl (Rd.x (x_gt rfl rfl)) (fun h8 => ?_) (fun h8 => ?_)
            · refine sr_nil ?_
              refine aw_keep (keep_cons (t := 0) rfl (keep_cons (t := 2) rfl (keep_cons (t := 3) rfl (keep_cons (t := 4) rfl (keep_cons (t := 5) rfl (keep_cons (t := 6) rfl (keep_cons (t := 7) rfl (keep_cons (t := 8) rfl (keep_cons (t := 9) rfl (keep_cons (t := 10) rfl (keep_cons (t := 11) rfl (keep_cons (t := 12) rfl (keep_cons (t := 13) rfl (keep_cons (t := 41) rfl (keep_cons (t := 42) rfl (keep_cons (t := 58) rfl (keep_cons (t := 59) rfl (keep_cons (t := 60) rfl (keep_cons (t := 61) rfl (keep_cons (t := 62) rfl (keep_cons (t := 63) rfl (keep_cons (t := 64) rfl (keep_cons (t := 65) rfl keep_nil))))))))))))))))))))))) ?_
              refine aw_true rfl ?_
              refine aw_region ?_
              refine sr_x rfl (wtd_none rfl) rfl (Rd.x (x_fieldAddr fd28_6 rfl)) ?_
              refine sr_x rfl (wtd_none rfl) rfl (Rd.x (x_load ag2 rfl (cells_ext (by repeat (first | exact List.mem_cons_self | apply List.mem_cons_of_mem)) (by repeat (first | exact Ext.all _ | exact Ext.done | apply Ext.take | apply Ext.skip))))) ?_
              refine sr_x rfl (wtd_none rfl) rfl (Rd.x (x_assign rfl)) ?_
              refine sr_nil ?_
              show AW _ _ _ _ _ _ _
              refine aw_seq ?_
              refine aw_seq_region ?_
              refine sr_x rfl (wtd_none rfl) rfl (Rd.x (x_fieldAddr fd28_7 rfl)) ?_
              refine sr_x rfl (wtd_none rfl) rfl (Rd.x (x_load ag2 rfl (cells_ext (by repeat (first | exact List.mem_cons_self | apply List.mem_cons_of_mem)) (by repeat (first | exact Ext.all _ | exact Ext.done | apply Ext.take | apply Ext.skip))))) ?_
              refine sr_x rfl (wtd_none rfl) rfl (Rd.x (x_move rfl)) ?_
              refine sr_cmp rfl (wtd_none rfl) rfl (Rd.x (x_lt rfl rfl)) (fun h9 => ?_) (fun h9 => ?_)
              · refine sr_nil ?_
                refine aw_keep (keep_cons (t := 0) rfl (keep_cons (t := 2) rfl (keep_cons (t := 3) rfl (keep_cons (t := 4) rfl (keep_cons (t := 5) rfl (keep_cons (t := 6) rfl (keep_cons (t := 7) rfl (keep_cons (t := 8) rfl (keep_cons (t := 9) rfl (keep_cons (t := 10) rfl (keep_cons (t := 11) rfl (keep_cons (t := 12) rfl (keep_cons (t := 13) rfl (keep_cons (t := 41) rfl (keep_cons (t := 42) rfl (keep_cons (t := 58) rfl (keep_cons (t := 59) rfl (keep_cons (t := 60) rfl (keep_cons (t := 61) rfl (keep_cons (t := 62) rfl (keep_cons (t := 63) rfl (keep_cons (t := 64) rfl (keep_cons (t := 65) rfl (keep_cons (t := 66) rfl (keep_cons (t := 67) rfl (keep_cons (t := 68) rfl (keep_cons (t := 69) rfl (keep_cons (t := 70) rfl (keep_cons (t := 71) rfl keep_nil))))))))))))))))))))))))))))) ?_
                refine aw_true rfl ?_
                refine aw_region ?_
                refine sr_x rfl (wtd_none rfl) rfl (Rd.x (x_fieldAddr fd28_7 rfl)) ?_
                refine sr_x rfl (wtd_none rfl) rfl (Rd.x (x_load ag2 rfl (cells_ext (by repeat (first | exact List.mem_cons_self | apply List.mem_cons_of_mem)) (by repeat (first | exact Ext.all _ | exact Ext.done | apply Ext.take | apply Ext.skip))))) ?_
                refine sr_x rfl (wtd_none rfl) rfl (Rd.x (x_assign rfl)) ?_
                refine sr_nil ?_
                show AW _ _ _ _ _ _ _
                refine aw_seq_region ?_
                refine sr_x rfl (wtd_none rfl) rfl (Rd.x (x_move rfl)) ?_
                refine sr_x rfl (wtd_none rfl) rfl (Rd.x (x_move rfl)) ?_
                refine sr_x rfl (wtd_yes rfl rfl rfl) rfl (Rd.x (x_fieldAddr fd28_6 rfl)) ?_
                refine sr_x rfl (wtd_yes rfl rfl rfl) rfl (Rd.x (x_load ag2 rfl (cells_ext (by repeat (first | exact List.mem_cons_self | apply List.mem_cons_of_mem)) (by repeat (first | exact Ext.all _ | exact Ext.done | apply Ext.take | apply Ext.skip))))) ?_
                refine sr_cmp rfl (wtd_yes rfl rfl rfl) rfl (Rd.x (x_ge rfl rfl)) (fun h10 => ?_) (fun h10 => ?_)
                · refine sr_x rfl (wtd_none rfl) rfl (Rd.x (x_pick_t rfl rfl rfl)) ?_
                  refine sr_x rfl (wtd_none rfl) rfl (Rd.x (x_move rfl)) ?_
                  refine sr_x rfl (wtd_yes rfl rfl rfl) rfl (Rd.x (x_fieldAddr fd28_6 rfl)) ?_
                  refine sr_x rfl (wtd_yes rfl rfl rfl) rfl (Rd.x (x_load ag2 rfl (cells_ext (by repeat (first | exact List.mem_cons_self | apply List.mem_cons_of_mem)) (by repeat (first | exact Ext.all _ | exact Ext.done | apply Ext.take | apply Ext.skip))))) ?_
                  refine sr_cmp rfl (wtd_yes rfl rfl rfl) rfl (Rd.x (x_ge rfl rfl)) (fun h11 => ?_) (fun h11 => ?_)
                  · refine sr_x rfl (wtd_none rfl) rfl (Rd.x (x_pick_t rfl rfl rfl)) ?_
                    refine sr_x rfl (wtd_none rfl) rfl (Rd.x (x_move rfl)) ?_
                    refine sr_x rfl (wtd_yes rfl rfl rfl) rfl (Rd.x (x_move rfl)) ?_
                    refine sr_x rfl (wtd_yes rfl rfl rfl) rfl (Rd.x (x_move rfl)) ?_
                    refine sr_cmp rfl (wtd_yes rfl rfl rfl) rfl (Rd.x (x_lt rfl rfl)) (fun h12 => ?_) (fun h12 => ?_)
                    · refine sr_x rfl (wtd_none rfl) rfl (Rd.x (x_pick_t rfl rfl rfl)) ?_
                      refine sr_nil ?_
                      refine aw_keep (keep_cons (t := 0) rfl (keep_cons (t := 2) rfl (keep_cons (t := 3) rfl (keep_cons (t := 4) rfl (keep_cons (t := 5) rfl (keep_cons (t := 6) rfl (keep_cons (t := 7) rfl (keep_cons (t := 8) rfl (keep_cons (t := 9) rfl (keep_cons (t := 10) rfl (keep_cons (t := 11) rfl (keep_cons (t := 12) rfl (keep_cons (t := 13) rfl (keep_cons (t := 41) rfl (keep_cons (t := 42) rfl (keep_cons (t := 58) rfl (keep_cons (t := 59) rfl (keep_cons (t := 60) rfl (keep_cons (t := 61) rfl (keep_cons (t := 62) rfl (keep_cons (t := 63) rfl (keep_cons (t := 64) rfl (keep_cons (t := 65) rfl (keep_cons (t := 66) rfl (keep_cons (t := 67) rfl (keep_cons (t := 68) rfl (keep_cons (t := 69) rfl (keep_cons (t := 70) rfl (keep_cons (t := 71) rfl (keep_cons (t := 72) rfl (keep_cons (t := 73) rfl (keep_cons (t := 74) rfl (keep_cons (t := 75) rfl (keep_cons (t := 76) rfl (keep_cons (t := 77) rfl (keep_cons (t := 78) rfl (keep_cons (t := 79) rfl (keep_cons (t := 80) rfl (keep_cons (t := 81) rfl (keep_cons (t := 82) rfl (keep_cons (t := 83) rfl (keep_cons (t := 84) rfl (keep_cons (t := 85) rfl (keep_cons (t := 86) rfl (keep_cons (t := 87) rfl (keep_cons (t := 88) rfl (keep_cons (t := 89) rfl keep_nil))))))))))))))))))))))))))))))))))))))))))))))) ?_
                      refine aw_true rfl ?_
                      refine aw_seq_region ?_
                      refine sr_x rfl (wtd_none rfl) rfl (Rd.x (x_move rfl)) ?_
                      refine sr_x rfl (wtd_none rfl) rfl (Rd.x (x_move rfl)) ?_
                      refine sr_cmp rfl (wtd_none rfl) rfl (Rd.x (x_eq rfl rfl)) (fun h13 => ?_) (fun h13 => ?_)
                      · refine sr_x rfl (wtd_none rfl) rfl (Rd.x (x_move rfl)) ?_
                        refine sr_x rfl (wtd_yes rfl rfl rfl) rfl (Rd.x (x_move rfl)) ?_
                        refine sr_x rfl (wtd_yes rfl rfl rfl) rfl (Rd.x (x_move rfl)) ?_
                        refine sr_cmp rfl (wtd_yes rfl rfl rfl) rfl (Rd.x (x_eq rfl rfl)) (fun h14 => ?_) (fun h14 => ?_)
                        · refine sr_x rfl (wtd_none rfl) rfl (Rd.x (x_pick_t rfl rfl rfl)) ?_
                          refine sr_x rfl (wtd_none rfl) rfl (Rd.x (x_move rfl)) ?_
                          refine sr_x rfl (wtd_yes rfl rfl rfl) rfl (Rd.x (x_move rfl)) ?_
                          refine sr_x rfl (wtd_none rfl) rfl (Rd.x (x_pick_t rfl rfl rfl)) ?_
                          refine sr_x rfl (wtd_none rfl) rfl (Rd.x (x_move rfl)) ?_
                          refine sr_skip rfl (wtd_no rfl rfl rfl rfl) rfl ?_
                          refine sr_x rfl (wtd_none rfl) rfl (Rd.x (x_pick_f rfl rfl rfl)) ?_
                          refine sr_x rfl (wtd_none rfl) rfl (Rd.x (x_assign rfl)) ?_
                          refine sr_nil ?_
                          refine aw_keep (keep_cons (t := 0) rfl (keep_cons (t := 2) rfl (keep_cons (t := 3) rfl (keep_cons (t := 4) rfl (keep_cons (t := 5) rfl (keep_cons (t := 6) rfl (keep_cons (t := 7) rfl (keep_cons (t := 8) rfl (keep_cons (t := 9) rfl (keep_cons (t := 10) rfl (keep_cons (t := 11) rfl (keep_cons (t := 12) rfl (keep_cons (t := 13) rfl (keep_cons (t := 41) rfl (keep_cons (t := 42) rfl (keep_cons (t := 58) rfl (keep_cons (t := 59) rfl (keep_cons (t := 60) rfl (keep_cons (t := 61) rfl (keep_cons (t := 62) rfl (keep_cons (t := 63) rfl (keep_cons (t := 64) rfl (keep_cons (t := 65) rfl (keep_cons (t := 66) rfl (keep_cons (t := 67) rfl (keep_cons (t := 68) rfl (keep_cons (t := 69) rfl (keep_cons (t := 70) rfl (keep_cons (t := 71) rfl (keep_cons (t := 72) rfl (keep_cons (t := 73) rfl (keep_cons (t := 74) rfl (keep_cons (t := 75) rfl (keep_cons (t := 76) rfl (keep_cons (t := 77) rfl (keep_cons (t := 78) rfl (keep_cons (t := 79) rfl (keep_cons (t := 80) rfl (keep_cons (t := 81) rfl (keep_cons (t := 82) rfl (keep_cons (t := 83) rfl (keep_cons (t := 84) rfl (keep_cons (t := 85) rfl (keep_cons (t := 86) rfl (keep_cons (t := 87) rfl (keep_cons (t := 88) rfl (keep_cons (t := 89) rfl (keep_cons (t := 90) rfl (keep_cons (t := 91) rfl (keep_cons (t := 92) rfl (keep_cons (t := 93) rfl (keep_cons (t := 94) rfl (keep_cons (t := 95) rfl (keep_cons (t := 96) rfl (keep_cons (t := 97) rfl (keep_cons (t := 98) rfl (keep_cons (t := 99) rfl (keep_cons (t := 100) rfl (keep_cons (t := 101) rfl (keep_cons (t := 102) rfl (keep_cons (t := 103) rfl keep_nil))))))))))))))))))))))))))))))))))))))))))))))))))))))))))))) ?_
                          refine aw_ret ?_
                          show ∃ v H2, ResV _ _ _ _ _ _ v ∧ Sub H2 _ ∧ _
                          exact ⟨_, _, resV rfl (.cons rfl .nil), (by repeat (first | exact Sub.refl _ | apply Sub.drop)), (by first | rfl | (exfalso; have hh : hit xi xk := ⟨com_yes hwk hwi hC (by omega), by omega, by omega, by omega⟩; first | exact hno0 rfl |>.2.2 k i xk xi hxk hxi (by omega) hh | (have := first_uniq (hok rfl) hxk hxi (by omega) hh hno hnk; omega)) | (exfalso; first | (have := hno0 rfl; omega) | exact (hok rfl).1.elim fun x hx => hx.elim fun y hy => hno _ _ x y hy.1 hy.2.1 hy.2.2.1 (by have := (List.getElem?_eq_some_iff.1 hy.2.1).1; omega) hy.2.2.2))⟩
                        · refine sr_x rfl (wtd_none rfl) rfl (Rd.x (x_pick_t rfl rfl rfl)) ?_
                          refine sr_x rfl (wtd_none rfl) rfl (Rd.x (x_move rfl)) ?_
                          refine sr_skip rfl (wtd_no rfl rfl rfl rfl) rfl ?_
                          refine sr_x rfl (wtd_none rfl) rfl (Rd.x (x_pick_f rfl rfl rfl)) ?_
                          refine sr_x rfl (wtd_none rfl) rfl (Rd.x (x_move rfl)) ?_
                          refine sr_skip rfl (wtd_no rfl rfl rfl rfl) rfl ?_
                          refine sr_x rfl (wtd_none rfl) rfl (Rd.x (x_pick_f rfl rfl rfl)) ?_
                          refine sr_x rfl (wtd_none rfl) rfl (Rd.x (x_assign rfl)) ?_
                          refine sr_nil ?_
                          refine aw_keep (keep_cons (t := 0) rfl (keep_cons (t := 2) rfl (keep_cons (t := 3) rfl (keep_cons (t := 4) rfl (keep_cons (t := 5) rfl (keep_cons (t := 6) rfl (keep_cons (t := 7) rfl (keep_cons (t := 8) rfl (keep_cons (t := 9) rfl (keep_cons (t := 10) rfl (keep_cons (t := 11) rfl (keep_cons (t := 12) rfl (keep_cons (t := 13) rfl (keep_cons (t := 41) rfl (keep_cons (t := 42) rfl (keep_cons (t := 58) rfl (keep_cons (t := 59) rfl (keep_cons (t := 60) rfl (keep_cons (t := 61) rfl (keep_cons (t := 62) rfl (keep_cons (t := 63) rfl (keep_cons (t := 64) rfl (keep_cons (t := 65) rfl (keep_cons (t := 66) rfl (keep_cons (t := 67) rfl (keep_cons (t := 68) rfl (keep_cons (t := 69) rfl (keep_cons (t := 70) rfl (keep_cons (t := 71) rfl (keep_cons (t := 72) rfl (keep_cons (t := 73) rfl (keep_cons (t := 74) rfl (keep_cons (t := 75) rfl (keep_cons (t := 76) rfl (keep_cons (t := 77) rfl (keep_cons (t := 78) rfl (keep_cons (t := 79) rfl (keep_cons (t := 80) rfl (keep_cons (t := 81) rfl (keep_cons (t := 82) rfl (keep_cons (t := 83) rfl (keep_cons (t := 84) rfl (keep_cons (t := 85) rfl (keep_cons (t := 86) rfl (keep_cons (t := 87) rfl (keep_cons (t := 88) rfl (keep_cons (t := 89) rfl (keep_cons (t := 90) rfl (keep_cons (t := 91) rfl (keep_cons (t := 92) rfl (keep_cons (t := 93) rfl (keep_cons (t := 94) rfl (keep_cons (t := 95) rfl (keep_cons (t := 96) rfl (keep_cons (t := 97) rfl (keep_cons (t := 98) rfl (keep_cons (t := 99) rfl (keep_cons (t := 100) rfl (keep_cons (t := 101) rfl (keep_cons (t := 102) rfl (keep_cons (t := 103) rfl keep_nil))))))))))))))))))))))))))))))))))))))))))))))))))))))))))))) ?_
                          refine aw_ret ?_
                          show ∃ v H2, ResV _ _ _ _ _ _ v ∧ Sub H2 _ ∧ _
                          exact ⟨_, _, resV rfl (.cons rfl .nil), (by repeat (first | exact Sub.refl _ | apply Sub.drop)), (by first | rfl | (exfalso; have hh : hit xi xk := ⟨com_yes hwk hwi hC (by omega), by omega, by omega, by omega⟩; first | exact hno0 rfl |>.2.2 k i xk xi hxk hxi (by omega) hh | (have := first_uniq (hok rfl) hxk hxi (by omega) hh hno hnk; omega)) | (exfalso; first | (have := hno0 rfl; omega) | exact (hok rfl).1.elim fun x hx => hx.elim fun y hy => hno _ _ x y hy.1 hy.2.1 hy.2.2.1 (by have := (List.getElem?_eq_some_iff.1 hy.2.1).1; omega) hy.2.2.2))⟩
                      · refine sr_x rfl (wtd_none rfl) rfl (Rd.x (x_move rfl)) ?_
                        refine sr_skip rfl (wtd_no rfl rfl rfl rfl) rfl ?_
                        refine sr_skip rfl (wtd_no rfl rfl rfl rfl) rfl ?_
                        refine sr_skip rfl (wtd_no rfl rfl rfl rfl) rfl ?_
                        refine sr_x rfl (wtd_none rfl) rfl (Rd.x (x_pick_f rfl rfl rfl)) ?_
                        refine sr_x rfl (wtd_none rfl) rfl (Rd.x (x_move rfl)) ?_
                        refine sr_skip rfl (wtd_no rfl rfl rfl rfl) rfl ?_
                        refine sr_x rfl (wtd_none rfl) rfl (Rd.x (x_pick_f rfl rfl rfl)) ?_
                        refine sr_x rfl (wtd_none rfl) rfl (Rd.x (x_move rfl)) ?_
                        refine sr_skip rfl (wtd_no rfl rfl rfl rfl) rfl ?_
                        refine sr_x rfl (wtd_none rfl) rfl (Rd.x (x_pick_f rfl rfl rfl)) ?_
                        refine sr_x rfl (wtd_none rfl) rfl (Rd.x (x_assign rfl)) ?_
                        refine sr_nil ?_
                        refine aw_keep (keep_cons (t := 0) rfl (keep_cons (t := 2) rfl (keep_cons (t := 3) rfl (keep_cons (t := 4) rfl (keep_cons (t := 5) rfl (keep_cons (t := 6) rfl (keep_cons (t := 7) rfl (keep_cons (t := 8) rfl (keep_cons (t := 9) rfl (keep_cons (t := 10) rfl (keep_cons (t := 11) rfl (keep_cons (t := 12) rfl (keep_cons (t := 13) rfl (keep_cons (t := 41) rfl (keep_cons (t := 42) rfl (keep_cons (t := 58) rfl (keep_cons (t := 59) rfl (keep_cons (t := 60) rfl (keep_cons (t := 61) rfl (keep_cons (t := 62) rfl (keep_cons (t := 63) rfl (keep_cons (t := 64) rfl (keep_cons (t := 65) rfl (keep_cons (t := 66) rfl (keep_cons (t := 67) rfl (keep_cons (t := 68) rfl (keep_cons (t := 69) rfl (keep_cons (t := 70) rfl (keep_cons (t := 71) rfl (keep_cons (t := 72) rfl (keep_cons (t := 73) rfl (keep_cons (t := 74) rfl (keep_cons (t := 75) rfl (keep_cons (t := 76) rfl (keep_cons (t := 77) rfl (keep_cons (t := 78) rfl (keep_cons (t := 79) rfl (keep_cons (t := 80) rfl (keep_cons (t := 81) rfl (keep_cons (t := 82) rfl (keep_cons (t := 83) rfl (keep_cons (t := 84) rfl (keep_cons (t := 85) rfl (keep_cons (t := 86) rfl (keep_cons (t := 87) rfl (keep_cons (t := 88) rfl (keep_cons (t := 89) rfl (keep_cons (t := 90) rfl (keep_cons (t := 91) rfl (keep_cons (t := 92) rfl (keep_cons (t := 93) rfl (keep_cons (t := 94) rfl (keep_cons (t := 95) rfl (keep_cons (t := 96) rfl (keep_cons (t := 97) rfl (keep_cons (t := 98) rfl (keep_cons (t := 99) rfl (keep_cons (t := 100) rfl (keep_cons (t := 101) rfl (keep_cons (t := 102) rfl (keep_cons (t := 103) rfl keep_nil))))))))))))))))))))))))))))))))))))))))))))))))))))))))))))) ?_
                        refine aw_ret ?_
                        show ∃ v H2, ResV _ _ _ _ _ _ v ∧ Sub H2 _ ∧ _
                        exact ⟨_, _, resV rfl (.cons rfl .nil), (by repeat (first | exact Sub.refl _ | apply Sub.drop)), (by first | rfl | (exfalso; have hh : hit xi xk := ⟨com_yes hwk hwi hC (by omega), by omega, by omega, by omega⟩; first | exact hno0 rfl |>.2.2 k i xk xi hxk hxi (by omega) hh | (have := first_uniq (hok rfl) hxk hxi (by omega) hh hno hnk; omega)) | (exfalso; first | (have := hno0 rfl; omega) | exact (hok rfl).1.elim fun x hx => hx.elim fun y hy => hno _ _ x y hy.1 hy.2.1 hy.2.2.1 (by have := (List.getElem?_eq_some_iff.1 hy.2.1).1; omega) hy.2.2.2))⟩
                    · refine sr_x rfl (wtd_none rfl) rfl (Rd.x (x_pick_t rfl rfl rfl)) ?_
                      refine sr_nil ?_
                      refine aw_keep (keep_cons (t := 0) rfl (keep_cons (t := 2) rfl (keep_cons (t := 3) rfl (keep_cons (t := 4) rfl (keep_cons (t := 5) rfl (keep_cons (t := 6) rfl (keep_cons (t := 7) rfl (keep_cons (t := 8) rfl (keep_cons (t := 9) rfl (keep_cons (t := 10) rfl (keep_cons (t := 11) rfl (keep_cons (t := 12) rfl (keep_cons (t := 13) rfl (keep_cons (t := 41) rfl (keep_cons (t := 42) rfl (keep_cons (t := 58) rfl (keep_cons (t := 59) rfl (keep_cons (t := 60) rfl (keep_cons (t := 61) rfl (keep_cons (t := 62) rfl (keep_cons (t := 63) rfl (keep_cons (t := 64) rfl (keep_cons (t := 65) rfl (keep_cons (t := 66) rfl (keep_cons (t := 67) rfl (keep_cons (t := 68) rfl (keep_cons (t := 69) rfl (keep_cons (t := 70) rfl (keep_cons (t := 71) rfl (keep_cons (t := 72) rfl (keep_cons (t := 73) rfl (keep_cons (t := 74) rfl (keep_cons (t := 75) rfl (keep_cons (t := 76) rfl (keep_cons (t := 77) rfl (keep_cons (t := 78) rfl (keep_cons (t := 79) rfl (keep_cons (t := 80) rfl (keep_cons (t := 81) rfl (keep_cons (t := 82) rfl (keep_cons (t := 83) rfl (keep_cons (t := 84) rfl (keep_cons (t := 85) rfl (keep_cons (t := 86) rfl (keep_cons (t := 87) rfl (keep_cons (t := 88) rfl (keep_cons (t := 89) rfl keep_nil))))))))))))))))))))))))))))))))))))))))))))))) ?_
                      refine aw_false rfl ?_
                      refine aw_skip ?_
                      show AW _ _ _ _ _ _ _
                      refine aw_region ?_
                      refine sr_x rfl (wtd_none rfl) rfl (Rd.x (x_move rfl)) ?_
                      refine sr_x rfl (wtd_none rfl) rfl (Rd.x (x_add' rfl rfl (i64w (by omega) (by omega)))) ?_
                      refine sr_x rfl (wtd_none rfl) rfl (Rd.x (x_assign rfl)) ?_
                      refine sr_nil ?_
                      show ∃ s', _ ∧ _ ∧ _ ∧ _
                      exact ⟨k + 1, ⟨by omega, fun k' x y hx hy h => (Nat.lt_or_eq_of_le (Nat.le_of_lt_succ h)).elim (hnk k' x y hx hy) fun e => by subst e; rw [hxk] at hx; rw [hxi] at hy; cases hx; cases hy; rintro ⟨q1, q2, q3, q4⟩; first | exact com_no hwk hwi hC (by omega) q1 | omega⟩, by omega, (by repeat (first | exact keep_nil | refine keep_cons rfl ?_)), (by repeat (first | exact Sub.refl _ | apply Sub.drop))⟩
                  · refine sr_x rfl (wtd_none rfl) rfl (Rd.x (x_pick_t rfl rfl rfl)) ?_
                    refine sr_x rfl (wtd_none rfl) rfl (Rd.x (x_move rfl)) ?_
                    refine sr_skip rfl (wtd_no rfl rfl rfl rfl) rfl ?_
                    refine sr_skip rfl (wtd_no rfl rfl rfl rfl) rfl ?_
                    refine sr_skip rfl (wtd_no rfl rfl rfl rfl) rfl ?_
                    refine sr_x rfl (wtd_none rfl) rfl (Rd.x (x_pick_f rfl rfl rfl)) ?_
                    refine sr_nil ?_
                    refine aw_keep (keep_cons (t := 0) rfl (keep_cons (t := 2) rfl (keep_cons (t := 3) rfl (keep_cons (t := 4) rfl (keep_cons (t := 5) rfl (keep_cons (t := 6) rfl (keep_cons (t := 7) rfl (keep_cons (t := 8) rfl (keep_cons (t := 9) rfl (keep_cons (t := 10) rfl (keep_cons (t := 11) rfl (keep_cons (t := 12) rfl (keep_cons (t := 13) rfl (keep_cons (t := 41) rfl (keep_cons (t := 42) rfl (keep_cons (t := 58) rfl (keep_cons (t := 59) rfl (keep_cons (t := 60) rfl (keep_cons (t := 61) rfl (keep_cons (t := 62) rfl (keep_cons (t := 63) rfl (keep_cons (t := 64) rfl (keep_cons (t := 65) rfl (keep_cons (t := 66) rfl (keep_cons (t := 67) rfl (keep_cons (t := 68) rfl (keep_cons (t := 69) rfl (keep_cons (t := 70) rfl (keep_cons (t := 71) rfl (keep_cons (t := 72) rfl (keep_cons (t := 73) rfl (keep_cons (t := 74) rfl (keep_cons (t := 75) rfl (keep_cons (t := 76) rfl (keep_cons (t := 77) rfl (keep_cons (t := 78) rfl (keep_cons (t := 79) rfl (keep_cons (t := 80) rfl (keep_cons (t := 81) rfl (keep_cons (t := 82) rfl (keep_cons (t := 83) rfl (keep_cons (t := 84) rfl (keep_cons (t := 85) rfl (keep_cons (t := 86) rfl (keep_cons (t := 87) rfl (keep_cons (t := 88) rfl (keep_cons (t := 89) rfl keep_nil))))))))))))))))))))))))))))))))))))))))))))))) ?_
                    refine aw_false rfl ?_
                    refine aw_skip ?_
                    show AW _ _ _ _ _ _ _
                    refine aw_region ?_
                    refine sr_x rfl (wtd_none rfl) rfl (Rd.x (x_move rfl)) ?_
                    refine sr_x rfl (wtd_none rfl) rfl (Rd.x (x_add' rfl rfl (i64w (by omega) (by omega)))) ?_
                    refine sr_x rfl (wtd_none rfl) rfl (Rd.x (x_assign rfl)) ?_
                    refine sr_nil ?_
                    show ∃ s', _ ∧ _ ∧ _ ∧ _
                    exact ⟨k + 1, ⟨by omega, fun k' x y hx hy h => (Nat.lt_or_eq_of_le (Nat.le_of_lt_succ h)).elim (hnk k' x y hx hy) fun e => by subst e; rw [hxk] at hx; rw [hxi] at hy; cases hx; cases hy; rintro ⟨q1, q2, q3, q4⟩; first | exact com_no hwk hwi hC (by omega) q1 | omega⟩, by omega, (by repeat (first | exact keep_nil | refine keep_cons rfl ?_)), (by repeat (first | exact Sub.refl _ | apply Sub.drop))⟩
                · refine sr_x rfl (wtd_none rfl) rfl (Rd.x (x_pick_t rfl rfl rfl)) ?_
                  refine sr_x rfl (wtd_none rfl) rfl (Rd.x (x_move rfl)) ?_
                  refine sr_skip rfl (wtd_no rfl rfl rfl rfl) rfl ?_
                  refine sr_skip rfl (wtd_no rfl rfl rfl rfl) rfl ?_
                  refine sr_skip rfl (wtd_no rfl rfl rfl rfl) rfl ?_
                  refine sr_x rfl (wtd_none rfl) rfl (Rd.x (x_pick_f rfl rfl rfl)) ?_
                  refine sr_x rfl (wtd_none rfl) rfl (Rd.x (x_move rfl)) ?_
                  refine sr_skip rfl (wtd_no rfl rfl rfl rfl) rfl ?_
                  refine sr_skip rfl (wtd_no rfl rfl rfl rfl) rfl ?_
                  refine sr_skip rfl (wtd_no rfl rfl rfl rfl) rfl ?_
                  refine sr_x rfl (wtd_none rfl) rfl (Rd.x (x_pick_f rfl rfl rfl)) ?_
                  refine sr_nil ?_
                  refine aw_keep (keep_cons (t := 0) rfl (keep_cons (t := 2) rfl (keep_cons (t := 3) rfl (keep_cons (t := 4) rfl (keep_cons (t := 5) rfl (keep_cons (t := 6) rfl (keep_cons (t := 7) rfl (keep_cons (t := 8) rfl (keep_cons (t := 9) rfl (keep_cons (t := 10) rfl (keep_cons (t := 11) rfl (keep_cons (t := 12) rfl (keep_cons (t := 13) rfl (keep_cons (t := 41) rfl (keep_cons (t := 42) rfl (keep_cons (t := 58) rfl (keep_cons (t := 59) rfl (keep_cons (t := 60) rfl (keep_cons (t := 61) rfl (keep_cons (t := 62) rfl (keep_cons (t := 63) rfl (keep_cons (t := 64) rfl (keep_cons (t := 65) rfl (keep_cons (t := 66) rfl (keep_cons (t := 67) rfl (keep_cons (t := 68) rfl (keep_cons (t := 69) rfl (keep_cons (t := 70) rfl (keep_cons (t := 71) rfl (keep_cons (t := 72) rfl (keep_cons (t := 73) rfl (keep_cons (t := 74) rfl (keep_cons (t := 75) rfl (keep_cons (t := 76) rfl (keep_cons (t := 77) rfl (keep_cons (t := 78) rfl (keep_cons (t := 79) rfl (keep_cons (t := 80) rfl (keep_cons (t := 81) rfl (keep_cons (t := 82) rfl (keep_cons (t := 83) rfl (keep_cons (t := 84) rfl (keep_cons (t := 85) rfl (keep_cons (t := 86) rfl (keep_cons (t := 87) rfl (keep_cons (t := 88) rfl (keep_cons (t := 89) rfl keep_nil))))))))))))))))))))))))))))))))))))))))))))))) ?_
                  refine aw_false rfl ?_
                  refine aw_skip ?_
                  show AW _ _ _ _ _ _ _
                  refine aw_region ?_
                  refine sr_x rfl (wtd_none rfl) rfl (Rd.x (x_move rfl)) ?_
                  refine sr_x rfl (wtd_none rfl) rfl (Rd.x (x_add' rfl rfl (i64w (by omega) (by omega)))) ?_
                  refine sr_x rfl (wtd_none rfl) rfl (Rd.x (x_assign rfl)) ?_
                  refine sr_nil ?_
                  show ∃ s', _ ∧ _ ∧ _ ∧ _
                  exact ⟨k + 1, ⟨by omega, fun k' x y hx hy h => (Nat.lt_or_eq_of_le (Nat.le_of_lt_succ h)).elim (hnk k' x y hx hy) fun e => by subst e; rw [hxk] at hx; rw [hxi] at hy; cases hx; cases hy; rintro ⟨q1, q2, q3, q4⟩; first | exact com_no hwk hwi hC (by omega) q1 | omega⟩, by omega, (by repeat (first | exact keep_nil | refine keep_cons rfl ?_)), (by repeat (first | exact Sub.refl _ | apply Sub.drop))⟩
              · refine sr_nil ?_
                refine aw_keep (keep_cons (t := 0) rfl (keep_cons (t := 2) rfl (keep_cons (t := 3) rfl (keep_cons (t := 4) rfl (keep_cons (t := 5) rfl (keep_cons (t := 6) rfl (keep_cons (t := 7) rfl (keep_cons (t := 8) rfl (keep_cons (t := 9) rfl (keep_cons (t := 10) rfl (keep_cons (t := 11) rfl (keep_cons (t := 12) rfl (keep_cons (t := 13) rfl (keep_cons (t := 41) rfl (keep_cons (t := 42) rfl (keep_cons (t := 58) rfl (keep_cons (t := 59) rfl (keep_cons (t := 60) rfl (keep_cons (t := 61) rfl (keep_cons (t := 62) rfl (keep_cons (t := 63) rfl (keep_cons (t := 64) rfl (keep_cons (t := 65) rfl (keep_cons (t := 66) rfl (keep_cons (t := 67) rfl (keep_cons (t := 68) rfl (keep_cons (t := 69) rfl (keep_cons (t := 70) rfl (keep_cons (t := 71) rfl keep_nil))))))))))))))))))))))))))))) ?_
                refine aw_false rfl ?_
                refine aw_skip ?_
                show AW _ _ _ _ _ _ _
                refine aw_seq_region ?_
                refine sr_x rfl (wtd_none rfl) rfl (Rd.x (x_move rfl)) ?_
                refine sr_x rfl (wtd_none rfl) rfl (Rd.x (x_move rfl)) ?_
                refine sr_x rfl (wtd_yes rfl rfl rfl) rfl (Rd.x (x_fieldAddr fd28_6 rfl)) ?_
                refine sr_x rfl (wtd_yes rfl rfl rfl) rfl (Rd.x (x_load ag2 rfl (cells_ext (by repeat (first | exact List.mem_cons_self | apply List.mem_cons_of_mem)) (by repeat (first | exact Ext.all _ | exact Ext.done | apply Ext.take | apply Ext.skip))))) ?_
                refine sr_cmp rfl (wtd_yes rfl rfl rfl) rfl (Rd.x (x_ge rfl rfl)) (fun h15 => ?_) (fun h15 => ?_)
                · refine sr_x rfl (wtd_none rfl) rfl (Rd.x (x_pick_t rfl rfl rfl)) ?_
                  refine sr_x rfl (wtd_none rfl) rfl (Rd.x (x_move rfl)) ?_
                  refine sr_x rfl (wtd_yes rfl rfl rfl) rfl (Rd.x (x_fieldAddr fd28_6 rfl)) ?_
                  refine sr_x rfl (wtd_yes rfl rfl rfl) rfl (Rd.x (x_load ag2 rfl (cells_ext (by repeat (first | exact List.mem_cons_self | apply List.mem_cons_of_mem)) (by repeat (first | exact Ext.all _ | exact Ext.done | apply Ext.take | apply Ext.skip))))) ?_
                  refine sr_cmp rfl (wtd_yes rfl rfl rfl) rfl (Rd.x (x_ge rfl rfl)) (fun h16 => ?_) (fun h16 => ?_)
                  · refine sr_x rfl (wtd_none rfl) rfl (Rd.x (x_pick_t rfl rfl rfl)) ?_
                    refine sr_x rfl (wtd_none rfl) rfl (Rd.x (x_move rfl)) ?_
                    refine sr_x rfl (wtd_yes rfl rfl rfl) rfl (Rd.x (x_move rfl)) ?_
                    refine sr_x rfl (wtd_yes rfl rfl rfl) rfl (Rd.x (x_move rfl)) ?_
                    refine sr_cmp rfl (wtd_yes rfl rfl rfl) rfl (Rd.x (x_lt rfl rfl)) (fun h17 => ?_) (fun h17 => ?_)
                    · refine sr_x rfl (wtd_none rfl) rfl (Rd.x (x_pick_t rfl rfl rfl)) ?_
                      refine sr_nil ?_
                      refine aw_keep (keep_cons (t := 0) rfl (keep_cons (t := 2) rfl (keep_cons (t := 3) rfl (keep_cons (t := 4) rfl (keep_cons (t := 5) rfl (keep_cons (t := 6) rfl (keep_cons (t := 7) rfl (keep_cons (t := 8) rfl (keep_cons (t := 9) rfl (keep_cons (t := 10) rfl (keep_cons (t := 11) rfl (keep_cons (t := 12) rfl (keep_cons (t := 13) rfl (keep_cons (t := 41) rfl (keep_cons (t := 42) rfl (keep_cons (t := 58) rfl (keep_cons (t := 59) rfl (keep_cons (t := 60) rfl (keep_cons (t := 61) rfl (keep_cons (t := 62) rfl (keep_cons (t := 63) rfl (keep_cons (t := 64) rfl (keep_cons (t := 65) rfl (keep_cons (t := 66) rfl (keep_cons (t := 67) rfl (keep_cons (t := 68) rfl (keep_cons (t := 69) rfl (keep_cons (t := 70) rfl (keep_cons (t := 71) rfl (keep_cons (t := 74) rfl (keep_cons (t := 75) rfl (keep_cons (t := 76) rfl (keep_cons (t := 77) rfl (keep_cons (t := 78) rfl (keep_cons (t := 79) rfl (keep_cons (t := 80) rfl (keep_cons (t := 81) rfl (keep_cons (t := 82) rfl (keep_cons (t := 83) rfl (keep_cons (t := 84) rfl (keep_cons (t := 85) rfl (keep_cons (t := 86) rfl (keep_cons (t := 87) rfl (keep_cons (t := 88) rfl (keep_cons (t := 89) rfl keep_nil))))))))))))))))))))))))))))))))))))))))))))) ?_
                      refine aw_true rfl ?_
                      refine aw_seq_region ?_
                      refine sr_x rfl (wtd_none rfl) rfl (Rd.x (x_move rfl)) ?_
                      refine sr_x rfl (wtd_none rfl) rfl (Rd.x (x_move rfl)) ?_
                      refine sr_cmp rfl (wtd_none rfl) rfl (Rd.x (x_eq rfl rfl)) (fun h18 => ?_) (fun h18 => ?_)
                      · refine sr_x rfl (wtd_none rfl) rfl (Rd.x (x_move rfl)) ?_
                        refine sr_x rfl (wtd_yes rfl rfl rfl) rfl (Rd.x (x_move rfl)) ?_
                        refine sr_x rfl (wtd_yes rfl rfl rfl) rfl (Rd.x (x_move rfl)) ?_
                        refine sr_cmp rfl (wtd_yes rfl rfl rfl) rfl (Rd.x (x_eq rfl rfl)) (fun h19 => ?_) (fun h19 => ?_)
                        · refine sr_x rfl (wtd_none rfl) rfl (Rd.x (x_pick_t rfl rfl rfl)) ?_
                          refine sr_x rfl (wtd_none rfl) rfl (Rd.x (x_move rfl)) ?_
                          refine sr_x rfl (wtd_yes rfl rfl rfl) rfl (Rd.x (x_move rfl)) ?_
                          refine sr_x rfl (wtd_none rfl) rfl (Rd.x (x_pick_t rfl rfl rfl)) ?_
                          refine sr_x rfl (wtd_none rfl) rfl (Rd.x (x_move rfl)) ?_
                          refine sr_skip rfl (wtd_no rfl rfl rfl rfl) rfl ?_
                          refine sr_x rfl (wtd_none rfl) rfl (Rd.x (x_pick_f rfl rfl rfl)) ?_
                          refine sr_x rfl (wtd_none rfl) rfl (Rd.x (x_assign rfl)) ?_
                          refine sr_nil ?_
                          refine aw_keep (keep_cons (t := 0) rfl (keep_cons (t := 2) rfl (keep_cons (t := 3) rfl (keep_cons (t := 4) rfl (keep_cons (t := 5) rfl (keep_cons (t := 6) rfl (keep_cons (t := 7) rfl (keep_cons (t := 8) rfl (keep_cons (t := 9) rfl (keep_cons (t := 10) rfl (keep_cons (t := 11) rfl (keep_cons (t := 12) rfl (keep_cons (t := 13) rfl (keep_cons (t := 41) rfl (keep_cons (t := 42) rfl (keep_cons (t := 58) rfl (keep_cons (t := 59) rfl (keep_cons (t := 60) rfl (keep_cons (t := 61) rfl (keep_cons (t := 62) rfl (keep_cons (t := 63) rfl (keep_cons (t := 64) rfl (keep_cons (t := 65) rfl (keep_cons (t := 66) rfl (keep_cons (t := 67) rfl (keep_cons (t := 68) rfl (keep_cons (t := 69) rfl (keep_cons (t := 70) rfl (keep_cons (t := 71) rfl (keep_cons (t := 74) rfl (keep_cons (t := 75) rfl (keep_cons (t := 76) rfl (keep_cons (t := 77) rfl (keep_cons (t := 78) rfl (keep_cons (t := 79) rfl (keep_cons (t := 80) rfl (keep_cons (t := 81) rfl (keep_cons (t := 82) rfl (keep_cons (t := 83) rfl (keep_cons (t := 84) rfl (keep_cons (t := 85) rfl (keep_cons (t := 86) rfl (keep_cons (t := 87) rfl (keep_cons (t := 88) rfl (keep_cons (t := 89) rfl (keep_cons (t := 90) rfl (keep_cons (t := 91) rfl (keep_cons (t := 92) rfl (keep_cons (t := 93) rfl (keep_cons (t := 94) rfl (keep_cons (t := 95) rfl (keep_cons (t := 96) rfl (keep_cons (t := 97) rfl (keep_cons (t := 98) rfl (keep_cons (t := 99) rfl (keep_cons (t := 100) rfl (keep_cons (t := 101) rfl (keep_cons (t := 102) rfl (keep_cons (t := 103) rfl keep_nil))))))))))))))))))))))))))))))))))))))))))))))))))))))))))) ?_
                          refine aw_ret ?_
                          show ∃ v H2, ResV _ _ _ _ _ _ v ∧ Sub H2 _ ∧ _
                          exact ⟨_, _, resV rfl (.cons rfl .nil), (by repeat (first | exact Sub.refl _ | apply Sub.drop)), (by first | rfl | (exfalso; have hh : hit xi xk := ⟨com_yes hwk hwi hC (by omega), by omega, by omega, by omega⟩; first | exact hno0 rfl |>.2.2 k i xk xi hxk hxi (by omega) hh | (have := first_uniq (hok rfl) hxk hxi (by omega) hh hno hnk; omega)) | (exfalso; first | (have := hno0 rfl; omega) | exact (hok rfl).1.elim fun x hx => hx.elim fun y hy => hno _ _ x y hy.1 hy.2.1 hy.2.2.1 (by have := (List.getElem?_eq_some_iff.1 hy.2.1).1; omega) hy.2.2.2))⟩
                        · refine sr_x rfl (wtd_none rfl) rfl (Rd.x (x_pick_t rfl rfl rfl)) ?_
                          refine sr_x rfl (wtd_none rfl) rfl (Rd.x (x_move rfl)) ?_
                          refine sr_skip rfl (wtd_no rfl rfl rfl rfl) rfl ?_
                          refine sr_x rfl (wtd_none rfl) rfl (Rd.x (x_pick_f rfl rfl rfl)) ?_
                          refine sr_x rfl (wtd_none rfl) rfl (Rd.x (x_move rfl)) ?_
                          refine sr_skip rfl (wtd_no rfl rfl rfl rfl) rfl ?_
                          refine sr_x rfl (wtd_none rfl) rfl (Rd.x (x_pick_f rfl rfl rfl)) ?_
                          refine sr_x rfl (wtd_none rfl) rfl (Rd.x (x_assign rfl)) ?_
                          refine sr_nil ?_
                          refine aw_keep (keep_cons (t := 0) rfl (keep_cons (t := 2) rfl (keep_cons (t := 3) rfl (keep_cons (t := 4) rfl (keep_cons (t := 5) rfl (keep_cons (t := 6) rfl (keep_cons (t := 7) rfl (keep_cons (t := 8) rfl (keep_cons (t := 9) rfl (keep_cons (t := 10) rfl (keep_cons (t := 11) rfl (keep_cons (t := 12) rfl (keep_cons (t := 13) rfl (keep_cons (t := 41) rfl (keep_cons (t := 42) rfl (keep_cons (t := 58) rfl (keep_cons (t := 59) rfl (keep_cons (t := 60) rfl (keep_cons (t := 61) rfl (keep_cons (t := 62) rfl (keep_cons (t := 63) rfl (keep_cons (t := 64) rfl (keep_cons (t := 65) rfl (keep_cons (t := 66) rfl (keep_cons (t := 67) rfl (keep_cons (t := 68) rfl (keep_cons (t := 69) rfl (keep_cons (t := 70) rfl (keep_cons (t := 71) rfl (keep_cons (t := 74) rfl (keep_cons (t := 75) rfl (keep_cons (t := 76) rfl (keep_cons (t := 77) rfl (keep_cons (t := 78) rfl (keep_cons (t := 79) rfl (keep_cons (t := 80) rfl (keep_cons (t := 81) rfl (keep_cons (t := 82) rfl (keep_cons (t := 83) rfl (keep_cons (t := 84) rfl (keep_cons (t := 85) rfl (keep_cons (t := 86) rfl (keep_cons (t := 87) rfl (keep_cons (t := 88) rfl (keep_cons (t := 89) rfl (keep_cons (t := 90) rfl (keep_cons (t := 91) rfl (keep_cons (t := 92) rfl (keep_cons (t := 93) rfl (keep_cons (t := 94) rfl (keep_cons (t := 95) rfl (keep_cons (t := 96) rfl (keep_cons (t := 97) rfl (keep_cons (t := 98) rfl (keep_cons (t := 99) rfl (keep_cons (t := 100) rfl (keep_cons (t := 101) rfl (keep_cons (t := 102) rfl (keep_cons (t := 103) rfl keep_nil))))))))))))))))))))))))))))))))))))))))))))))))))))))))))) ?_
                          refine aw_ret ?_
                          show ∃ v H2, ResV _ _ _ _ _ _ v ∧ Sub H2 _ ∧ _
                          exact ⟨_, _, resV rfl (.cons rfl .nil), (by repeat (first | exact Sub.refl _ | apply Sub.drop)), (by first | rfl | (exfalso; have hh : hit xi xk := ⟨com_yes hwk hwi hC (by omega), by omega, by omega, by omega⟩; first | exact hno0 rfl |>.2.2 k i xk xi hxk hxi (by omega) hh | (have := first_uniq (hok rfl) hxk hxi (by omega) hh hno hnk; omega)) | (exfalso; first | (have := hno0 rfl; omega) | exact (hok rfl).1.elim fun x hx => hx.elim fun y hy => hno _ _ x y hy.1 hy.2.1 hy.2.2.1 (by have := (List.getElem?_eq_some_iff.1 hy.2.1).1; omega) hy.2.2.2))⟩
                      · refine sr_x rfl (wtd_none rfl) rfl (Rd.x (x_move rfl)) ?_
                        refine sr_skip rfl (wtd_no rfl rfl rfl rfl) rfl ?_
                        refine sr_skip rfl (wtd_no rfl rfl rfl rfl) rfl ?_
                        refine sr_skip rfl (wtd_no rfl rfl rfl rfl) rfl ?_
                        refine sr_x rfl (wtd_none rfl) rfl (Rd.x (x_pick_f rfl rfl rfl)) ?_
                        refine sr_x rfl (wtd_none rfl) rfl (Rd.x (x_move rfl)) ?_
                        refine sr_skip rfl (wtd_no rfl rfl rfl rfl) rfl ?_
                        refine sr_x rfl (wtd_none rfl) rfl (Rd.x (x_pick_f rfl rfl rfl)) ?_
                        refine sr_x rfl (wtd_none rfl) rfl (Rd.x (x_move rfl)) ?_
                        refine sr_skip rfl (wtd_no rfl rfl rfl rfl) rfl ?_
                        refine sr_x rfl (wtd_none rfl) rfl (Rd.x (x_pick_f rfl rfl rfl)) ?_
                        refine sr_x rfl (wtd_none rfl) rfl (Rd.x (x_assign rfl)) ?_
                        refine sr_nil ?_
                        refine aw_keep (keep_cons (t := 0) rfl (keep_cons (t := 2) rfl (keep_cons (t := 3) rfl (keep_cons (t := 4) rfl (keep_cons (t := 5) rfl (keep_cons (t := 6) rfl (keep_cons (t := 7) rfl (keep_cons (t := 8) rfl (keep_cons (t := 9) rfl (keep_cons (t := 10) rfl (keep_cons (t := 11) rfl (keep_cons (t := 12) rfl (keep_cons (t := 13) rfl (keep_cons (t := 41) rfl (keep_cons (t := 42) rfl (keep_cons (t := 58) rfl (keep_cons (t := 59) rfl (keep_cons (t := 60) rfl (keep_cons (t := 61) rfl (keep_cons (t := 62) rfl (keep_cons (t := 63) rfl (keep_cons (t := 64) rfl (keep_cons (t := 65) rfl (keep_cons (t := 66) rfl (keep_cons (t := 67) rfl (keep_cons (t := 68) rfl (keep_cons (t := 69) rfl (keep_cons (t := 70) rfl (keep_cons (t := 71) rfl (keep_cons (t := 74) rfl (keep_cons (t := 75) rfl (keep_cons (t := 76) rfl (keep_cons (t := 77) rfl (keep_cons (t := 78) rfl (keep_cons (t := 79) rfl (keep_cons (t := 80) rfl (keep_cons (t := 81) rfl (keep_cons (t := 82) rfl (keep_cons (t := 83) rfl (keep_cons (t := 84) rfl (keep_cons (t := 85) rfl (keep_cons (t := 86) rfl (keep_cons (t := 87) rfl (keep_cons (t := 88) rfl (keep_cons (t := 89) rfl (keep_cons (t := 90) rfl (keep_cons (t := 91) rfl (keep_cons (t := 92) rfl (keep_cons (t := 93) rfl (keep_cons (t := 94) rfl (keep_cons (t := 95) rfl (keep_cons (t := 96) rfl (keep_cons (t := 97) rfl (keep_cons (t := 98) rfl (keep_cons (t := 99) rfl (keep_cons (t := 100) rfl (keep_cons (t := 101) rfl (keep_cons (t := 102) rfl (keep_cons (t := 103) rfl keep_nil))))))))))))))))))))))))))))))))))))))))))))))))))))))))))) ?_
                        refine aw_ret ?_
                        show ∃ v H2, ResV _ _ _ _ _ _ v ∧ Sub H2 _ ∧ _
                        exact ⟨_, _, resV rfl (.cons rfl .nil), (by repeat (first | exact Sub.refl _ | apply Sub.drop)), (by first | rfl | (exfalso; have hh : hit xi xk := ⟨com_yes hwk hwi hC (by omega), by omega, by omega, by omega⟩; first | exact hno0 rfl |>.2.2 k i xk xi hxk hxi (by omega) hh | (have := first_uniq (hok rfl) hxk hxi (by omega) hh hno hnk; omega)) | (exfalso; first | (have := hno0 rfl; omega) | exact (hok rfl).1.elim fun x hx => hx.elim fun y hy => hno _ _ x y hy.1 hy.2.1 hy.2.2.1 (by have := (List.getElem?_eq_some_iff.1 hy.2.1).1; omega) hy.2.2.2))⟩
                    · refine sr_x rfl (wtd_none rfl) rfl (Rd.x (x_pick_t rfl rfl rfl)) ?_
                      refine sr_nil ?_
                      refine aw_keep (keep_cons (t := 0) rfl (keep_cons (t := 2) rfl (keep_cons (t := 3) rfl (keep_cons (t := 4) rfl (keep_cons (t := 5) rfl (keep_cons (t := 6) rfl (keep_cons (t := 7) rfl (keep_cons (t := 8) rfl (keep_cons (t := 9) rfl (keep_cons (t := 10) rfl (keep_cons (t := 11) rfl (keep_cons (t := 12) rfl (keep_cons (t := 13) rfl (keep_cons (t := 41) rfl (keep_cons (t := 42) rfl (keep_cons (t := 58) rfl (keep_cons (t := 59) rfl (keep_cons (t := 60) rfl (keep_cons (t := 61) rfl (keep_cons (t := 62) rfl (keep_cons (t := 63) rfl (keep_cons (t := 64) rfl (keep_cons (t := 65) rfl (keep_cons (t := 66) rfl (keep_cons (t := 67) rfl (keep_cons (t := 68) rfl (keep_cons (t := 69) rfl (keep_cons (t := 70) rfl (keep_cons (t := 71) rfl (keep_cons (t := 74) rfl (keep_cons (t := 75) rfl (keep_cons (t := 76) rfl (keep_cons (t := 77) rfl (keep_cons (t := 78) rfl (keep_cons (t := 79) rfl (keep_cons (t := 80) rfl (keep_cons (t := 81) rfl (keep_cons (t := 82) rfl (keep_cons (t := 83) rfl (keep_cons (t := 84) rfl (keep_cons (t := 85) rfl (keep_cons (t := 86) rfl (keep_cons (t := 87) rfl (keep_cons (t := 88) rfl (keep_cons (t := 89) rfl keep_nil))))))))))))))))))))))))))))))))))))))))))))) ?_
                      refine aw_false rfl ?_
                      refine aw_skip ?_
                      show AW _ _ _ _ _ _ _
                      refine aw_region ?_
                      refine sr_x rfl (wtd_none rfl) rfl (Rd.x (x_move rfl)) ?_
                      refine sr_x rfl (wtd_none rfl) rfl (Rd.x (x_add' rfl rfl (i64w (by omega) (by omega)))) ?_
                      refine sr_x rfl (wtd_none rfl) rfl (Rd.x (x_assign rfl)) ?_
                      refine sr_nil ?_
                      show ∃ s', _ ∧ _ ∧ _ ∧ _
                      exact ⟨k + 1, ⟨by omega, fun k' x y hx hy h => (Nat.lt_or_eq_of_le (Nat.le_of_lt_succ h)).elim (hnk k' x y hx hy) fun e => by subst e; rw [hxk] at hx; rw [hxi] at hy; cases hx; cases hy; rintro ⟨q1, q2, q3, q4⟩; first | exact com_no hwk hwi hC (by omega) q1 | omega⟩, by omega, (by repeat (first | exact keep_nil | refine keep_cons rfl ?_)), (by repeat (first | exact Sub.refl _ | apply Sub.drop))⟩
                  · refine sr_x rfl (wtd_none rfl) rfl (Rd.x (x_pick_t rfl rfl rfl)) ?_
                    refine sr_x rfl (wtd_none rfl) rfl (Rd.x (x_move rfl)) ?_
                    refine sr_skip rfl (wtd_no rfl rfl rfl rfl) rfl ?_
                    refine sr_skip rfl (wtd_no rfl rfl rfl rfl) rfl ?_
                    refine sr_skip rfl (wtd_no rfl rfl rfl rfl) rfl ?_
                    refine sr_x rfl (wtd_none rfl) rfl (Rd.x (x_pick_f rfl rfl rfl)) ?_
                    refine sr_nil ?_
                    refine aw_keep (keep_cons (t := 0) rfl (keep_cons (t := 2) rfl (keep_cons (t := 3) rfl (keep_cons (t := 4) rfl (keep_cons (t := 5) rfl (keep_cons (t := 6) rfl (keep_cons (t := 7) rfl (keep_cons (t := 8) rfl (keep_cons (t := 9) rfl (keep_cons (t := 10) rfl (keep_cons (t := 11) rfl (keep_cons (t := 12) rfl (keep_cons (t := 13) rfl (keep_cons (t := 41) rfl (keep_cons (t := 42) rfl (keep_cons (t := 58) rfl (keep_cons (t := 59) rfl (keep_cons (t := 60) rfl (keep_cons (t := 61) rfl (keep_cons (t := 62) rfl (keep_cons (t := 63) rfl (keep_cons (t := 64) rfl (keep_cons (t := 65) rfl (keep_cons (t := 66) rfl (keep_cons (t := 67) rfl (keep_cons (t := 68) rfl (keep_cons (t := 69) rfl (keep_cons (t := 70) rfl (keep_cons (t := 71) rfl (keep_cons (t := 74) rfl (keep_cons (t := 75) rfl (keep_cons (t := 76) rfl (keep_cons (t := 77) rfl (keep_cons (t := 78) rfl (keep_cons (t := 79) rfl (keep_cons (t := 80) rfl (keep_cons (t := 81) rfl (keep_cons (t := 82) rfl (keep_cons (t := 83) rfl (keep_cons (t := 84) rfl (keep_cons (t := 85) rfl (keep_cons (t := 86) rfl (keep_cons (t := 87) rfl (keep_cons (t := 88) rfl (keep_cons (t := 89) rfl keep_nil))))))))))))))))))))))))))))))))))))))))))))) ?_
                    refine aw_false rfl ?_
                    refine aw_skip ?_
                    show AW _ _ _ _ _ _ _
                    refine aw_region ?_
                    refine sr_x rfl (wtd_none rfl) rfl (Rd.x (x_move rfl)) ?_
                    refine sr_x rfl (wtd_none rfl) rfl (Rd.x (x_add' rfl rfl (i64w (by omega) (by omega)))) ?_
                    refine sr_x rfl (wtd_none rfl) rfl (Rd.x (x_assign rfl)) ?_
                    refine sr_nil ?_
                    show ∃ s', _ ∧ _ ∧ _ ∧ _
                    exact ⟨k + 1, ⟨by omega, fun k' x y hx hy h => (Nat.lt_or_eq_of_le (Nat.le_of_lt_succ h)).elim (hnk k' x y hx hy) fun e => by subst e; rw [hxk] at hx; rw [hxi] at hy; cases hx; cases hy; rintro ⟨q1, q2, q3, q4⟩; first | exact com_no hwk hwi hC (by omega) q1 | omega⟩, by omega, (by repeat (first | exact keep_nil | refine keep_cons rfl ?_)), (by repeat (first | exact Sub.refl _ | apply Sub.drop))⟩
                · refine sr_x rfl (wtd_none rfl) rfl (Rd.x (x_pick_t rfl rfl rfl)) ?_
                  refine sr_x rfl (wtd_none rfl) rfl (Rd.x (x_move rfl)) ?_
                  refine sr_skip rfl (wtd_no rfl rfl rfl rfl) rfl ?_
                  refine sr_skip rfl (wtd_no rfl rfl rfl rfl) rfl ?_
                  refine sr_skip rfl (wtd_no rfl rfl rfl rfl) rfl ?_
                  refine sr_x rfl (wtd_none rfl) rfl (Rd.x (x_pick_f rfl rfl rfl)) ?_
                  refine sr_x rfl (wtd_none rfl) rfl (Rd.x (x_move rfl)) ?_
                  refine sr_skip rfl (wtd_no rfl rfl rfl rfl) rfl ?_
                  refine sr_skip rfl (wtd_no rfl rfl rfl rfl) rfl ?_
                  refine sr_skip rfl (wtd_no rfl rfl rfl rfl) rfl ?_
                  refine sr_x rfl (wtd_none rfl) rfl (Rd.x (x_pick_f rfl rfl rfl)) ?_
                  refine sr_nil ?_
                  refine aw_keep (keep_cons (t := 0) rfl (keep_cons (t := 2) rfl (keep_cons (t := 3) rfl (keep_cons (t := 4) rfl (keep_cons (t := 5) rfl (keep_cons (t := 6) rfl (keep_cons (t := 7) rfl (keep_cons (t := 8) rfl (keep_cons (t := 9) rfl (keep_cons (t := 10) rfl (keep_cons (t := 11) rfl (keep_cons (t := 12) rfl (keep_cons (t := 13) rfl (keep_cons (t := 41) rfl (keep_cons (t := 42) rfl (keep_cons (t := 58) rfl (keep_cons (t := 59) rfl (keep_cons (t := 60) rfl (keep_cons (t := 61) rfl (keep_cons (t := 62) rfl (keep_cons (t := 63) rfl (keep_cons (t := 64) rfl (keep_cons (t := 65) rfl (keep_cons (t := 66) rfl (keep_cons (t := 67) rfl (keep_cons (t := 68) rfl (keep_cons (t := 69) rfl (keep_cons (t := 70) rfl (keep_cons (t := 71) rfl (keep_cons (t := 74) rfl (keep_cons (t := 75) rfl (keep_cons (t := 76) rfl (keep_cons (t := 77) rfl (keep_cons (t := 78) rfl (keep_cons (t := 79) rfl (keep_cons (t := 80) rfl (keep_cons (t := 81) rfl (keep_cons (t := 82) rfl (keep_cons (t := 83) rfl (keep_cons (t := 84) rfl (keep_cons (t := 85) rfl (keep_cons (t := 86) rfl (keep_cons (t := 87) rfl (keep_cons (t := 88) rfl (keep_cons (t := 89) rfl keep_nil))))))))))))))))))))))))))))))))))))))))))))) ?_
                  refine aw_false rfl ?_
                  refine aw_skip ?_
                  show AW _ _ _ _ _ _ _
                  refine aw_region ?_
                  refine sr_x rfl (wtd_none rfl) rfl (Rd.x (x_move rfl)) ?_
                  refine sr_x rfl (wtd_none rfl) rfl (Rd.x (x_add' rfl rfl (i64w (by omega) (by omega)))) ?_
                  refine sr_x rfl (wtd_none rfl) rfl (Rd.x (x_assign rfl)) ?_
                  refine sr_nil ?_
                  show ∃ s', _ ∧ _ ∧ _ ∧ _
                  exact ⟨k + 1, ⟨by omega, fun k' x y hx hy h => (Nat.lt_or_eq_of_le (Nat.le_of_lt_succ h)).elim (hnk k' x y hx hy) fun e => by subst e; rw [hxk] at hx; rw [hxi] at hy; cases hx; cases hy; rintro ⟨q1, q2, q3, q4⟩; first | exact com_no hwk hwi hC (by omega) q1 | omega⟩, by omega, (by repeat (first | exact keep_nil | refine keep_cons rfl ?_)), (by repeat (first | exact Sub.refl _ | apply Sub.drop))⟩
            · refine sr_nil ?_
              refine aw_keep (keep_cons (t := 0) rfl (keep_cons (t := 2) rfl (keep_cons (t := 3) rfl (keep_cons (t := 4) rfl (keep_cons (t := 5) rfl (keep_cons (t := 6) rfl (keep_cons (t := 7) rfl (keep_cons (t := 8) rfl (keep_cons (t := 9) rfl (keep_cons (t := 10) rfl (keep_cons (t := 11) rfl (keep_cons (t := 12) rfl (keep_cons (t := 13) rfl (keep_cons (t := 41) rfl (keep_cons (t := 42) rfl (keep_cons (t := 58) rfl (keep_cons (t := 59) rfl (keep_cons (t := 60) rfl (keep_cons (t := 61) rfl (keep_cons (t := 62) rfl (keep_cons (t := 63) rfl (keep_cons (t := 64) rfl (keep_cons (t := 65) rfl keep_nil))))))))))))))))))))))) ?_
              refine aw_false rfl ?_
              refine aw_skip ?_
              show AW _ _ _ _ _ _ _
              refine aw_seq ?_
              refine aw_seq_region ?_
              refine sr_x rfl (wtd_none rfl) rfl (Rd.x (x_fieldAddr fd28_7 rfl)) ?_
              refine sr_x rfl (wtd_none rfl) rfl (Rd.x (x_load ag2 rfl (cells_ext (by repeat (first | exact List.mem_cons_self | apply List.mem_cons_of_mem)) (by repeat (first | exact Ext.all _ | exact Ext.done | apply Ext.take | apply Ext.skip))))) ?_
              refine sr_x rfl (wtd_none rfl) rfl (Rd.x (x_move rfl)) ?_
              refine sr_cmp rfl (wtd_none rfl) rfl (Rd.x (x_lt rfl rfl)) (fun h20 => ?_) (fun h20 => ?_)
              · refine sr_nil ?_
                refine aw_keep (keep_cons (t := 0) rfl (keep_cons (t := 2) rfl (keep_cons (t := 3) rfl (keep_cons (t := 4) rfl (keep_cons (t := 5) rfl (keep_cons (t := 6) rfl (keep_cons (t := 7) rfl (keep_cons (t := 8) rfl (keep_cons (t := 9) rfl (keep_cons (t := 10) rfl (keep_cons (t := 11) rfl (keep_cons (t := 12) rfl (keep_cons (t := 13) rfl (keep_cons (t := 41) rfl (keep_cons (t := 42) rfl (keep_cons (t := 58) rfl (keep_cons (t := 59) rfl (keep_cons (t := 60) rfl (keep_cons (t := 61) rfl (keep_cons (t := 62) rfl (keep_cons (t := 63) rfl (keep_cons (t := 64) rfl (keep_cons (t := 65) rfl (keep_cons (t := 68) rfl (keep_cons (t := 69) rfl (keep_cons (t := 70) rfl (keep_cons (t := 71) rfl keep_nil))))))))))))))))))))))))))) ?_
                refine aw_true rfl ?_
                refine aw_region ?_
                refine sr_x rfl (wtd_none rfl) rfl (Rd.x (x_fieldAddr fd28_7 rfl)) ?_
                refine sr_x rfl (wtd_none rfl) rfl (Rd.x (x_load ag2 rfl (cells_ext (by repeat (first | exact List.mem_cons_self | apply List.mem_cons_of_mem)) (by repeat (first | exact Ext.all _ | exact Ext.done | apply Ext.take | apply Ext.skip))))) ?_
                refine sr_x rfl (wtd_none rfl) rfl (Rd.x (x_assign rfl)) ?_
                refine sr_nil ?_
                show AW _ _ _ _ _ _ _
                refine aw_seq_region ?_
                refine sr_x rfl (wtd_none rfl) rfl (Rd.x (x_move rfl)) ?_
                refine sr_x rfl (wtd_none rfl) rfl (Rd.x (x_move rfl)) ?_
                refine sr_x rfl (wtd_yes rfl rfl rfl) rfl (Rd.x (x_fieldAddr fd28_6 rfl)) ?_
                refine sr_x rfl (wtd_yes rfl rfl rfl) rfl (Rd.x (x_load ag2 rfl (cells_ext (by repeat (first | exact List.mem_cons_self | apply List.mem_cons_of_mem)) (by repeat (first | exact Ext.all _ | exact Ext.done | apply Ext.take | apply Ext.skip))))) ?_
                refine sr_cmp rfl (wtd_yes rfl rfl rfl) rfl (Rd.x (x_ge rfl rfl)) (fun h21 => ?_) (fun h21 => ?_)
                · refine sr_x rfl (wtd_none rfl) rfl (Rd.x (x_pick_t rfl rfl rfl)) ?_
                  refine sr_x rfl (wtd_none rfl) rfl (Rd.x (x_move rfl)) ?_
                  refine sr_x rfl (wtd_yes rfl rfl rfl) rfl (Rd.x (x_fieldAddr fd28_6 rfl)) ?_
                  refine sr_x rfl (wtd_yes rfl rfl rfl) rfl (Rd.x (x_load ag2 rfl (cells_ext (by repeat (first | exact List.mem_cons_self | apply List.mem_cons_of_mem)) (by repeat (first | exact Ext.all _ | exact Ext.done | apply Ext.take | apply Ext.skip))))) ?_
                  refine sr_cmp rfl (wtd_yes rfl rfl rfl) rfl (Rd.x (x_ge rfl rfl)) (fun h22 => ?_) (fun h22 => ?_)
                  · refine sr_x rfl (wtd_none rfl) rfl (Rd.x (x_pick_t rfl rfl rfl)) ?_
                    refine sr_x rfl (wtd_none rfl) rfl (Rd.x (x_move rfl)) ?_
                    refine sr_x rfl (wtd_yes rfl rfl rfl) rfl (Rd.x (x_move rfl)) ?_
                    refine sr_x rfl (wtd_yes rfl rfl rfl) rfl (Rd.x (x_move rfl)) ?_
                    refine sr_cmp rfl (wtd_yes rfl rfl rfl) rfl (Rd.x (x_lt rfl rfl)) (fun h23 => ?_) (fun h23 => ?_)
                    · refine sr_x rfl (wtd_none rfl) rfl (Rd.x (x_pick_t rfl rfl rfl)) ?_
                      refine sr_nil ?_
                      refine aw_keep (keep_cons (t := 0) rfl (keep_cons (t := 2) rfl (keep_cons (t := 3) rfl (keep_cons (t := 4) rfl (keep_cons (t := 5) rfl (keep_cons (t := 6) rfl (keep_cons (t := 7) rfl (keep_cons (t := 8) rfl (keep_cons (t := 9) rfl (keep_cons (t := 10) rfl (keep_cons (t := 11) rfl (keep_cons (t := 12) rfl (keep_cons (t := 13) rfl (keep_cons (t := 41) rfl (keep_cons (t := 42) rfl (keep_cons (t := 58) rfl (keep_cons (t := 59) rfl (keep_cons (t := 60) rfl (keep_cons (t := 61) rfl (keep_cons (t := 62) rfl (keep_cons (t := 63) rfl (keep_cons (t := 64) rfl (keep_cons (t := 65) rfl (keep_cons (t := 68) rfl (keep_cons (t := 69) rfl (keep_cons (t := 70) rfl (keep_cons (t := 71) rfl (keep_cons (t := 72) rfl (keep_cons (t := 73) rfl (keep_cons (t := 74) rfl (keep_cons (t := 75) rfl (keep_cons (t := 76) rfl (keep_cons (t := 77) rfl (keep_cons (t := 78) rfl (keep_cons (t := 79) rfl (keep_cons (t := 80) rfl (keep_cons (t := 81) rfl (keep_cons (t := 82) rfl (keep_cons (t := 83) rfl (keep_cons (t := 84) rfl (keep_cons (t := 85) rfl (keep_cons (t := 86) rfl (keep_cons (t := 87) rfl (keep_cons (t := 88) rfl (keep_cons (t := 89) rfl keep_nil))))))))))))))))))))))))))))))))))))))))))))) ?_
                      refine aw_true rfl ?_
                      refine aw_seq_region ?_
                      refine sr_x rfl (wtd_none rfl) rfl (Rd.x (x_move rfl)) ?_
                      refine sr_x rfl (wtd_none rfl) rfl (Rd.x (x_move rfl)) ?_
                      refine sr_cmp rfl (wtd_none rfl) rfl (Rd.x (x_eq rfl rfl)) (fun h24 => ?_) (fun h24 => ?_)
                      · refine sr_x rfl (wtd_none rfl) rfl (Rd.x (x_move rfl)) ?_
                        refine sr_x rfl (wtd_yes rfl rfl rfl) rfl (Rd.x (x_move rfl)) ?_
                        refine sr_x rfl (wtd_yes rfl rfl rfl) rfl (Rd.x (x_move rfl)) ?_
                        refine sr_cmp rfl (wtd_yes rfl rfl rfl) rfl (Rd.x (x_eq rfl rfl)) (fun h25 => ?_) (fun h25 => ?_)
                        · refine sr_x rfl (wtd_none rfl) rfl (Rd.x (x_pick_t rfl rfl rfl)) ?_
                          refine sr_x rfl (wtd_none rfl) rfl (Rd.x (x_move rfl)) ?_
                          refine sr_x rfl (wtd_yes rfl rfl rfl) rfl (Rd.x (x_move rfl)) ?_
                          refine sr_x rfl (wtd_none rfl) rfl (Rd.x (x_pick_t rfl rfl rfl)) ?_
                          refine sr_x rfl (wtd_none rfl) rfl (Rd.x (x_move rfl)) ?_
                          refine sr_skip rfl (wtd_no rfl rfl rfl rfl) rfl ?_
                          refine sr_x rfl (wtd_none rfl) rfl (Rd.x (x_pick_f rfl rfl rfl)) ?_
                          refine sr_x rfl (wtd_none rfl) rfl (Rd.x (x_assign rfl)) ?_
                          refine sr_nil ?_
                          refine aw_keep (keep_cons (t := 0) rfl (keep_cons (t := 2) rfl (keep_cons (t := 3) rfl (keep_cons (t := 4) rfl (keep_cons (t := 5) rfl (keep_cons (t := 6) rfl (keep_cons (t := 7) rfl (keep_cons (t := 8) rfl (keep_cons (t := 9) rfl (keep_cons (t := 10) rfl (keep_cons (t := 11) rfl (keep_cons (t := 12) rfl (keep_cons (t := 13) rfl (keep_cons (t := 41) rfl (keep_cons (t := 42) rfl (keep_cons (t := 58) rfl (keep_cons (t := 59) rfl (keep_cons (t := 60) rfl (keep_cons (t := 61) rfl (keep_cons (t := 62) rfl (keep_cons (t := 63) rfl (keep_cons (t := 64) rfl (keep_cons (t := 65) rfl (keep_cons (t := 68) rfl (keep_cons (t := 69) rfl (keep_cons (t := 70) rfl (keep_cons (t := 71) rfl (keep_cons (t := 72) rfl (keep_cons (t := 73) rfl (keep_cons (t := 74) rfl (keep_cons (t := 75) rfl (keep_cons (t := 76) rfl (keep_cons (t := 77) rfl (keep_cons (t := 78) rfl (keep_cons (t := 79) rfl (keep_cons (t := 80) rfl (keep_cons (t := 81) rfl (keep_cons (t := 82) rfl (keep_cons (t := 83) rfl (keep_cons (t := 84) rfl (keep_cons (t := 85) rfl (keep_cons (t := 86) rfl (keep_cons (t := 87) rfl (keep_cons (t := 88) rfl (keep_cons (t := 89) rfl (keep_cons (t := 90) rfl (keep_cons (t := 91) rfl (keep_cons (t := 92) rfl (keep_cons (t := 93) rfl (keep_cons (t := 94) rfl (keep_cons (t := 95) rfl (keep_cons (t := 96) rfl (keep_cons (t := 97) rfl (keep_cons (t := 98) rfl (keep_cons (t := 99) rfl (keep_cons (t := 100) rfl (keep_cons (t := 101) rfl (keep_cons (t := 102) rfl (keep_cons (t := 103) rfl keep_nil))))))))))))))))))))))))))))))))))))))))))))))))))))))))))) ?_
                          refine aw_ret ?_
                          show ∃ v H2, ResV _ _ _ _ _ _ v ∧ Sub H2 _ ∧ _
                          exact ⟨_, _, resV rfl (.cons rfl .nil), (by repeat (first | exact Sub.refl _ | apply Sub.drop)), (by first | rfl | (exfalso; have hh : hit xi xk := ⟨com_yes hwk hwi hC (by omega), by omega, by omega, by omega⟩; first | exact hno0 rfl |>.2.2 k i xk xi hxk hxi (by omega) hh | (have := first_uniq (hok rfl) hxk hxi (by omega) hh hno hnk; omega)) | (exfalso; first | (have := hno0 rfl; omega) | exact (hok rfl).1.elim fun x hx => hx.elim fun y hy => hno _ _ x y hy.1 hy.2.1 hy.2.2.1 (by have := (List.getElem?_eq_some_iff.1 hy.2.1).1; omega) hy.2.2.2))⟩
                        · refine sr_x rfl (wtd_none rfl) rfl (Rd.x (x_pick_t rfl rfl rfl)) ?_
                          refine sr_x rfl (wtd_none rfl) rfl (Rd.x (x_move rfl)) ?_
                          refine sr_skip rfl (wtd_no rfl rfl rfl rfl) rfl ?_
                          refine sr_x rfl (wtd_none rfl) rfl (Rd.x (x_pick_f rfl rfl rfl)) ?_
                          refine sr_x rfl (wtd_none rfl) rfl (Rd.x (x_move rfl)) ?_
                          refine sr_skip rfl (wtd_no rfl rfl rfl rfl) rfl ?_
                          refine sr_x rfl (wtd_none rfl) rfl (Rd.x (x_pick_f rfl rfl rfl)) ?_
                          refine sr_x rfl (wtd_none rfl) rfl (Rd.x (x_assign rfl)) ?_
                          refine sr_nil ?_
                          refine aw_keep (keep_cons (t := 0) rfl (keep_cons (t := 2) rfl (keep_cons (t := 3) rfl (keep_cons (t := 4) rfl (keep_cons (t := 5) rfl (keep_cons (t := 6) rfl (keep_cons (t := 7) rfl (keep_cons (t := 8) rfl (keep_cons (t := 9) rfl (keep_cons (t := 10) rfl (keep_cons (t := 11) rfl (keep_cons (t := 12) rfl (keep_cons (t := 13) rfl (keep_cons (t := 41) rfl (keep_cons (t := 42) rfl (keep_cons (t := 58) rfl (keep_cons (t := 59) rfl (keep_cons (t := 60) rfl (keep_cons (t := 61) rfl (keep_cons (t := 62) rfl (keep_cons (t := 63) rfl (keep_cons (t := 64) rfl (keep_cons (t := 65) rfl (keep_cons (t := 68) rfl (keep_cons (t := 69) rfl (keep_cons (t := 70) rfl (keep_cons (t := 71) rfl (keep_cons (t := 72) rfl (keep_cons (t := 73) rfl (keep_cons (t := 74) rfl (keep_cons (t := 75) rfl (keep_cons (t := 76) rfl (keep_cons (t := 77) rfl (keep_cons (t := 78) rfl (keep_cons (t := 79) rfl (keep_cons (t := 80) rfl (keep_cons (t := 81) rfl (keep_cons (t := 82) rfl (keep_cons (t := 83) rfl (keep_cons (t := 84) rfl (keep_cons (t := 85) rfl (keep_cons (t := 86) rfl (keep_cons (t := 87) rfl (keep_cons (t := 88) rfl (keep_cons (t := 89) rfl (keep_cons (t := 90) rfl (keep_cons (t := 91) rfl (keep_cons (t := 92) rfl (keep_cons (t := 93) rfl (keep_cons (t := 94) rfl (keep_cons (t := 95) rfl (keep_cons (t := 96) rfl (keep_cons (t := 97) rfl (keep_cons (t := 98) rfl (keep_cons (t := 99) rfl (keep_cons (t := 100) rfl (keep_cons (t := 101) rfl (keep_cons (t := 102) rfl (keep_cons (t := 103) rfl keep_nil))))))))))))))))))))))))))))))))))))))))))))))))))))))))))) ?_
                          refine aw_ret ?_
                          show ∃ v H2, ResV _ _ _ _ _ _ v ∧ Sub H2 _ ∧ _
                          exact ⟨_, _, resV rfl (.cons rfl .nil), (by repeat (first | exact Sub.refl _ | apply Sub.drop)), (by first | rfl | (exfalso; have hh : hit xi xk := ⟨com_yes hwk hwi hC (by omega), by omega, by omega, by omega⟩; first | exact hno0 rfl |>.2.2 k i xk xi hxk hxi (by omega) hh | (have := first_uniq (hok rfl) hxk hxi (by omega) hh hno hnk; omega)) | (exfalso; first | (have := hno0 rfl; omega) | exact (hok rfl).1.elim fun x hx => hx.elim fun y hy => hno _ _ x y hy.1 hy.2.1 hy.2.2.1 (by have := (List.getElem?_eq_some_iff.1 hy.2.1).1; omega) hy.2.2.2))⟩
                      · refine sr_x rfl (wtd_none rfl) rfl (Rd.x (x_move rfl)) ?_
                        refine sr_skip rfl (wtd_no rfl rfl rfl rfl) rfl ?_
                        refine sr_skip rfl (wtd_no rfl rfl rfl rfl) rfl ?_
                        refine sr_skip rfl (wtd_no rfl rfl rfl rfl) rfl ?_
                        refine sr_x rfl (wtd_none rfl) rfl (Rd.x (x_pick_f rfl rfl rfl)) ?_
                        refine sr_x rfl (wtd_none rfl) rfl (Rd.x (x_move rfl)) ?_
                        refine sr_skip rfl (wtd_no rfl rfl rfl rfl) rfl ?_
                        refine sr_x rfl (wtd_none rfl) rfl (Rd.x (x_pick_f rfl rfl rfl)) ?_
                        refine sr_x rfl (wtd_none rfl) rfl (Rd.x (x_move rfl)) ?_
                        refine sr_skip rfl (wtd_no rfl rfl rfl rfl) rfl ?_
                        refine sr_x rfl (wtd_none rfl) rfl (Rd.x (x_pick_f rfl rfl rfl)) ?_
                        refine sr_x rfl (wtd_none rfl) rfl (Rd.x (x_assign rfl)) ?_
                        refine sr_nil ?_
                        refine aw_keep (keep_cons (t := 0) rfl (keep_cons (t := 2) rfl (keep_cons (t := 3) rfl (keep_cons (t := 4) rfl (keep_cons (t := 5) rfl (keep_cons (t := 6) rfl (keep_cons (t := 7) rfl (keep_cons (t := 8) rfl (keep_cons (t := 9) rfl (keep_cons (t := 10) rfl (keep_cons (t := 11) rfl (keep_cons (t := 12) rfl (keep_cons (t := 13) rfl (keep_cons (t := 41) rfl (keep_cons (t := 42) rfl (keep_cons (t := 58) rfl (keep_cons (t := 59) rfl (keep_cons (t := 60) rfl (keep_cons (t := 61) rfl (keep_cons (t := 62) rfl (keep_cons (t := 63) rfl (keep_cons (t := 64) rfl (keep_cons (t := 65) rfl (keep_cons (t := 68) rfl (keep_cons (t := 69) rfl (keep_cons (t := 70) rfl (keep_cons (t := 71) rfl (keep_cons (t := 72) rfl (keep_cons (t := 73) rfl (keep_cons (t := 74) rfl (keep_cons (t := 75) rfl (keep_cons (t := 76) rfl (keep_cons (t := 77) rfl (keep_cons (t := 78) rfl (keep_cons (t := 79) rfl (keep_cons (t := 80) rfl (keep_cons (t := 81) rfl (keep_cons (t := 82) rfl (keep_cons (t := 83) rfl (keep_cons (t := 84) rfl (keep_cons (t := 85) rfl (keep_cons (t := 86) rfl (keep_cons (t := 87) rfl (keep_cons (t := 88) rfl (keep_cons (t := 89) rfl (keep_cons (t := 90) rfl (keep_cons (t := 91) rfl (keep_cons (t := 92) rfl (keep_cons (t := 93) rfl (keep_cons (t := 94) rfl (keep_cons (t := 95) rfl (keep_cons (t := 96) rfl (keep_cons (t := 97) rfl (keep_cons (t := 98) rfl (keep_cons (t := 99) rfl (keep_cons (t := 100) rfl (keep_cons (t := 101) rfl (keep_cons (t := 102) rfl (keep_cons (t := 103) rfl keep_nil))))))))))))))))))))))))))))))))))))))))))))))))))))))))))) ?_
                        refine aw_ret ?_
                        show ∃ v H2, ResV _ _ _ _ _ _ v ∧ Sub H2 _ ∧ _
                        exact ⟨_, _, resV rfl (.cons rfl .nil), (by repeat (first | exact Sub.refl _ | apply Sub.drop)), (by first | rfl | (exfalso; have hh : hit xi xk := ⟨com_yes hwk hwi hC (by omega), by omega, by omega, by omega⟩; first | exact hno0 rfl |>.2.2 k i xk xi hxk hxi (by omega) hh | (have := first_uniq (hok rfl) hxk hxi (by omega) hh hno hnk; omega)) | (exfalso; first | (have := hno0 rfl; omega) | exact (hok rfl).1.elim fun x hx => hx.elim fun y hy => hno _ _ x y hy.1 hy.2.1 hy.2.2.1 (by have := (List.getElem?_eq_some_iff.1 hy.2.1).1; omega) hy.2.2.2))⟩
                    · refine sr_x rfl (wtd_none rfl) rfl (Rd.x (x_pick_t rfl rfl rfl)) ?_
                      refine sr_nil ?_
                      refine aw_keep (keep_cons (t := 0) rfl (keep_cons (t := 2) rfl (keep_cons (t := 3) rfl (keep_cons (t := 4) rfl (keep_cons (t := 5) rfl (keep_cons (t := 6) rfl (keep_cons (t := 7) rfl (keep_cons (t := 8) rfl (keep_cons (t := 9) rfl (keep_cons (t := 10) rfl (keep_cons (t := 11) rfl (keep_cons (t := 12) rfl (keep_cons (t := 13) rfl (keep_cons (t := 41) rfl (keep_cons (t := 42) rfl (keep_cons (t := 58) rfl (keep_cons (t := 59) rfl (keep_cons (t := 60) rfl (keep_cons (t := 61) rfl (keep_cons (t := 62) rfl (keep_cons (t := 63) rfl (keep_cons (t := 64) rfl (keep_cons (t := 65) rfl (keep_cons (t := 68) rfl (keep_cons (t := 69) rfl (keep_cons (t := 70) rfl (keep_cons (t := 71) rfl (keep_cons (t := 72) rfl (keep_cons (t := 73) rfl (keep_cons (t := 74) rfl (keep_cons (t := 75) rfl (keep_cons (t := 76) rfl (keep_cons (t := 77) rfl (keep_cons (t := 78) rfl (keep_cons (t := 79) rfl (keep_cons (t := 80) rfl (keep_cons (t := 81) rfl (keep_cons (t := 82) rfl (keep_cons (t := 83) rfl (keep_cons (t := 84) rfl (keep_cons (t := 85) rfl (keep_cons (t := 86) rfl (keep_cons (t := 87) rfl (keep_cons (t := 88) rfl (keep_cons (t := 89) rfl keep_nil))))))))))))))))))))))))))))))))))))))))))))) ?_
                      refine aw_false rfl ?_
                      refine aw_skip ?_
                      show AW _ _ _ _ _ _ _
                      refine aw_region ?_
                      refine sr_x rfl (wtd_none rfl) rfl (Rd.x (x_move rfl)) ?_
                      refine sr_x rfl (wtd_none rfl) rfl (Rd.x (x_add' rfl rfl (i64w (by omega) (by omega)))) ?_
                      refine sr_x rfl (wtd_none rfl) rfl (Rd.x (x_assign rfl)) ?_
                      refine sr_nil ?_
                      show ∃ s', _ ∧ _ ∧ _ ∧ _
                      exact ⟨k + 1, ⟨by omega, fun k' x y hx hy h => (Nat.lt_or_eq_of_le (Nat.le_of_lt_succ h)).elim (hnk k' x y hx hy) fun e => by subst e; rw [hxk] at hx; rw [hxi] at hy; cases hx; cases hy; rintro ⟨q1, q2, q3, q4⟩; first | exact com_no hwk hwi hC (by omega) q1 | omega⟩, by omega, (by repeat (first | exact keep_nil | refine keep_cons rfl ?_)), (by repeat (first | exact Sub.refl _ | apply Sub.drop))⟩
                  · refine sr_x rfl (wtd_none rfl) rfl (Rd.x (x_pick_t rfl rfl rfl)) ?_
                    refine sr_x rfl (wtd_none rfl) rfl (Rd.x (x_move rfl)) ?_
                    refine sr_skip rfl (wtd_no rfl rfl rfl rfl) rfl ?_
                    refine sr_skip rfl (wtd_no rfl rfl rfl rfl) rfl ?_
                    refine sr_skip rfl (wtd_no rfl rfl rfl rfl) rfl ?_
                    refine sr_x rfl (wtd_none rfl) rfl (Rd.x (x_pick_f rfl rfl rfl)) ?_
                    refine sr_nil ?_
                    refine aw_keep (keep_cons (t := 0) rfl (keep_cons (t := 2) rfl (keep_cons (t := 3) rfl (keep_cons (t := 4) rfl (keep_cons (t := 5) rfl (keep_cons (t := 6) rfl (keep_cons (t := 7) rfl (keep_cons (t := 8) rfl (keep_cons (t := 9) rfl (keep_cons (t := 10) rfl (keep_cons (t := 11) rfl (keep_cons (t := 12) rfl (keep_cons (t := 13) rfl (keep_cons (t := 41) rfl (keep_cons (t := 42) rfl (keep_cons (t := 58) rfl (keep_cons (t := 59) rfl (keep_cons (t := 60) rfl (keep_cons (t := 61) rfl (keep_cons (t := 62) rfl (keep_cons (t := 63) rfl (keep_cons (t := 64) rfl (keep_cons (t := 65) rfl (keep_cons (t := 68) rfl (keep_cons (t := 69) rfl (keep_cons (t := 70) rfl (keep_cons (t := 71) rfl (keep_cons (t := 72) rfl (keep_cons (t := 73) rfl (keep_cons (t := 74) rfl (keep_cons (t := 75) rfl (keep_cons (t := 76) rfl (keep_cons (t := 77) rfl (keep_cons (t := 78) rfl (keep_cons (t := 79) rfl (keep_cons (t := 80) rfl (keep_cons (t := 81) rfl (keep_cons (t := 82) rfl (keep_cons (t := 83) rfl (keep_cons (t := 84) rfl (keep_cons (t := 85) rfl (keep_cons (t := 86) rfl (keep_cons (t := 87) rfl (keep_cons (t := 88) rfl (keep_cons (t := 89) rfl keep_nil))))))))))))))))))))))))))))))))))))))))))))) ?_
                    refine aw_false rfl ?_
                    refine aw_skip ?_
                    show AW _ _ _ _ _ _ _
                    refine aw_region ?_
                    refine sr_x rfl (wtd_none rfl) rfl (Rd.x (x_move rfl)) ?_
                    refine sr_x rfl (wtd_none rfl) rfl (Rd.x (x_add' rfl rfl (i64w (by omega) (by omega)))) ?_
                    refine sr_x rfl (wtd_none rfl) rfl (Rd.x (x_assign rfl)) ?_
                    refine sr_nil ?_
                    show ∃ s', _ ∧ _ ∧ _ ∧ _
                    exact ⟨k + 1, ⟨by omega, fun k' x y hx hy h => (Nat.lt_or_eq_of_le (Nat.le_of_lt_succ h)).elim (hnk k' x y hx hy) fun e => by subst e; rw [hxk] at hx; rw [hxi] at hy; cases hx; cases hy; rintro ⟨q1, q2, q3, q4⟩; first | exact com_no hwk hwi hC (by omega) q1 | omega⟩, by omega, (by repeat (first | exact keep_nil | refine keep_cons rfl ?_)), (by repeat (first | exact Sub.refl _ | apply Sub.drop))⟩
                · refine sr_x rfl (wtd_none rfl) rfl (Rd.x (x_pick_t rfl rfl rfl)) ?_
                  refine sr_x rfl (wtd_none rfl) rfl (Rd.x (x_move rfl)) ?_
                  refine sr_skip rfl (wtd_no rfl rfl rfl rfl) rfl ?_
                  refine sr_skip rfl (wtd_no rfl rfl rfl rfl) rfl ?_
                  refine sr_skip rfl (wtd_no rfl rfl rfl rfl) rfl ?_
                  refine sr_x rfl (wtd_none rfl) rfl (Rd.x (x_pick_f rfl rfl rfl)) ?_
                  refine sr_x rfl (wtd_none rfl) rfl (Rd.x (x_move rfl)) ?_
                  refine sr_skip rfl (wtd_no rfl rfl rfl rfl) rfl ?_
                  refine sr_skip rfl (wtd_no rfl rfl rfl rfl) rfl ?_
                  refine sr_skip rfl (wtd_no rfl rfl rfl rfl) rfl ?_
                  refine sr_x rfl (wtd_none rfl) rfl (Rd.x (x_pick_f rfl rfl rfl)) ?_
                  refine sr_nil ?_
                  refine aw_keep (keep_cons (t := 0) rfl (keep_cons (t := 2) rfl (keep_cons (t := 3) rfl (keep_cons (t := 4) rfl (keep_cons (t := 5) rfl (keep_cons (t := 6) rfl (keep_cons (t := 7) rfl (keep_cons (t := 8) rfl (keep_cons (t := 9) rfl (keep_cons (t := 10) rfl (keep_cons (t := 11) rfl (keep_cons (t := 12) rfl (keep_cons (t := 13) rfl (keep_cons (t := 41) rfl (keep_cons (t := 42) rfl (keep_cons (t := 58) rfl (keep_cons (t := 59) rfl (keep_cons (t := 60) rfl (keep_cons (t := 61) rfl (keep_cons (t := 62) rfl (keep_cons (t := 63) rfl (keep_cons (t := 64) rfl (keep_cons (t := 65) rfl (keep_cons (t := 68) rfl (keep_cons (t := 69) rfl (keep_cons (t := 70) rfl (keep_cons (t := 71) rfl (keep_cons (t := 72) rfl (keep_cons (t := 73) rfl (keep_cons (t := 74) rfl (keep_cons (t := 75) rfl (keep_cons (t := 76) rfl (keep_cons (t := 77) rfl (keep_cons (t := 78) rfl (keep_cons (t := 79) rfl (keep_cons (t := 80) rfl (keep_cons (t := 81) rfl (keep_cons (t := 82) rfl (keep_cons (t := 83) rfl (keep_cons (t := 84) rfl (keep_cons (t := 85) rfl (keep_cons (t := 86) rfl (keep_cons (t := 87) rfl (keep_cons (t := 88) rfl (keep_cons (t := 89) rfl keep_nil))))))))))))))))))))))))))))))))))))))))))))) ?_
                  refine aw_false rfl ?_
                  refine aw_skip ?_
                  show AW _ _ _ _ _ _ _
                  refine aw_region ?_
                  refine sr_x rfl (wtd_none rfl) rfl (Rd.x (x_move rfl)) ?_
                  refine sr_x rfl (wtd_none rfl) rfl (Rd.x (x_add' rfl rfl (i64w (by omega) (by omega)))) ?_
                  refine sr_x rfl (wtd_none rfl) rfl (Rd.x (x_assign rfl)) ?_
                  refine sr_nil ?_
                  show ∃ s', _ ∧ _ ∧ _ ∧ _
                  exact ⟨k + 1, ⟨by omega, fun k' x y hx hy h => (Nat.lt_or_eq_of_le (Nat.le_of_lt_succ h)).elim (hnk k' x y hx hy) fun e => by subst e; rw [hxk] at hx; rw [hxi] at hy; cases hx; cases hy; rintro ⟨q1, q2, q3, q4⟩; first | exact com_no hwk hwi hC (by omega) q1 | omega⟩, by omega, (by repeat (first | exact keep_nil | refine keep_cons rfl ?_)), (by repeat (first | exact Sub.refl _ | apply Sub.drop))⟩
              · refine sr_nil ?_
                refine aw_keep (keep_cons (t := 0) rfl (keep_cons (t := 2) rfl (keep_cons (t := 3) rfl (keep_cons (t := 4) rfl (keep_cons (t := 5) rfl (keep_cons (t := 6) rfl (keep_cons (t := 7) rfl (keep_cons (t := 8) rfl (keep_cons (t := 9) rfl (keep_cons (t := 10) rfl (keep_cons (t := 11) rfl (keep_cons (t := 12) rfl (keep_cons (t := 13) rfl (keep_cons (t := 41) rfl (keep_cons (t := 42) rfl (keep_cons (t := 58) rfl (keep_cons (t := 59) rfl (keep_cons (t := 60) rfl (keep_cons (t := 61) rfl (keep_cons (t := 62) rfl (keep_cons (t := 63) rfl (keep_cons (t := 64) rfl (keep_cons (t := 65) rfl (keep_cons (t := 68) rfl (keep_cons (t := 69) rfl (keep_cons (t := 70) rfl (keep_cons (t := 71) rfl keep_nil))))))))))))))))))))))))))) ?_
                refine aw_false rfl ?_
                refine aw_skip ?_
                show AW _ _ _ _ _ _ _
                refine aw_seq_region ?_
                refine sr_x rfl (wtd_none rfl) rfl (Rd.x (x_move rfl)) ?_
                refine sr_x rfl (wtd_none rfl) rfl (Rd.x (x_move rfl)) ?_
                refine sr_x rfl (wtd_yes rfl rfl rfl) rfl (Rd.x (x_fieldAddr fd28_6 rfl)) ?_
                refine sr_x rfl (wtd_yes rfl rfl rfl) rfl (Rd.x (x_load ag2 rfl (cells_ext (by repeat (first | exact List.mem_cons_self | apply List.mem_cons_of_mem)) (by repeat (first | exact Ext.all _ | exact Ext.done | apply Ext.take | apply Ext.skip))))) ?_
                refine sr_cmp rfl (wtd_yes rfl rfl rfl) rfl (Rd.x (x_ge rfl rfl)) (fun h26 => ?_) (fun h26 => ?_)
                · refine sr_x rfl (wtd_none rfl) rfl (Rd.x (x_pick_t rfl rfl rfl)) ?_
                  refine sr_x rfl (wtd_none rfl) rfl (Rd.x (x_move rfl)) ?_
                  refine sr_x rfl (wtd_yes rfl rfl rfl) rfl (Rd.x (x_fieldAddr fd28_6 rfl)) ?_
                  refine sr_x rfl (wtd_yes rfl rfl rfl) rfl (Rd.x (x_load ag2 rfl (cells_ext (by repeat (first | exact List.mem_cons_self | apply List.mem_cons_of_mem)) (by repeat (first | exact Ext.all _ | exact Ext.done | apply Ext.take | apply Ext.skip))))) ?_
                  refine sr_cmp rfl (wtd_yes rfl rfl rfl) rfl (Rd.x (x_ge rfl rfl)) (fun h27 => ?_) (fun h27 => ?_)
                  · refine sr_x rfl (wtd_none rfl) rfl (Rd.x (x_pick_t rfl rfl rfl)) ?_
                    refine sr_x rfl (wtd_none rfl) rfl (Rd.x (x_move rfl)) ?_
                    refine sr_x rfl (wtd_yes rfl rfl rfl) rfl (Rd.x (x_move rfl)) ?_
                    refine sr_x rfl (wtd_yes rfl rfl rfl) rfl (Rd.x (x_move rfl)) ?_
                    refine sr_cmp rfl (wtd_yes rfl rfl rfl) rfl (Rd.x (x_lt rfl rfl)) (fun h28 => ?_) (fun h28 => ?_)
                    · refine sr_x rfl (wtd_none rfl) rfl (Rd.x (x_pick_t rfl rfl rfl)) ?_
                      refine sr_nil ?_
                      refine aw_keep (keep_cons (t := 0) rfl (keep_cons (t := 2) rfl (keep_cons (t := 3) rfl (keep_cons (t := 4) rfl (keep_cons (t := 5) rfl (keep_cons (t := 6) rfl (keep_cons (t := 7) rfl (keep_cons (t := 8) rfl (keep_cons (t := 9) rfl (keep_cons (t := 10) rfl (keep_cons (t := 11) rfl (keep_cons (t := 12) rfl (keep_cons (t := 13) rfl (keep_cons (t := 41) rfl (keep_cons (t := 42) rfl (keep_cons (t := 58) rfl (keep_cons (t := 59) rfl (keep_cons (t := 60) rfl (keep_cons (t := 61) rfl (keep_cons (t := 62) rfl (keep_cons (t := 63) rfl (keep_cons (t := 64) rfl (keep_cons (t := 65) rfl (keep_cons (t := 68) rfl (keep_cons (t := 69) rfl (keep_cons (t := 70) rfl (keep_cons (t := 71) rfl (keep_cons (t := 74) rfl (keep_cons (t := 75) rfl (keep_cons (t := 76) rfl (keep_cons (t := 77) rfl (keep_cons (t := 78) rfl (keep_cons (t := 79) rfl (keep_cons (t := 80) rfl (keep_cons (t := 81) rfl (keep_cons (t := 82) rfl (keep_cons (t := 83) rfl (keep_cons (t := 84) rfl (keep_cons (t := 85) rfl (keep_cons (t := 86) rfl (keep_cons (t := 87) rfl (keep_cons (t := 88) rfl (keep_cons (t := 89) rfl keep_nil))))))))))))))))))))))))))))))))))))))))))) ?_
                      refine aw_true rfl ?_
                      refine aw_seq_region ?_
                      refine sr_x rfl (wtd_none rfl) rfl (Rd.x (x_move rfl)) ?_
                      refine sr_x rfl (wtd_none rfl) rfl (Rd.x (x_move rfl)) ?_
                      refine sr_cmp rfl (wtd_none rfl) rfl (Rd.x (x_eq rfl rfl)) (fun h29 => ?_) (fun h29 => ?_)
                      · refine sr_x rfl (wtd_none rfl) rfl (Rd.x (x_move rfl)) ?_
                        refine sr_x rfl (wtd_yes rfl rfl rfl) rfl (Rd.x (x_move rfl)) ?_
                        refine sr_x rfl (wtd_yes rfl rfl rfl) rfl (Rd.x (x_move rfl)) ?_
                        refine sr_cmp rfl (wtd_yes rfl rfl rfl) rfl (Rd.x (x_eq rfl rfl)) (fun h30 => ?_) (fun h30 => ?_)
                        · refine sr_x rfl (wtd_none rfl) rfl (Rd.x (x_pick_t rfl rfl rfl)) ?_
                          refine sr_x rfl (wtd_none rfl) rfl (Rd.x (x_move rfl)) ?_
                          refine sr_x rfl (wtd_yes rfl rfl rfl) rfl (Rd.x (x_move rfl)) ?_
                          refine sr_x rfl (wtd_none rfl) rfl (Rd.x (x_pick_t rfl rfl rfl)) ?_
                          refine sr_x rfl (wtd_none rfl) rfl (Rd.x (x_move rfl)) ?_
                          refine sr_skip rfl (wtd_no rfl rfl rfl rfl) rfl ?_
                          refine sr_x rfl (wtd_none rfl) rfl (Rd.x (x_pick_f rfl rfl rfl)) ?_
                          refine sr_x rfl (wtd_none rfl) rfl (Rd.x (x_assign rfl)) ?_
                          refine sr_nil ?_
                          refine aw_keep (keep_cons (t := 0) rfl (keep_cons (t := 2) rfl (keep_cons (t := 3) rfl (keep_cons (t := 4) rfl (keep_cons (t := 5) rfl (keep_cons (t := 6) rfl (keep_cons (t := 7) rfl (keep_cons (t := 8) rfl (keep_cons (t := 9) rfl (keep_cons (t := 10) rfl (keep_cons (t := 11) rfl (keep_cons (t := 12) rfl (keep_cons (t := 13) rfl (keep_cons (t := 41) rfl (keep_cons (t := 42) rfl (keep_cons (t := 58) rfl (keep_cons (t := 59) rfl (keep_cons (t := 60) rfl (keep_cons (t := 61) rfl (keep_cons (t := 62) rfl (keep_cons (t := 63) rfl (keep_cons (t := 64) rfl (keep_cons (t := 65) rfl (keep_cons (t := 68) rfl (keep_cons (t := 69) rfl (keep_cons (t := 70) rfl (keep_cons (t := 71) rfl (keep_cons (t := 74) rfl (keep_cons (t := 75) rfl (keep_cons (t := 76) rfl (keep_cons (t := 77) rfl (keep_cons (t := 78) rfl (keep_cons (t := 79) rfl (keep_cons (t := 80) rfl (keep_cons (t := 81) rfl (keep_cons (t := 82) rfl (keep_cons (t := 83) rfl (keep_cons (t := 84) rfl (keep_cons (t := 85) rfl (keep_cons (t := 86) rfl (keep_cons (t := 87) rfl (keep_cons (t := 88) rfl (keep_cons (t := 89) rfl (keep_cons (t := 90) rfl (keep_cons (t := 91) rfl (keep_cons (t := 92) rfl (keep_cons (t := 93) rfl (keep_cons (t := 94) rfl (keep_cons (t := 95) rfl (keep_cons (t := 96) rfl (keep_cons (t := 97) rfl (keep_cons (t := 98) rfl (keep_cons (t := 99) rfl (keep_cons (t := 100) rfl (keep_cons (t := 101) rfl (keep_cons (t := 102) rfl (keep_cons (t := 103) rfl keep_nil))))))))))))))))))))))))))))))))))))))))))))))))))))))))) ?_
                          refine aw_ret ?_
                          show ∃ v H2, ResV _ _ _ _ _ _ v ∧ Sub H2 _ ∧ _
                          exact ⟨_, _, resV rfl (.cons rfl .nil), (by repeat (first | exact Sub.refl _ | apply Sub.drop)), (by first | rfl | (exfalso; have hh : hit xi xk := ⟨com_yes hwk hwi hC (by omega), by omega, by omega, by omega⟩; first | exact hno0 rfl |>.2.2 k i xk xi hxk hxi (by omega) hh | (have := first_uniq (hok rfl) hxk hxi (by omega) hh hno hnk; omega)) | (exfalso; first | (have := hno0 rfl; omega) | exact (hok rfl).1.elim fun x hx => hx.elim fun y hy => hno _ _ x y hy.1 hy.2.1 hy.2.2.1 (by have := (List.getElem?_eq_some_iff.1 hy.2.1).1; omega) hy.2.2.2))⟩
                        · refine sr_x rfl (wtd_none rfl) rfl (Rd.x (x_pick_t rfl rfl rfl)) ?_
                          refine sr_x rfl (wtd_none rfl) rfl (Rd.x (x_move rfl)) ?_
                          refine sr_skip rfl (wtd_no rfl rfl rfl rfl) rfl ?_
                          refine sr_x rfl (wtd_none rfl) rfl (Rd.x (x_pick_f rfl rfl rfl)) ?_
                          refine sr_x rfl (wtd_none rfl) rfl (Rd.x (x_move rfl)) ?_
                          refine sr_skip rfl (wtd_no rfl rfl rfl rfl) rfl ?_
                          refine sr_x rfl (wtd_none rfl) rfl (Rd.x (x_pick_f rfl rfl rfl)) ?_
                          refine sr_x rfl (wtd_none rfl) rfl (Rd.x (x_assign rfl)) ?_
                          refine sr_nil ?_
                          refine aw_keep (keep_cons (t := 0) rfl (keep_cons (t := 2) rfl (keep_cons (t := 3) rfl (keep_cons (t := 4) rfl (keep_cons (t := 5) rfl (keep_cons (t := 6) rfl (keep_cons (t := 7) rfl (keep_cons (t := 8) rfl (keep_cons (t := 9) rfl (keep_cons (t := 10) rfl (keep_cons (t := 11) rfl (keep_cons (t := 12) rfl (keep_cons (t := 13) rfl (keep_cons (t := 41) rfl (keep_cons (t := 42) rfl (keep_cons (t := 58) rfl (keep_cons (t := 59) rfl (keep_cons (t := 60) rfl (keep_cons (t := 61) rfl (keep_cons (t := 62) rfl (keep_cons (t := 63) rfl (keep_cons (t := 64) rfl (keep_cons (t := 65) rfl (keep_cons (t := 68) rfl (keep_cons (t := 69) rfl (keep_cons (t := 70) rfl (keep_cons (t := 71) rfl (keep_cons (t := 74) rfl (keep_cons (t := 75) rfl (keep_cons (t := 76) rfl (keep_cons (t := 77) rfl (keep_cons (t := 78) rfl (keep_cons (t := 79) rfl (keep_cons (t := 80) rfl (keep_cons (t := 81) rfl (keep_cons (t := 82) rfl (keep_cons (t := 83) rfl (keep_cons (t := 84) rfl (keep_cons (t := 85) rfl (keep_cons (t := 86) rfl (keep_cons (t := 87) rfl (keep_cons (t := 88) rfl (keep_cons (t := 89) rfl (keep_cons (t := 90) rfl (keep_cons (t := 91) rfl (keep_cons (t := 92) rfl (keep_cons (t := 93) rfl (keep_cons (t := 94) rfl (keep_cons (t := 95) rfl (keep_cons (t := 96) rfl (keep_cons (t := 97) rfl (keep_cons (t := 98) rfl (keep_cons (t := 99) rfl (keep_cons (t := 100) rfl (keep_cons (t := 101) rfl (keep_cons (t := 102) rfl (keep_cons (t := 103) rfl keep_nil))))))))))))))))))))))))))))))))))))))))))))))))))))))))) ?_
                          refine aw_ret ?_
                          show ∃ v H2, ResV _ _ _ _ _ _ v ∧ Sub H2 _ ∧ _
                          exact ⟨_, _, resV rfl (.cons rfl .nil), (by repeat (first | exact Sub.refl _ | apply Sub.drop)), (by first | rfl | (exfalso; have hh : hit xi xk := ⟨com_yes hwk hwi hC (by omega), by omega, by omega, by omega⟩; first | exact hno0 rfl |>.2.2 k i xk xi hxk hxi (by omega) hh | (have := first_uniq (hok rfl) hxk hxi (by omega) hh hno hnk; omega)) | (exfalso; first | (have := hno0 rfl; omega) | exact (hok rfl).1.elim fun x hx => hx.elim fun y hy => hno _ _ x y hy.1 hy.2.1 hy.2.2.1 (by have := (List.getElem?_eq_some_iff.1 hy.2.1).1; omega) hy.2.2.2))⟩
                      · refine sr_x rfl (wtd_none rfl) rfl (Rd.x (x_move rfl)) ?_
                        refine sr_skip rfl (wtd_no rfl rfl rfl rfl) rfl ?_
                        refine sr_skip rfl (wtd_no rfl rfl rfl rfl) rfl ?_
                        refine sr_skip rfl (wtd_no rfl rfl rfl rfl) rfl ?_
                        refine sr_x rfl (wtd_none rfl) rfl (Rd.x (x_pick_f rfl rfl rfl)) ?_
                        refine sr_x rfl (wtd_none rfl) rfl (Rd.x (x_move rfl)) ?_
                        refine sr_skip rfl (wtd_no rfl rfl rfl rfl) rfl ?_
                        refine sr_x rfl (wtd_none rfl) rfl (Rd.x (x_pick_f rfl rfl rfl)) ?_
                        refine sr_x rfl (wtd_none rfl) rfl (Rd.x (x_move rfl)) ?_
                        refine sr_skip rfl (wtd_no rfl rfl rfl rfl) rfl ?_
                        refine sr_x rfl (wtd_none rfl) rfl (Rd.x (x_pick_f rfl rfl rfl)) ?_
                        refine sr_x rfl (wtd_none rfl) rfl (Rd.x (x_assign rfl)) ?_
                        refine sr_nil ?_
                        refine aw_keep (keep_cons (t := 0) rfl (keep_cons (t := 2) rfl (keep_cons (t := 3) rfl (keep_cons (t := 4) rfl (keep_cons (t := 5) rfl (keep_cons (t := 6) rfl (keep_cons (t := 7) rfl (keep_cons (t := 8) rfl (keep_cons (t := 9) rfl (keep_cons (t := 10) rfl (keep_cons (t := 11) rfl (keep_cons (t := 12) rfl (keep_cons (t := 13) rfl (keep_cons (t := 41) rfl (keep_cons (t := 42) rfl (keep_cons (t := 58) rfl (keep_cons (t := 59) rfl (keep_cons (t := 60) rfl (keep_cons (t := 61) rfl (keep_cons (t := 62) rfl (keep_cons (t := 63) rfl (keep_cons (t := 64) rfl (keep_cons (t := 65) rfl (keep_cons (t := 68) rfl (keep_cons (t := 69) rfl (keep_cons (t := 70) rfl (keep_cons (t := 71) rfl (keep_cons (t := 74) rfl (keep_cons (t := 75) rfl (keep_cons (t := 76) rfl (keep_cons (t := 77) rfl (keep_cons (t := 78) rfl (keep_cons (t := 79) rfl (keep_cons (t := 80) rfl (keep_cons (t := 81) rfl (keep_cons (t := 82) rfl (keep_cons (t := 83) rfl (keep_cons (t := 84) rfl (keep_cons (t := 85) rfl (keep_cons (t := 86) rfl (keep_cons (t := 87) rfl (keep_cons (t := 88) rfl (keep_cons (t := 89) rfl (keep_cons (t := 90) rfl (keep_cons (t := 91) rfl (keep_cons (t := 92) rfl (keep_cons (t := 93) rfl (keep_cons (t := 94) rfl (keep_cons (t := 95) rfl (keep_cons (t := 96) rfl (keep_cons (t := 97) rfl (keep_cons (t := 98) rfl (keep_cons (t := 99) rfl (keep_cons (t := 100) rfl (keep_cons (t := 101) rfl (keep_cons (t := 102) rfl (keep_cons (t := 103) rfl keep_nil))))))))))))))))))))))))))))))))))))))))))))))))))))))))) ?_
                        refine aw_ret ?_
                        show ∃ v H2, ResV _ _ _ _ _ _ v ∧ Sub H2 _ ∧ _
                        exact ⟨_, _, resV rfl (.cons rfl .nil), (by repeat (first | exact Sub.refl _ | apply Sub.drop)), (by first | rfl | (exfalso; have hh : hit xi xk := ⟨com_yes hwk hwi hC (by omega), by omega, by omega, by omega⟩; first | exact hno0 rfl |>.2.2 k i xk xi hxk hxi (by omega) hh | (have := first_uniq (hok rfl) hxk hxi (by omega) hh hno hnk; omega)) | (exfalso; first | (have := hno0 rfl; omega) | exact (hok rfl).1.elim fun x hx => hx.elim fun y hy => hno _ _ x y hy.1 hy.2.1 hy.2.2.1 (by have := (List.getElem?_eq_some_iff.1 hy.2.1).1; omega) hy.2.2.2))⟩
                    · refine sr_x rfl (wtd_none rfl) rfl (Rd.x (x_pick_t rfl rfl rfl)) ?_
                      refine sr_nil ?_
                      refine aw_keep (keep_cons (t := 0) rfl (keep_cons (t := 2) rfl (keep_cons (t := 3) rfl (keep_cons (t := 4) rfl (keep_cons (t := 5) rfl (keep_cons (t := 6) rfl (keep_cons (t := 7) rfl (keep_cons (t := 8) rfl (keep_cons (t := 9) rfl (keep_cons (t := 10) rfl (keep_cons (t := 11) rfl (keep_cons (t := 12) rfl (keep_cons (t := 13) rfl (keep_cons (t := 41) rfl (keep_cons (t := 42) rfl (keep_cons (t := 58) rfl (keep_cons (t := 59) rfl (keep_cons (t := 60) rfl (keep_cons (t := 61) rfl (keep_cons (t := 62) rfl (keep_cons (t := 63) rfl (keep_cons (t := 64) rfl (keep_cons (t := 65) rfl (keep_cons (t := 68) rfl (keep_cons (t := 69) rfl (keep_cons (t := 70) rfl (keep_cons (t := 71) rfl (keep_cons (t := 74) rfl (keep_cons (t := 75) rfl (keep_cons (t := 76) rfl (keep_cons (t := 77) rfl (keep_cons (t := 78) rfl (keep_cons (t := 79) rfl (keep_cons (t := 80) rfl (keep_cons (t := 81) rfl (keep_cons (t := 82) rfl (keep_cons (t := 83) rfl (keep_cons (t := 84) rfl (keep_cons (t := 85) rfl (keep_cons (t := 86) rfl (keep_cons (t := 87) rfl (keep_cons (t := 88) rfl (keep_cons (t := 89) rfl keep_nil))))))))))))))))))))))))))))))))))))))))))) ?_
                      refine aw_false rfl ?_
                      refine aw_skip ?_
                      show AW _ _ _ _ _ _ _
                      refine aw_region ?_
                      refine sr_x rfl (wtd_none rfl) rfl (Rd.x (x_move rfl)) ?_
                      refine sr_x rfl (wtd_none rfl) rfl (Rd.x (x_add' rfl rfl (i64w (by omega) (by omega)))) ?_
                      refine sr_x rfl (wtd_none rfl) rfl (Rd.x (x_assign rfl)) ?_
                      refine sr_nil ?_
                      show ∃ s', _ ∧ _ ∧ _ ∧ _
                      exact ⟨k + 1, ⟨by omega, fun k' x y hx hy h => (Nat.lt_or_eq_of_le (Nat.le_of_lt_succ h)).elim (hnk k' x y hx hy) fun e => by subst e; rw [hxk] at hx; rw [hxi] at hy; cases hx; cases hy; rintro ⟨q1, q2, q3, q4⟩; first | exact com_no hwk hwi hC (by omega) q1 | omega⟩, by omega, (by repeat (first | exact keep_nil | refine keep_cons rfl ?_)), (by repeat (first | exact Sub.refl _ | apply Sub.drop))⟩
                  · refine sr_x rfl (wtd_none rfl) rfl (Rd.x (x_pick_t rfl rfl rfl)) ?_
                    refine sr_x rfl (wtd_none rfl) rfl (Rd.x (x_move rfl)) ?_
                    refine sr_skip rfl (wtd_no rfl rfl rfl rfl) rfl ?_
                    refine sr_skip rfl (wtd_no rfl rfl rfl rfl) rfl ?_
                    refine sr_skip rfl (wtd_no rfl rfl rfl rfl) rfl ?_
                    refine sr_x rfl (wtd_none rfl) rfl (Rd.x (x_pick_f rfl rfl rfl)) ?_
                    refine sr_nil ?_
                    refine aw_keep (keep_cons (t := 0) rfl (keep_cons (t := 2) rfl (keep_cons (t := 3) rfl (keep_cons (t := 4) rfl (keep_cons (t := 5) rfl (keep_cons (t := 6) rfl (keep_cons (t := 7) rfl (keep_cons (t := 8) rfl (keep_cons (t := 9) rfl (keep_cons (t := 10) rfl (keep_cons (t := 11) rfl (keep_cons (t := 12) rfl (keep_cons (t := 13) rfl (keep_cons (t := 41) rfl (keep_cons (t := 42) rfl (keep_cons (t := 58) rfl (keep_cons (t := 59) rfl (keep_cons (t := 60) rfl (keep_cons (t := 61) rfl (keep_cons (t := 62) rfl (keep_cons (t := 63) rfl (keep_cons (t := 64) rfl (keep_cons (t := 65) rfl (keep_cons (t := 68) rfl (keep_cons (t := 69) rfl (keep_cons (t := 70) rfl (keep_cons (t := 71) rfl (keep_cons (t := 74) rfl (keep_cons (t := 75) rfl (keep_cons (t := 76) rfl (keep_cons (t := 77) rfl (keep_cons (t := 78) rfl (keep_cons (t := 79) rfl (keep_cons (t := 80) rfl (keep_cons (t := 81) rfl (keep_cons (t := 82) rfl (keep_cons (t := 83) rfl (keep_cons (t := 84) rfl (keep_cons (t := 85) rfl (keep_cons (t := 86) rfl (keep_cons (t := 87) rfl (keep_cons (t := 88) rfl (keep_cons (t := 89) rfl keep_nil))))))))))))))))))))))))))))))))))))))))))) ?_
                    refine aw_false rfl ?_
                    refine aw_skip ?_
                    show AW _ _ _ _ _ _ _
                    refine aw_region ?_
                    refine sr_x rfl (wtd_none rfl) rfl (Rd.x (x_move rfl)) ?_
                    refine sr_x rfl (wtd_none rfl) rfl (Rd.x (x_add' rfl rfl (i64w (by omega) (by omega)))) ?_
                    refine sr_x rfl (wtd_none rfl) rfl (Rd.x (x_assign rfl)) ?_
                    refine sr_nil ?_
                    show ∃ s', _ ∧ _ ∧ _ ∧ _
                    exact ⟨k + 1, ⟨by omega, fun k' x y hx hy h => (Nat.lt_or_eq_of_le (Nat.le_of_lt_succ h)).elim (hnk k' x y hx hy) fun e => by subst e; rw [hxk] at hx; rw [hxi] at hy; cases hx; cases hy; rintro ⟨q1, q2, q3, q4⟩; first | exact com_no hwk hwi hC (by omega) q1 | omega⟩, by omega, (by repeat (first | exact keep_nil | refine keep_cons rfl ?_)), (by repeat (first | exact Sub.refl _ | apply Sub.drop))⟩
                · refine sr_x rfl (wtd_none rfl) rfl (Rd.x (x_pick_t rfl rfl rfl)) ?_
                  refine sr_x rfl (wtd_none rfl) rfl (Rd.x (x_move rfl)) ?_
                  refine sr_skip rfl (wtd_no rfl rfl rfl rfl) rfl ?_
                  refine sr_skip rfl (wtd_no rfl rfl rfl rfl) rfl ?_
                  refine sr_skip rfl (wtd_no rfl rfl rfl rfl) rfl ?_
                  refine sr_x rfl (wtd_none rfl) rfl (Rd.x (x_pick_f rfl rfl rfl)) ?_
                  refine sr_x rfl (wtd_none rfl) rfl (Rd.x (x_move rfl)) ?_
                  refine sr_skip rfl (wtd_no rfl rfl rfl rfl) rfl ?_
                  refine sr_skip rfl (wtd_no rfl rfl rfl rfl) rfl ?_
                  refine sr_skip rfl (wtd_no rfl rfl rfl rfl) rfl ?_
                  refine sr_x rfl (wtd_none rfl) rfl (Rd.x (x_pick_f rfl rfl rfl)) ?_
                  refine sr_nil ?_
                  refine aw_keep (keep_cons (t := 0) rfl (keep_cons (t := 2) rfl (keep_cons (t := 3) rfl (keep_cons (t := 4) rfl (keep_cons (t := 5) rfl (keep_cons (t := 6) rfl (keep_cons (t := 7) rfl (keep_cons (t := 8) rfl (keep_cons (t := 9) rfl (keep_cons (t := 10) rfl (keep_cons (t := 11) rfl (keep_cons (t := 12) rfl (keep_cons (t := 13) rfl (keep_cons (t := 41) rfl (keep_cons (t := 42) rfl (keep_cons (t := 58) rfl (keep_cons (t := 59) rfl (keep_cons (t := 60) rfl (keep_cons (t := 61) rfl (keep_cons (t := 62) rfl (keep_cons (t := 63) rfl (keep_cons (t := 64) rfl (keep_cons (t := 65) rfl (keep_cons (t := 68) rfl (keep_cons (t := 69) rfl (keep_cons (t := 70) rfl (keep_cons (t := 71) rfl (keep_cons (t := 74) rfl (keep_cons (t := 75) rfl (keep_cons (t := 76) rfl (keep_cons (t := 77) rfl (keep_cons (t := 78) rfl (keep_cons (t := 79) rfl (keep_cons (t := 80) rfl (keep_cons (t := 81) rfl (keep_cons (t := 82) rfl (keep_cons (t := 83) rfl (keep_cons (t := 84) rfl (keep_cons (t := 85) rfl (keep_cons (t := 86) rfl (keep_cons (t := 87) rfl (keep_cons (t := 88) rfl (keep_cons (t := 89) rfl keep_nil))))))))))))))))))))))))))))))))))))))))))) ?_
                  refine aw_false rfl ?_
                  refine aw_skip ?_
                  show AW _ _ _ _ _ _ _
                  refine aw_region ?_
                  refine sr_x rfl (wtd_none rfl) rfl (Rd.x (x_move rfl)) ?_
                  refine sr_x rfl (wtd_none rfl) rfl (Rd.x (x_add' rfl rfl (i64w (by omega) (by omega)))) ?_
                  refine sr_x rfl (wtd_none rfl) rfl (Rd.x (x_assign rfl)) ?_
                  refine sr_nil ?_
                  show ∃ s', _ ∧ _ ∧ _ ∧ _
                  exact ⟨k + 1, ⟨by omega, fun k' x y hx hy h => (Nat.lt_or_eq_of_le (Nat.le_of_lt_succ h)).elim (hnk k' x y hx hy) fun e => by subst e; rw [hxk] at hx; rw [hxi] at hy; cases hx; cases hy; rintro ⟨q1, q2, q3, q4⟩; first | exact com_no hwk hwi hC (by omega) q1 | omega⟩, by omega, (by repeat (first | exact keep_nil | refine keep_cons rfl ?_)), (by repeat (first | exact Sub.refl _ | apply Sub.drop))⟩
      · refine sr_nil ?_
        refine aw_keep (keep_cons (t := 0) rfl (keep_cons (t := 2) rfl (keep_cons (t := 3) rfl (keep_cons (t := 4) rfl (keep_cons (t := 5) rfl (keep_cons (t := 6) rfl (keep_cons (t := 7) rfl (keep_cons (t := 28) rfl (keep_cons (t := 29) rfl (keep_cons (t := 30) rfl keep_nil)))))))))) ?_
        refine aw_false rfl ?_
        refine aw_exit ?_
        show AW _ _ _ _ _ _ _
        refine aw_region ?_
        refine sr_x rfl (wtd_none rfl) rfl (Rd.x (x_move rfl)) ?_
        refine sr_x rfl (wtd_none rfl) rfl (Rd.x (x_add' rfl rfl (i64w (by omega) (by omega)))) ?_
        refine sr_x rfl (wtd_none rfl) rfl (Rd.x (x_assign rfl)) ?_
        refine sr_nil ?_
        show ∃ s', _ ∧ _ ∧ _ ∧ _
        exact ⟨i + 1, ⟨by omega, fun k' i' x y hx hy hk h => (Nat.lt_or_eq_of_le (Nat.le_of_lt_succ h)).elim (hno k' i' x y hx hy hk) fun e => by subst e; exact hnk k' x y hx hy (by omega)⟩, by omega, (by repeat (first | exact keep_nil | refine keep_cons rfl ?_)), (by repeat (first | exact Sub.refl _ | apply Sub.drop))⟩
    · refine sr_nil ?_
      refine aw_keep (keep_cons (t := 0) rfl (keep_cons (t := 2) rfl (keep_cons (t := 3) rfl (keep_cons (t := 4) rfl (keep_cons (t := 5) rfl (keep_cons (t := 6) rfl (keep_cons (t := 22) rfl (keep_cons (t := 23) rfl (keep_cons (t := 24) rfl (keep_cons (t := 25) rfl keep_nil)))))))))) ?_
      refine aw_false rfl ?_
      refine aw_exit ?_
      show AW _ _ _ _ _ _ _
      refine aw_seq_region ?_
      refine sr_x rfl (wtd_none rfl) rfl (Rd.x (x_move rfl)) ?_
      refine sr_cmp rfl (wtd_none rfl) rfl (Rd.x (x_eq rfl rfl)) (fun h31 => ?_) (fun h31 => ?_)
      · refine sr_x rfl (wtd_none rfl) rfl (Rd.x (x_move rfl)) ?_
        refine sr_x rfl (wtd_yes rfl rfl rfl) rfl (Rd.x (x_move rfl)) ?_
        refine sr_cmp rfl (wtd_yes rfl rfl rfl) rfl (Rd.x (x_eq rfl rfl)) (fun h32 => ?_) (fun h32 => ?_)
        · refine sr_x rfl (wtd_none rfl) rfl (Rd.x (x_pick_t rfl rfl rfl)) ?_
          refine sr_x rfl (wtd_none rfl) rfl (Rd.x (x_move rfl)) ?_
          refine sr_x rfl (wtd_yes rfl rfl rfl) rfl (Rd.x (x_move rfl)) ?_
          refine sr_x rfl (wtd_yes rfl rfl rfl) rfl (Rd.x (x_not rfl)) ?_
          refine sr_x rfl (wtd_none rfl) rfl (Rd.x (x_pick_t rfl rfl rfl)) ?_
          refine sr_x rfl (wtd_none rfl) rfl (Rd.x (x_move rfl)) ?_
          refine sr_d rfl (wtd_yes rfl rfl rfl) rfl (opS_call rfl rfl rfl rfl cl16 (awake30_s _)) ?_
          rintro _ _ ⟨rfl, rfl⟩
          refine sr_x rfl (wtd_none rfl) rfl (Rd.x (x_pick_t rfl rfl rfl)) ?_
          refine sr_x rfl (wtd_none rfl) rfl (Rd.x (x_assign rfl)) ?_
          refine sr_nil ?_
          refine aw_keep (keep_cons (t := 2) rfl keep_nil) ?_
          refine aw_ret ?_
          show ∃ v H2, ResV _ _ _ _ _ _ v ∧ Sub H2 _ ∧ _
          exact ⟨_, _, resV rfl (.cons rfl .nil), (by repeat (first | exact Sub.refl _ | apply Sub.drop)), (by first | rfl | (exfalso; have hh : hit xi xk := ⟨com_yes hwk hwi hC (by omega), by omega, by omega, by omega⟩; first | exact hno0 rfl |>.2.2 k i xk xi hxk hxi (by omega) hh | (have := first_uniq (hok rfl) hxk hxi (by omega) hh hno hnk; omega)) | (exfalso; first | (have := hno0 rfl; omega) | exact (hok rfl).1.elim fun x hx => hx.elim fun y hy => hno _ _ x y hy.1 hy.2.1 hy.2.2.1 (by have := (List.getElem?_eq_some_iff.1 hy.2.1).1; omega) hy.2.2.2))⟩
        · refine sr_x rfl (wtd_none rfl) rfl (Rd.x (x_pick_t rfl rfl rfl)) ?_
          refine sr_x rfl (wtd_none rfl) rfl (Rd.x (x_move rfl)) ?_
          refine sr_skip rfl (wtd_no rfl rfl rfl rfl) rfl ?_
          refine sr_skip rfl (wtd_no rfl rfl rfl rfl) rfl ?_
          refine sr_x rfl (wtd_none rfl) rfl (Rd.x (x_pick_f rfl rfl rfl)) ?_
          refine sr_x rfl (wtd_none rfl) rfl (Rd.x (x_move rfl)) ?_
          refine sr_skip rfl (wtd_no rfl rfl rfl rfl) rfl ?_
          refine sr_x rfl (wtd_none rfl) rfl (Rd.x (x_pick_f rfl rfl rfl)) ?_
          refine sr_x rfl (wtd_none rfl) rfl (Rd.x (x_assign rfl)) ?_
          refine sr_nil ?_
          refine aw_keep (keep_cons (t := 2) rfl keep_nil) ?_
          refine aw_ret ?_
          show ∃ v H2, ResV _ _ _ _ _ _ v ∧ Sub H2 _ ∧ _
          exact ⟨_, _, resV rfl (.cons rfl .nil), (by repeat (first | exact Sub.refl _ | apply Sub.drop)), (by first | rfl | (exfalso; have hh : hit xi xk := ⟨com_yes hwk hwi hC (by omega), by omega, by omega, by omega⟩; first | exact hno0 rfl |>.2.2 k i xk xi hxk hxi (by omega) hh | (have := first_uniq (hok rfl) hxk hxi (by omega) hh hno hnk; omega)) | (exfalso; first | (have := hno0 rfl; omega) | exact (hok rfl).1.elim fun x hx => hx.elim fun y hy => hno _ _ x y hy.1 hy.2.1 hy.2.2.1 (by have := (List.getElem?_eq_some_iff.1 hy.2.1).1; omega) hy.2.2.2))⟩
      · refine sr_x rfl (wtd_none rfl) rfl (Rd.x (x_move rfl)) ?_
        refine sr_skip rfl (wtd_no rfl rfl rfl rfl) rfl ?_
        refine sr_skip rfl (wtd_no rfl rfl rfl rfl) rfl ?_
        refine sr_x rfl (wtd_none rfl) rfl (Rd.x (x_pick_f rfl rfl rfl)) ?_
        refine sr_x rfl (wtd_none rfl) rfl (Rd.x (x_move rfl)) ?_
        refine sr_skip rfl (wtd_no rfl rfl rfl rfl) rfl ?_
        refine sr_skip rfl (wtd_no rfl rfl rfl rfl) rfl ?_
        refine sr_x rfl (wtd_none rfl) rfl (Rd.x (x_pick_f rfl rfl rfl)) ?_
        refine sr_x rfl (wtd_none rfl) rfl (Rd.x (x_move rfl)) ?_
        refine sr_skip rfl (wtd_no rfl rfl rfl rfl) rfl ?_
        refine sr_x rfl (wtd_none rfl) rfl (Rd.x (x_pick_f rfl rfl rfl)) ?_
        refine sr_x rfl (wtd_none rfl) rfl (Rd.x (x_assign rfl)) ?_
        refine sr_nil ?_
        refine aw_keep (keep_cons (t := 2) rfl keep_nil) ?_
        refine aw_ret ?_
        show ∃ v H2, ResV _ _ _ _ _ _ v ∧ Sub H2 _ ∧ _
        exact ⟨_, _, resV rfl (.cons rfl .nil), (by repeat (first | exact Sub.refl _ | apply Sub.drop)), (by first | rfl | (exfalso; have hh : hit xi xk := ⟨com_yes hwk hwi hC (by omega), by omega, by omega, by omega⟩; first | exact hno0 rfl |>.2.2 k i xk xi hxk hxi (by omega) hh | (have := first_uniq (hok rfl) hxk hxi (by omega) hh hno hnk; omega)) | (exfalso; first | (have := hno0 rfl; omega) | exact (hok rfl).1.elim fun x hx => hx.elim fun y hy => hno _ _ x y hy.1 hy.2.1 hy.2.2.1 (by have := (List.getElem?_eq_some_iff.1 hy.2.1).1; omega) hy.2.2.2))⟩
  · refine sr_x rfl (wtd_none rfl) rfl (Rd.x (x_move rfl)) ?_
    refine sr_x rfl (wtd_none rfl) rfl (Rd.x (x_extract rfl rfl)) ?_
    refine sr_x rfl (wtd_none rfl) rfl (Rd.x (x_extract rfl rfl)) ?_
    refine sr_x rfl (wtd_none rfl) rfl (Rd.x (x_extract rfl rfl)) ?_
    refine sr_x rfl (wtd_none rfl) rfl (Rd.x (x_assign rfl)) ?_
    refine sr_x rfl (wtd_none rfl) rfl (Rd.x (x_assign rfl)) ?_
    refine sr_x rfl (wtd_none rfl) rfl (Rd.x (x_assign rfl)) ?_
    refine sr_nil ?_
    refine aw_keep (keep_cons (t := 0) rfl (keep_cons (t := 2) rfl (keep_cons (t := 3) rfl (keep_cons (t := 4) rfl (keep_cons (t := 5) rfl keep_nil))))) ?_
    refine aw_seq ?_
    refine aw_seq_region ?_
    refine sr_x rfl (wtd_none rfl) rfl (Rd.x (x_assign rfl)) ?_
    refine sr_nil ?_
    refine aw_keep (keep_cons (t := 0) rfl (keep_cons (t := 2) rfl (keep_cons (t := 3) rfl (keep_cons (t := 4) rfl (keep_cons (t := 5) rfl (keep_cons (t := 6) rfl keep_nil)))))) ?_
    refine aw_block ?_
    refine aw_loop (ι := Nat) (fun i => i ≤ (xs.take 20).length ∧ ∀ k' i' x y, (xs.take 20)[k']? = some x → (xs.take 20)[i']? = some y → k' < i' → i' < i → ¬ hit y x) (fun i => [(0, .slice a (xs.take 20).length cap), (2, .bool false), (3, .int .i64 kk), (4, .int .i64 ii), (5, .bool true), (6, .int .i64 i)]) (fun _ => []) (fun i => (xs.take 20).length - i) 0 (⟨Nat.zero_le _, fun _ _ _ _ _ _ _ h => by omega⟩) (by repeat (first | exact keep_nil | refine keep_cons rfl ?_)) (by repeat (first | exact Sub.refl _ | apply Sub.drop)) ?_
    intro i hi
    obtain ⟨hi0, hno⟩ := hi
    refine aw_seq ?_
    refine aw_seq_region ?_
    refine sr_x rfl (wtd_none rfl) rfl (Rd.x (x_move rfl)) ?_
    refine sr_x rfl (wtd_none rfl) rfl (Rd.x (x_move rfl)) ?_
    refine sr_x rfl (wtd_none rfl) rfl (Rd.x (x_lenSlice Try.underlying22 rfl)) ?_
    refine sr_cmp rfl (wtd_none rfl) rfl (Rd.x (x_lt rfl rfl)) (fun h33 => ?_) (fun h33 => ?_)
    · refine sr_nil ?_
      refine aw_keep (keep_cons (t := 0) rfl (keep_cons (t := 2) rfl (keep_cons (t := 3) rfl (keep_cons (t := 4) rfl (keep_cons (t := 5) rfl (keep_cons (t := 6) rfl (keep_cons (t := 22) rfl (keep_cons (t := 23) rfl (keep_cons (t := 24) rfl (keep_cons (t := 25) rfl keep_nil)))))))))) ?_
      refine aw_true rfl ?_
      refine aw_skip ?_
      show AW _ _ _ _ _ _ _
      refine aw_seq ?_
      refine aw_block ?_
      refine aw_seq_region ?_
      refine sr_x rfl (wtd_none rfl) rfl (Rd.x (x_assign rfl)) ?_
      refine sr_nil ?_
      refine aw_keep (keep_cons (t := 0) rfl (keep_cons (t := 2) rfl (keep_cons (t := 3) rfl (keep_cons (t := 4) rfl (keep_cons (t := 5) rfl (keep_cons (t := 6) rfl (keep_cons (t := 7) rfl (keep_cons (t := 22) rfl (keep_cons (t := 23) rfl (keep_cons (t := 24) rfl (keep_cons (t := 25) rfl keep_nil))))))))))) ?_
      refine aw_block ?_
      refine aw_loop (ι := Nat) (fun k => k ≤ i ∧ ∀ k' x y, (xs.take 20)[k']? = some x → (xs.take 20)[i]? = some y → k' < k → ¬ hit y x) (fun k => [(0, .slice a (xs.take 20).length cap), (2, .bool false), (3, .int .i64 kk), (4, .int .i64 ii), (5, .bool true), (6, .int .i64 i), (7, .int .i64 k)]) (fun _ => []) (fun k => i - k) 0 (⟨Nat.zero_le _, fun _ _ _ _ _ h => by omega⟩) (by repeat (first | exact keep_nil | refine keep_cons rfl ?_)) (by repeat (first | exact Sub.refl _ | apply Sub.drop)) ?_
      intro k hk
      obtain ⟨hk0, hnk⟩ := hk
      refine aw_seq ?_
      refine aw_seq_region ?_
      refine sr_x rfl (wtd_none rfl) rfl (Rd.x (x_move rfl)) ?_
      refine sr_x rfl (wtd_none rfl) rfl (Rd.x (x_move rfl)) ?_
      refine sr_cmp rfl (wtd_none rfl) rfl (Rd.x (x_lt rfl rfl)) (fun h34 => ?_) (fun h34 => ?_)
      · refine sr_nil ?_
        refine aw_keep (keep_cons (t := 0) rfl (keep_cons (t := 2) rfl (keep_cons (t := 3) rfl (keep_cons (t := 4) rfl (keep_cons (t := 5) rfl (keep_cons (t := 6) rfl (keep_cons (t := 7) rfl (keep_cons (t := 28) rfl (keep_cons (t := 29) rfl (keep_cons (t := 30) rfl keep_nil)))))))))) ?_
        refine aw_true rfl ?_
        refine aw_skip ?_
        show AW _ _ _ _ _ _ _
        refine aw_seq ?_
        refine aw_block ?_
        refine aw_seq_dr ⟨_, 12, 117, [[], [], [0, 1], [0, 1, 2], [], [], [4, 5], [4, 5, 6], [], [], [0, 1, 2, 3, 8, 9], [0, 1, 2, 3, 4, 5, 6, 7, 8, 9, 10]], [.light, .light, .light, .mem, .light, .light, .light, .mem, .alloc, .alloc, .loc 8, .loc 9]⟩ (by kernel_rfl) rfl rfl mix ?_
        obtain ⟨xk, hxk⟩ := get_ex (show k < (xs.take 20).length by omega)
        obtain ⟨bk, ok, hak, hck⟩ := (hs.take 20).at_ k _ hxk
        have hwk := wf_nodes (hwf _ (List.mem_of_mem_take (List.mem_of_getElem? hxk)))
        refine dr_light rfl rfl (wtd_none rfl) (x_move rfl) ?_
        refine dr_light rfl rfl (wtd_none rfl) (x_move rfl) ?_
        refine dr_light rfl rfl (wtd_none rfl) (x_indexAddrN k Try.underlying22 sz28 rfl hak rfl rfl (by omega)) ?_
        refine dr_mem0 rfl rfl (wtd_none rfl) (x_loadN ag28 sz28 rfl (Cells.mono hck (by repeat (first | exact Sub.refl _ | apply Sub.drop))) rfl) ?_
        obtain ⟨xi, hxi⟩ := get_ex (show i < (xs.take 20).length by omega)
        obtain ⟨bi, oi, hai, hci⟩ := (hs.take 20).at_ i _ hxi
        have hwi := wf_nodes (hwf _ (List.mem_of_mem_take (List.mem_of_getElem? hxi)))
        refine dr_light rfl rfl (wtd_none rfl) (x_move rfl) ?_
        refine dr_light rfl rfl (wtd_none rfl) (x_move rfl) ?_
        refine dr_light rfl rfl (wtd_none rfl) (x_indexAddrN i Try.underlying22 sz28 rfl hai rfl rfl (by omega)) ?_
        refine dr_mem0 rfl rfl (wtd_none rfl) (x_loadN ag28 sz28 rfl (Cells.mono hci (by repeat (first | exact Sub.refl _ | apply Sub.drop))) rfl) ?_
        refine dr_alloc rfl rfl (wtd_none rfl) (x_alloc zr28 rfl) ?_
        intro r9_8 hr9_8 gr9_8
        refine dr_alloc rfl rfl (wtd_none rfl) (x_alloc zr28 rfl) ?_
        intro r9_9 hr9_9 gr9_9
        refine dr_loc rfl rfl rfl (wtd_none rfl) (x_store sz28 rfl rfl rfl rfl rfl (by repeat (first | exact Repl.here | apply Repl.there)) (by repeat (first | exact Spl.done | exact Spl.all rfl | apply Spl.put | apply Spl.skip))) (by rfl) ?_
        refine dr_loc rfl rfl rfl (wtd_none rfl) (x_store sz28 rfl rfl rfl rfl rfl (by repeat (first | exact Repl.here | apply Repl.there)) (by repeat (first | exact Spl.done | exact Spl.all rfl | apply Spl.put | apply Spl.skip))) (by rfl) ?_
        refine dr_nil (E := [(r9_8, .cells xk.cells.toArray 28 (0, 0)), (r9_9, .cells xi.cells.toArray 28 (0, 0))]) rfl ?_
        refine aw_keep (keep_cons (t := 0) rfl (keep_cons (t := 2) rfl (keep_cons (t := 3) rfl (keep_cons (t := 4) rfl (keep_cons (t := 5) rfl (keep_cons (t := 6) rfl (keep_cons (t := 7) rfl (keep_cons (t := 8) rfl (keep_cons (t := 9) rfl (keep_cons (t := 28) rfl (keep_cons (t := 29) rfl (keep_cons (t := 30) rfl (keep_cons (t := 33) rfl (keep_cons (t := 34) rfl (keep_cons (t := 35) rfl (keep_cons (t := 36) rfl (keep_cons (t := 37) rfl (keep_cons (t := 38) rfl (keep_cons (t := 39) rfl (keep_cons (t := 40) rfl keep_nil)))))))))))))))))))) ?_
        refine aw_seq_region ?_
        refine sr_x rfl (wtd_none rfl) rfl (Rd.x (x_assign rfl)) ?_
        refine sr_nil ?_
        refine aw_keep (keep_cons (t := 0) rfl (keep_cons (t := 2) rfl (keep_cons (t := 3) rfl (keep_cons (t := 4) rfl (keep_cons (t := 5) rfl (keep_cons (t := 6) rfl (keep_cons (t := 7) rfl (keep_cons (t := 8) rfl (keep_cons (t := 9) rfl (keep_cons (t := 10) rfl (keep_cons (t := 28) rfl (keep_cons (t := 29) rfl (keep_cons (t := 30) rfl (keep_cons (t := 33) rfl (keep_cons (t := 34) rfl (keep_cons (t := 35) rfl (keep_cons (t := 36) rfl (keep_cons (t := 37) rfl (keep_cons (t := 38) rfl (keep_cons (t := 39) rfl (keep_cons (t := 40) rfl keep_nil))))))))))))))))))))) ?_
        refine aw_seq ?_
        refine aw_seq_region ?_
        refine sr_x rfl (wtd_none rfl) rfl (Rd.x (x_assign rfl)) ?_
        refine sr_nil ?_
        refine aw_keep (keep_cons (t := 0) rfl (keep_cons (t := 2) rfl (keep_cons (t := 3) rfl (keep_cons (t := 4) rfl (keep_cons (t := 5) rfl (keep_cons (t := 6) rfl (keep_cons (t := 7) rfl (keep_cons (t := 8) rfl (keep_cons (t := 9) rfl (keep_cons (t := 10) rfl (keep_cons (t := 11) rfl (keep_cons (t := 28) rfl (keep_cons (t := 29) rfl (keep_cons (t := 30) rfl (keep_cons (t := 33) rfl (keep_cons (t := 34) rfl (keep_cons (t := 35) rfl (keep_cons (t := 36) rfl (keep_cons (t := 37) rfl (keep_cons (t := 38) rfl (keep_cons (t := 39) rfl (keep_cons (t := 40) rfl keep_nil)))))))))))))))))))))) ?_
        refine aw_block ?_
        refine aw_loop (ι := Nat × Bool) (fun s => s.1 ≤ 64 ∧ Com xk.nodes xi.nodes s.1 s.2) (fun s => [(0, .slice a (xs.take 20).length cap), (2, .bool false), (3, .int .i64 kk), (4, .int .i64 ii), (5, .bool true), (6, .int .i64 i), (7, .int .i64 k), (8, .pointer (some ⟨r9_8, 0, none⟩)), (9, .pointer (some ⟨r9_9, 0, none⟩)), (10, .bool s.2), (11, .int .i64 s.1)]) (fun _ => [(r9_8, .cells xk.cells.toArray 28 (0, 0)), (r9_9, .cells xi.cells.toArray 28 (0, 0))]) (fun s => 64 - s.1) (0, false) (⟨Nat.zero_le _, com_0⟩) (by repeat (first | exact keep_nil | refine keep_cons rfl ?_)) (by repeat (first | exact Sub.refl _ | apply Sub.drop)) ?_
        intro s hn
        obtain ⟨n, c0⟩ := s
        obtain ⟨hn0, hC⟩ := hn
        simp only at hn0 hC ⊢
        cases c0
        · refine aw_seq ?_
          refine aw_seq_region ?_
          refine sr_x rfl (wtd_none rfl) rfl (Rd.x (x_move rfl)) ?_
          refine sr_cmp rfl (wtd_none rfl) rfl (Rd.x (x_lt rfl rfl)) (fun h35 => ?_) (fun h35 => ?_)
          · refine sr_nil ?_
            refine aw_keep (keep_cons (t := 0) rfl (keep_cons (t := 2) rfl (keep_cons (t := 3) rfl (keep_cons (t := 4) rfl (keep_cons (t := 5) rfl (keep_cons (t := 6) rfl (keep_cons (t := 7) rfl (keep_cons (t := 8) rfl (keep_cons (t := 9) rfl (keep_cons (t := 10) rfl (keep_cons (t := 11) rfl (keep_cons (t := 41) rfl (keep_cons (t := 42) rfl keep_nil))))))))))))) ?_
            refine aw_true rfl ?_
            refine aw_skip ?_
            show AW _ _ _ _ _ _ _
            refine aw_seq ?_
            refine aw_block ?_
            refine aw_region ?_
            refine sr_x rfl (wtd_none rfl) rfl (Rd.x (x_move rfl)) ?_
            refine sr_x rfl (wtd_none rfl) rfl (Rd.x (x_move rfl)) ?_
            refine sr_x rfl (wtd_yes rfl rfl rfl) rfl (Rd.x (x_fieldAddr fd28_9 rfl)) ?_
            refine sr_x rfl (wtd_yes rfl rfl rfl) rfl (Rd.x (x_load ag26 rfl (cells_ext (by repeat (first | exact List.mem_cons_self | apply List.mem_cons_of_mem)) (by repeat (first | exact Ext.all _ | exact Ext.done | apply Ext.take | apply Ext.skip))))) ?_
            refine sr_x rfl (wtd_yes rfl rfl rfl) rfl (Rd.x (x_move rfl)) ?_
            refine sr_d rfl (wtd_yes rfl rfl rfl) rfl (opS_call rfl rfl rfl rfl cl15 (has_s _ _ _ (by assumption))) ?_
            rintro _ _ ⟨⟨c, rfl, hc⟩, rfl⟩
            cases c
            · refine sr_x rfl (wtd_yes rfl rfl rfl) rfl (Rd.x (x_move rfl)) ?_
              refine sr_skip rfl (wtd_no rfl rfl rfl rfl) rfl ?_
              refine sr_skip rfl (wtd_no rfl rfl rfl rfl) rfl ?_
              refine sr_skip rfl (wtd_no rfl rfl rfl rfl) rfl ?_
              refine sr_skip rfl (wtd_no rfl rfl rfl rfl) rfl ?_
              refine sr_x rfl (wtd_yes rfl rfl rfl) rfl (Rd.x (x_pick_f rfl rfl rfl)) ?_
              refine sr_x rfl (wtd_none rfl) rfl (Rd.x (x_pick_f rfl rfl rfl)) ?_
              refine sr_x rfl (wtd_none rfl) rfl (Rd.x (x_assign rfl)) ?_
              refine sr_nil ?_
              show AW _ _ _ _ _ _ _
              refine aw_region ?_
              refine sr_x rfl (wtd_none rfl) rfl (Rd.x (x_move rfl)) ?_
              refine sr_x rfl (wtd_none rfl) rfl (Rd.x (x_add' rfl rfl (i64w (by omega) (by omega)))) ?_
              refine sr_x rfl (wtd_none rfl) rfl (Rd.x (x_assign rfl)) ?_
              refine sr_nil ?_
              show ∃ s', _ ∧ _ ∧ _ ∧ _
              first | exact ⟨(n + 1, true), ⟨by show n + 1 ≤ 64; omega, com_t hC⟩, by show 64 - (n + 1) < 64 - n; omega, (by repeat (first | exact keep_nil | refine keep_cons rfl ?_)), (by repeat (first | exact Sub.refl _ | apply Sub.drop))⟩ | exact ⟨(n + 1, _), ⟨by show n + 1 ≤ 64; omega, com_ff hC (by assumption)⟩, by show 64 - (n + 1) < 64 - n; omega, (by repeat (first | exact keep_nil | refine keep_cons rfl ?_)), (by repeat (first | exact Sub.refl _ | apply Sub.drop))⟩ | exact ⟨(n + 1, _), ⟨by show n + 1 ≤ 64; omega, com_st hC (by assumption) (by assumption)⟩, by show 64 - (n + 1) < 64 - n; omega, (by repeat (first | exact keep_nil | refine keep_cons rfl ?_)), (by repeat (first | exact Sub.refl _ | apply Sub.drop))⟩
            · refine sr_x rfl (wtd_yes rfl rfl rfl) rfl (Rd.x (x_move rfl)) ?_
              refine sr_x rfl (wtd_yes rfl rfl rfl) rfl (Rd.x (x_fieldAddr fd28_9 rfl)) ?_
              refine sr_x rfl (wtd_yes rfl rfl rfl) rfl (Rd.x (x_load ag26 rfl (cells_ext (by repeat (first | exact List.mem_cons_self | apply List.mem_cons_of_mem)) (by repeat (first | exact Ext.all _ | exact Ext.done | apply Ext.take | apply Ext.skip))))) ?_
              refine sr_x rfl (wtd_yes rfl rfl rfl) rfl (Rd.x (x_move rfl)) ?_
              refine sr_d rfl (wtd_yes rfl rfl rfl) rfl (opS_call rfl rfl rfl rfl cl15 (has_s _ _ _ (by assumption))) ?_
              rintro _ _ ⟨⟨c, rfl, hc⟩, rfl⟩
              cases c
              · refine sr_x rfl (wtd_yes rfl rfl rfl) rfl (Rd.x (x_pick_t rfl rfl rfl)) ?_
                refine sr_x rfl (wtd_none rfl) rfl (Rd.x (x_pick_f rfl rfl rfl)) ?_
                refine sr_x rfl (wtd_none rfl) rfl (Rd.x (x_assign rfl)) ?_
                refine sr_nil ?_
                show AW _ _ _ _ _ _ _
                refine aw_region ?_
                refine sr_x rfl (wtd_none rfl) rfl (Rd.x (x_move rfl)) ?_
                refine sr_x rfl (wtd_none rfl) rfl (Rd.x (x_add' rfl rfl (i64w (by omega) (by omega)))) ?_
                refine sr_x rfl (wtd_none rfl) rfl (Rd.x (x_assign rfl)) ?_
                refine sr_nil ?_
                show ∃ s', _ ∧ _ ∧ _ ∧ _
                first | exact ⟨(n + 1, true), ⟨by show n + 1 ≤ 64; omega, com_t hC⟩, by show 64 - (n + 1) < 64 - n; omega, (by repeat (first | exact keep_nil | refine keep_cons rfl ?_)), (by repeat (first | exact Sub.refl _ | apply Sub.drop))⟩ | exact ⟨(n + 1, _), ⟨by show n + 1 ≤ 64; omega, com_ff hC (by assumption)⟩, by show 64 - (n + 1) < 64 - n; omega, (by repeat (first | exact keep_nil | refine keep_cons rfl ?_)), (by repeat (first | exact Sub.refl _ | apply Sub.drop))⟩ | exact ⟨(n + 1, _), ⟨by show n + 1 ≤ 64; omega, com_st hC (by assumption) (by assumption)⟩, by show 64 - (n + 1) < 64 - n; omega, (by repeat (first | exact keep_nil | refine keep_cons rfl ?_)), (by repeat (first | exact Sub.refl _ | apply Sub.drop))⟩
              · refine sr_x rfl (wtd_yes rfl rfl rfl) rfl (Rd.x (x_pick_t rfl rfl rfl)) ?_
                refine sr_x rfl (wtd_none rfl) rfl (Rd.x (x_pick_f rfl rfl rfl)) ?_
                refine sr_x rfl (wtd_none rfl) rfl (Rd.x (x_assign rfl)) ?_
                refine sr_nil ?_
                show AW _ _ _ _ _ _ _
                refine aw_region ?_
                refine sr_x rfl (wtd_none rfl) rfl (Rd.x (x_move rfl)) ?_
                refine sr_x rfl (wtd_none rfl) rfl (Rd.x (x_add' rfl rfl (i64w (by omega) (by omega)))) ?_
                refine sr_x rfl (wtd_none rfl) rfl (Rd.x (x_assign rfl)) ?_
                refine sr_nil ?_
                show ∃ s', _ ∧ _ ∧ _ ∧ _
                first | exact ⟨(n + 1, true), ⟨by show n + 1 ≤ 64; omega, com_t hC⟩, by show 64 - (n + 1) < 64 - n; omega, (by repeat (first | exact keep_nil | refine keep_cons rfl ?_)), (by repeat (first | exact Sub.refl _ | apply Sub.drop))⟩ | exact ⟨(n + 1, _), ⟨by show n + 1 ≤ 64; omega, com_ff hC (by assumption)⟩, by show 64 - (n + 1) < 64 - n; omega, (by repeat (first | exact keep_nil | refine keep_cons rfl ?_)), (by repeat (first | exact Sub.refl _ | apply Sub.drop))⟩ | exact ⟨(n + 1, _), ⟨by show n + 1 ≤ 64; omega, com_st hC (by assumption) (by assumption)⟩, by show 64 - (n + 1) < 64 - n; omega, (by repeat (first | exact keep_nil | refine keep_cons rfl ?_)), (by repeat (first | exact Sub.refl _ | apply Sub.drop))⟩
          · refine sr_nil ?_
            refine aw_keep (keep_cons (t := 0) rfl (keep_cons (t := 2) rfl (keep_cons (t := 3) rfl (keep_cons (t := 4) rfl (keep_cons (t := 5) rfl (keep_cons (t := 6) rfl (keep_cons (t := 7) rfl (keep_cons (t := 8) rfl (keep_cons (t := 9) rfl (keep_cons (t := 10) rfl (keep_cons (t := 11) rfl (keep_cons (t := 41) rfl (keep_cons (t := 42) rfl keep_nil))))))))))))) ?_
            refine aw_false rfl ?_
            refine aw_exit ?_
            show AW _ _ _ _ _ _ _
            refine aw_seq_dr ⟨_, 6, 117, [[], [0], [], [2], [0, 1], [0, 1, 2, 3, 4]], [.light, .mem, .light, .mem, .light, .light]⟩ (by kernel_rfl) rfl rfl mix ?_
            refine dr_light rfl rfl (wtd_none rfl) (x_fieldAddr fd28_6 rfl) ?_
            refine dr_mem0 rfl rfl (wtd_none rfl) (x_load ag2 rfl (cells_ext (by repeat (first | exact List.mem_cons_self | apply List.mem_cons_of_mem)) (by repeat (first | exact Ext.all _ | exact Ext.done | apply Ext.take | apply Ext.skip)))) ?_
            refine dr_light rfl rfl (wtd_none rfl) (x_fieldAddr fd28_7 rfl) ?_
            refine dr_mem0 rfl rfl (wtd_none rfl) (x_load ag2 rfl (cells_ext (by repeat (first | exact List.mem_cons_self | apply List.mem_cons_of_mem)) (by repeat (first | exact Ext.all _ | exact Ext.done | apply Ext.take | apply Ext.skip)))) ?_
            refine dr_light rfl rfl (wtd_none rfl) (x_assign rfl) ?_
            refine dr_light rfl rfl (wtd_none rfl) (x_assign rfl) ?_
            refine dr_nil0 ?_
            refine aw_keep (keep_cons (t := 0) rfl (keep_cons (t := 2) rfl (keep_cons (t := 3) rfl (keep_cons (t := 4) rfl (keep_cons (t := 5) rfl (keep_cons (t := 6) rfl (keep_cons (t := 7) rfl (keep_cons (t := 8) rfl (keep_cons (t := 9) rfl (keep_cons (t := 10) rfl (keep_cons (t := 11) rfl (keep_cons (t := 12) rfl (keep_cons (t := 13) rfl (keep_cons (t := 41) rfl (keep_cons (t := 42) rfl (keep_cons (t := 58) rfl (keep_cons (t := 59) rfl (keep_cons (t := 60) rfl (keep_cons (t := 61) rfl keep_nil))))))))))))))))))) ?_
            refine aw_seq ?_
            refine aw_seq_region ?_
            refine sr_x rfl (wtd_none rfl) rfl (Rd.x (x_fieldAddr fd28_6 rfl)) ?_
            refine sr_x rfl (wtd_none rfl) rfl (Rd.x (x_load ag2 rfl (cells_ext (by repeat (first | exact List.mem_cons_self | apply List.mem_cons_of_mem)) (by repeat (first | exact Ext.all _ | exact Ext.done | apply Ext.take | apply Ext.skip))))) ?_
            refine sr_x rfl (wtd_none rfl) rfl (Rd.x (x_move rfl)) ?_
            refine sr_cmp rfl (wtd_none rfl) rfl (Rd.x (x_gt rfl rfl)) (fun h36 => ?_) (fun h36 => ?_)
            · refine sr_nil ?_
              refine aw_keep (keep_cons (t := 0) rfl (keep_cons (t := 2) rfl (keep_cons (t := 3) rfl (keep_cons (t := 4) rfl (keep_cons (t := 5) rfl (keep_cons (t := 6) rfl (keep_cons (t := 7) rfl (keep_cons (t := 8) rfl (keep_cons (t := 9) rfl (keep_cons (t := 10) rfl (keep_cons (t := 11) rfl (keep_cons (t := 12) rfl (keep_cons (t := 13) rfl (keep_cons (t := 41) rfl (keep_cons (t := 42) rfl (keep_cons (t := 58) rfl (keep_cons (t := 59) rfl (keep_cons (t := 60) rfl (keep_cons (t := 61) rfl (keep_cons (t := 62) rfl (keep_cons (t := 63) rfl (keep_cons (t := 64) rfl (keep_cons (t := 65) rfl keep_nil))))))))))))))))))))))) ?_
              refine aw_true rfl ?_
              refine aw_region ?_
              refine sr_x rfl (wtd_none rfl) rfl (Rd.x (x_fieldAddr fd28_6 rfl)) ?_
              refine sr_x rfl (wtd_none rfl) rfl (Rd.x (x_load ag2 rfl (cells_ext (by repeat (first | exact List.mem_cons_self | apply List.mem_cons_of_mem)) (by repeat (first | exact Ext.all _ | exact Ext.done | apply Ext.take | apply Ext.skip))))) ?_
              refine sr_x rfl (wtd_none rfl) rfl (Rd.x (x_assign rfl)) ?_
              refine sr_nil ?_
              show AW _ _ _ _ _ _ _
              refine aw_seq ?_
              refine aw_seq_region ?_
              refine sr_x rfl (wtd_none rfl) rfl (Rd.x (x_fieldAddr fd28_7 rfl)) ?_
              refine sr_x rfl (wtd_none rfl) rfl (Rd.x (x_load ag2 rfl (cells_ext (by repeat (first | exact List.mem_cons_self | apply List.mem_cons_of_mem)) (by repeat (first | exact Ext.all _ | exact Ext.done | apply Ext.take | apply Ext.skip))))) ?_
              refine sr_x rfl (wtd_none rfl) rfl (Rd.x (x_move rfl)) ?_
              refine sr_cmp rfl (wtd_none rfl) rfl (Rd.x (x_lt rfl rfl)) (fun h37 => ?_) (fun h37 => ?_)
              · refine sr_nil ?_
                refine aw_keep (keep_cons (t := 0) rfl (keep_cons (t := 2) rfl (keep_cons (t := 3) rfl (keep_cons (t := 4) rfl (keep_cons (t := 5) rfl (keep_cons (t := 6) rfl (keep_cons (t := 7) rfl (keep_cons (t := 8) rfl (keep_cons (t := 9) rfl (keep_cons (t := 10) rfl (keep_cons (t := 11) rfl (keep_cons (t := 12) rfl (keep_cons (t := 13) rfl (keep_cons (t := 41) rfl (keep_cons (t := 42) rfl (keep_cons (t := 58) rfl (keep_cons (t := 59) rfl (keep_cons (t := 60) rfl (keep_cons (t := 61) rfl (keep_cons (t := 62) rfl (keep_cons (t := 63) rfl (keep_cons (t := 64) rfl (keep_cons (t := 65) rfl (keep_cons (t := 66) rfl (keep_cons (t := 67) rfl (keep_cons (t := 68) rfl (keep_cons (t := 69) rfl (keep_cons (t := 70) rfl (keep_cons (t := 71) rfl keep_nil))))))))))))))))))))))))))))) ?_
                refine aw_true rfl ?_
                refine aw_region ?_
                refine sr_x rfl (wtd_none rfl) rfl (Rd.x (x_fieldAddr fd28_7 rfl)) ?_
                refine sr_x rfl (wtd_none rfl) rfl (Rd.x (x_load ag2 rfl (cells_ext (by repeat (first | exact List.mem_cons_self | apply List.mem_cons_of_mem)) (by repeat (first | exact Ext.all _ | exact Ext.done | apply Ext.take | apply Ext.skip))))) ?_
                refine sr_x rfl (wtd_none rfl) rfl (Rd.x (x_assign rfl)) ?_
                refine sr_nil ?_
                show AW _ _ _ _ _ _ _
                refine aw_seq_region ?_
                refine sr_x rfl (wtd_none rfl) rfl (Rd.x (x_move rfl)) ?_
                refine sr_x rfl (wtd_none rfl) rfl (Rd.x (x_move rfl)) ?_
                refine sr_skip rfl (wtd_no rfl rfl rfl rfl) rfl ?_
                refine sr_skip rfl (wtd_no rfl rfl rfl rfl) rfl ?_
                refine sr_skip rfl (wtd_no rfl rfl rfl rfl) rfl ?_
                refine sr_x rfl (wtd_none rfl) rfl (Rd.x (x_pick_f rfl rfl rfl)) ?_
                refine sr_x rfl (wtd_none rfl) rfl (Rd.x (x_move rfl)) ?_
                refine sr_skip rfl (wtd_no rfl rfl rfl rfl) rfl ?_
                refine sr_skip rfl (wtd_no rfl rfl rfl rfl) rfl ?_
                refine sr_skip rfl (wtd_no rfl rfl rfl rfl) rfl ?_
                refine sr_x rfl (wtd_none rfl) rfl (Rd.x (x_pick_f rfl rfl rfl)) ?_
                refine sr_x rfl (wtd_none rfl) rfl (Rd.x (x_move rfl)) ?_
                refine sr_skip rfl (wtd_no rfl rfl rfl rfl) rfl ?_
                refine sr_skip rfl (wtd_no rfl rfl rfl rfl) rfl ?_
                refine sr_skip rfl (wtd_no rfl rfl rfl rfl) rfl ?_
                refine sr_x rfl (wtd_none rfl) rfl (Rd.x (x_pick_f rfl rfl rfl)) ?_
                refine sr_nil ?_
                refine aw_keep (keep_cons (t := 0) rfl (keep_cons (t := 2) rfl (keep_cons (t := 3) rfl (keep_cons (t := 4) rfl (keep_cons (t := 5) rfl (keep_cons (t := 6) rfl (keep_cons (t := 7) rfl (keep_cons (t := 8) rfl (keep_cons (t := 9) rfl (keep_cons (t := 10) rfl (keep_cons (t := 11) rfl (keep_cons (t := 12) rfl (keep_cons (t := 13) rfl (keep_cons (t := 41) rfl (keep_cons (t := 42) rfl (keep_cons (t := 58) rfl (keep_cons (t := 59) rfl (keep_cons (t := 60) rfl (keep_cons (t := 61) rfl (keep_cons (t := 62) rfl (keep_cons (t := 63) rfl (keep_cons (t := 64) rfl (keep_cons (t := 65) rfl (keep_cons (t := 66) rfl (keep_cons (t := 67) rfl (keep_cons (t := 68) rfl (keep_cons (t := 69) rfl (keep_cons (t := 70) rfl (keep_cons (t := 71) rfl (keep_cons (t := 72) rfl (keep_cons (t := 73) rfl (keep_cons (t := 74) rfl (keep_cons (t := 75) rfl (keep_cons (t := 76) rfl (keep_cons (t := 77) rfl (keep_cons (t := 78) rfl (keep_cons (t := 79) rfl (keep_cons (t := 80) rfl (keep_cons (t := 81) rfl (keep_cons (t := 82) rfl (keep_cons (t := 83) rfl (keep_cons (t := 84) rfl (keep_cons (t := 85) rfl (keep_cons (t := 86) rfl (keep_cons (t := 87) rfl (keep_cons (t := 88) rfl (keep_cons (t := 89) rfl keep_nil))))))))))))))))))))))))))))))))))))))))))))))) ?_
                refine aw_false rfl ?_
                refine aw_skip ?_
                show AW _ _ _ _ _ _ _
                refine aw_region ?_
                refine sr_x rfl (wtd_none rfl) rfl (Rd.x (x_move rfl)) ?_
                refine sr_x rfl (wtd_none rfl) rfl (Rd.x (x_add' rfl rfl (i64w (by omega) (by omega)))) ?_
                refine sr_x rfl (wtd_none rfl) rfl (Rd.x (x_assign rfl)) ?_
                refine sr_nil ?_
                show ∃ s', _ ∧ _ ∧ _ ∧ _
                exact ⟨k + 1, ⟨by omega, fun k' x y hx hy h => (Nat.lt_or_eq_of_le (Nat.le_of_lt_succ h)).elim (hnk k' x y hx hy) fun e => by subst e; rw [hxk] at hx; rw [hxi] at hy; cases hx; cases hy; rintro ⟨q1, q2, q3, q4⟩; first | exact com_no hwk hwi hC (by omega) q1 | omega⟩, by omega, (by repeat (first | exact keep_nil | refine keep_cons rfl ?_)), (by repeat (first | exact Sub.refl _ | apply Sub.drop))⟩
              · refine sr_nil ?_
                refine aw_keep (keep_cons (t := 0) rfl (keep_cons (t := 2) rfl (keep_cons (t := 3) rfl (keep_cons (t := 4) rfl (keep_cons (t := 5) rfl (keep_cons (t := 6) rfl (keep_cons (t := 7) rfl (keep_cons (t := 8) rfl (keep_cons (t := 9) rfl (keep_cons (t := 10) rfl (keep_cons (t := 11) rfl (keep_cons (t := 12) rfl (keep_cons (t := 13) rfl (keep_cons (t := 41) rfl (keep_cons (t := 42) rfl (keep_cons (t := 58) rfl (keep_cons (t := 59) rfl (keep_cons (t := 60) rfl (keep_cons (t := 61) rfl (keep_cons (t := 62) rfl (keep_cons (t := 63) rfl (keep_cons (t := 64) rfl (keep_cons (t := 65) rfl (keep_cons (t := 66) rfl (keep_cons (t := 67) rfl (keep_cons (t := 68) rfl (keep_cons (t := 69) rfl (keep_cons (t := 70) rfl (keep_cons (t := 71) rfl keep_nil))))))))))))))))))))))))))))) ?_
                refine aw_false rfl ?_
                refine aw_skip ?_
                show AW _ _ _ _ _ _ _
                refine aw_seq_region ?_
                refine sr_x rfl (wtd_none rfl) rfl (Rd.x (x_move rfl)) ?_
                refine sr_x rfl (wtd_none rfl) rfl (Rd.x (x_move rfl)) ?_
                refine sr_skip rfl (wtd_no rfl rfl rfl rfl) rfl ?_
                refine sr_skip rfl (wtd_no rfl rfl rfl rfl) rfl ?_
                refine sr_skip rfl (wtd_no rfl rfl rfl rfl) rfl ?_
                refine sr_x rfl (wtd_none rfl) rfl (Rd.x (x_pick_f rfl rfl rfl)) ?_
                refine sr_x rfl (wtd_none rfl) rfl (Rd.x (x_move rfl)) ?_
                refine sr_skip rfl (wtd_no rfl rfl rfl rfl) rfl ?_
                refine sr_skip rfl (wtd_no rfl rfl rfl rfl) rfl ?_
                refine sr_skip rfl (wtd_no rfl rfl rfl rfl) rfl ?_
                refine sr_x rfl (wtd_none rfl) rfl (Rd.x (x_pick_f rfl rfl rfl)) ?_
                refine sr_x rfl (wtd_none rfl) rfl (Rd.x (x_move rfl)) ?_
                refine sr_skip rfl (wtd_no rfl rfl rfl rfl) rfl ?_
                refine sr_skip rfl (wtd_no rfl rfl rfl rfl) rfl ?_
                refine sr_skip rfl (wtd_no rfl rfl rfl rfl) rfl ?_
                refine sr_x rfl (wtd_none rfl) rfl (Rd.x (x_pick_f rfl rfl rfl)) ?_
                refine sr_nil ?_
                refine aw_keep (keep_cons (t := 0) rfl (keep_cons (t := 2) rfl (keep_cons (t := 3) rfl (keep_cons (t := 4) rfl (keep_cons (t := 5) rfl (keep_cons (t := 6) rfl (keep_cons (t := 7) rfl (keep_cons (t := 8) rfl (keep_cons (t := 9) rfl (keep_cons (t := 10) rfl (keep_cons (t := 11) rfl (keep_cons (t := 12) rfl (keep_cons (t := 13) rfl (keep_cons (t := 41) rfl (keep_cons (t := 42) rfl (keep_cons (t := 58) rfl (keep_cons (t := 59) rfl (keep_cons (t := 60) rfl (keep_cons (t := 61) rfl (keep_cons (t := 62) rfl (keep_cons (t := 63) rfl (keep_cons (t := 64) rfl (keep_cons (t := 65) rfl (keep_cons (t := 66) rfl (keep_cons (t := 67) rfl (keep_cons (t := 68) rfl (keep_cons (t := 69) rfl (keep_cons (t := 70) rfl (keep_cons (t := 71) rfl (keep_cons (t := 74) rfl (keep_cons (t := 75) rfl (keep_cons (t := 76) rfl (keep_cons (t := 77) rfl (keep_cons (t := 78) rfl (keep_cons (t := 79) rfl (keep_cons (t := 80) rfl (keep_cons (t := 81) rfl (keep_cons (t := 82) rfl (keep_cons (t := 83) rfl (keep_cons (t := 84) rfl (keep_cons (t := 85) rfl (keep_cons (t := 86) rfl (keep_cons (t := 87) rfl (keep_cons (t := 88) rfl (keep_cons (t := 89) rfl keep_nil))))))))))))))))))))))))))))))))))))))))))))) ?_
                refine aw_false rfl ?_
                refine aw_skip ?_
                show AW _ _ _ _ _ _ _
                refine aw_region ?_
                refine sr_x rfl (wtd_none rfl) rfl (Rd.x (x_move rfl)) ?_
                refine sr_x rfl (wtd_none rfl) rfl (Rd.x (x_add' rfl rfl (i64w (by omega) (by omega)))) ?_
                refine sr_x rfl (wtd_none rfl) rfl (Rd.x (x_assign rfl)) ?_
                refine sr_nil ?_
                show ∃ s', _ ∧ _ ∧ _ ∧ _
                exact ⟨k + 1, ⟨by omega, fun k' x y hx hy h => (Nat.lt_or_eq_of_le (Nat.le_of_lt_succ h)).elim (hnk k' x y hx hy) fun e => by subst e; rw [hxk] at hx; rw [hxi] at hy; cases hx; cases hy; rintro ⟨q1, q2, q3, q4⟩; first | exact com_no hwk hwi hC (by omega) q1 | omega⟩, by omega, (by repeat (first | exact keep_nil | refine keep_cons rfl ?_)), (by repeat (first | exact Sub.refl _ | apply Sub.drop))⟩
            · refine sr_nil ?_
              refine aw_keep (keep_cons (t := 0) rfl (keep_cons (t := 2) rfl (keep_cons (t := 3) rfl (keep_cons (t := 4) rfl (keep_cons (t := 5) rfl (keep_cons (t := 6) rfl (keep_cons (t := 7) rfl (keep_cons (t := 8) rfl (keep_cons (t := 9) rfl (keep_cons (t := 10) rfl (keep_cons (t := 11) rfl (keep_cons (t := 12) rfl (keep_cons (t := 13) rfl (keep_cons (t := 41) rfl (keep_cons (t := 42) rfl (keep_cons (t := 58) rfl (keep_cons (t := 59) rfl (keep_cons (t := 60) rfl (keep_cons (t := 61) rfl (keep_cons (t := 62) rfl (keep_cons (t := 63) rfl (keep_cons (t := 64) rfl (keep_cons (t := 65) rfl keep_nil))))))))))))))))))))))) ?_
              refine aw_false rfl ?_
              refine aw_skip ?_
              show AW _ _ _ _ _ _ _
              refine aw_seq ?_
              refine aw_seq_region ?_
              refine sr_x rfl (wtd_none rfl) rfl (Rd.x (x_fieldAddr fd28_7 rfl)) ?_
              refine sr_x rfl (wtd_none rfl) rfl (Rd.x (x_load ag2 rfl (cells_ext (by repeat (first | exact List.mem_cons_self | apply List.mem_cons_of_mem)) (by repeat (first | exact Ext.all _ | exact Ext.done | apply Ext.take | apply Ext.skip))))) ?_
              refine sr_x rfl (wtd_none rfl) rfl (Rd.x (x_move rfl)) ?_
              refine sr_cmp rfl (wtd_none rfl) rfl (Rd.x (x_lt rfl rfl)) (fun h38 => ?_) (fun h38 => ?_)
              · refine sr_nil ?_
                refine aw_keep (keep_cons (t := 0) rfl (keep_cons (t := 2) rfl (keep_cons (t := 3) rfl (keep_cons (t := 4) rfl (keep_cons (t := 5) rfl (keep_cons (t := 6) rfl (keep_cons (t := 7) rfl (keep_cons (t := 8) rfl (keep_cons (t := 9) rfl (keep_cons (t := 10) rfl (keep_cons (t := 11) rfl (keep_cons (t := 12) rfl (keep_cons (t := 13) rfl (keep_cons (t := 41) rfl (keep_cons (t := 42) rfl (keep_cons (t := 58) rfl (keep_cons (t := 59) rfl (keep_cons (t := 60) rfl (keep_cons (t := 61) rfl (keep_cons (t := 62) rfl (keep_cons (t := 63) rfl (keep_cons (t := 64) rfl (keep_cons (t := 65) rfl (keep_cons (t := 68) rfl (keep_cons (t := 69) rfl (keep_cons (t := 70) rfl (keep_cons (t := 71) rfl keep_nil))))))))))))))))))))))))))) ?_
                refine aw_true rfl ?_
                refine aw_region ?_
                refine sr_x rfl (wtd_none rfl) rfl (Rd.x (x_fieldAddr fd28_7 rfl)) ?_
                refine sr_x rfl (wtd_none rfl) rfl (Rd.x (x_load ag2 rfl (cells_ext (by repeat (first | exact List.mem_cons_self | apply List.mem_cons_of_mem)) (by repeat (first | exact Ext.all _ | exact Ext.done | apply Ext.take | apply Ext.skip))))) ?_
                refine sr_x rfl (wtd_none rfl) rfl (Rd.x (x_assign rfl)) ?_
                refine sr_nil ?_
                show AW _ _ _ _ _ _ _
                refine aw_seq_region ?_
                refine sr_x rfl (wtd_none rfl) rfl (Rd.x (x_move rfl)) ?_
                refine sr_x rfl (wtd_none rfl) rfl (Rd.x (x_move rfl)) ?_
                refine sr_skip rfl (wtd_no rfl rfl rfl rfl) rfl ?_
                refine sr_skip rfl (wtd_no rfl rfl rfl rfl) rfl ?_
                refine sr_skip rfl (wtd_no rfl rfl rfl rfl) rfl ?_
                refine sr_x rfl (wtd_none rfl) rfl (Rd.x (x_pick_f rfl rfl rfl)) ?_
                refine sr_x rfl (wtd_none rfl) rfl (Rd.x (x_move rfl)) ?_
                refine sr_skip rfl (wtd_no rfl rfl rfl rfl) rfl ?_
                refine sr_skip rfl (wtd_no rfl rfl rfl rfl) rfl ?_
                refine sr_skip rfl (wtd_no rfl rfl rfl rfl) rfl ?_
                refine sr_x rfl (wtd_none rfl) rfl (Rd.x (x_pick_f rfl rfl rfl)) ?_
                refine sr_x rfl (wtd_none rfl) rfl (Rd.x (x_move rfl)) ?_
                refine sr_skip rfl (wtd_no rfl rfl rfl rfl) rfl ?_
                refine sr_skip rfl (wtd_no rfl rfl rfl rfl) rfl ?_
                refine sr_skip rfl (wtd_no rfl rfl rfl rfl) rfl ?_
                refine sr_x rfl (wtd_none rfl) rfl (Rd.x (x_pick_f rfl rfl rfl)) ?_
                refine sr_nil ?_
                refine aw_keep (keep_cons (t := 0) rfl (keep_cons (t := 2) rfl (keep_cons (t := 3) rfl (keep_cons (t := 4) rfl (keep_cons (t := 5) rfl (keep_cons (t := 6) rfl (keep_cons (t := 7) rfl (keep_cons (t := 8) rfl (keep_cons (t := 9) rfl (keep_cons (t := 10) rfl (keep_cons (t := 11) rfl (keep_cons (t := 12) rfl (keep_cons (t := 13) rfl (keep_cons (t := 41) rfl (keep_cons (t := 42) rfl (keep_cons (t := 58) rfl (keep_cons (t := 59) rfl (keep_cons (t := 60) rfl (keep_cons (t := 61) rfl (keep_cons (t := 62) rfl (keep_cons (t := 63) rfl (keep_cons (t := 64) rfl (keep_cons (t := 65) rfl (keep_cons (t := 68) rfl (keep_cons (t := 69) rfl (keep_cons (t := 70) rfl (keep_cons (t := 71) rfl (keep_cons (t := 72) rfl (keep_cons (t := 73) rfl (keep_cons (t := 74) rfl (keep_cons (t := 75) rfl (keep_cons (t := 76) rfl (keep_cons (t := 77) rfl (keep_cons (t := 78) rfl (keep_cons (t := 79) rfl (keep_cons (t := 80) rfl (keep_cons (t := 81) rfl (keep_cons (t := 82) rfl (keep_cons (t := 83) rfl (keep_cons (t := 84) rfl (keep_cons (t := 85) rfl (keep_cons (t := 86) rfl (keep_cons (t := 87) rfl (keep_cons (t := 88) rfl (keep_cons (t := 89) rfl keep_nil))))))))))))))))))))))))))))))))))))))))))))) ?_
                refine aw_false rfl ?_
                refine aw_skip ?_
                show AW _ _ _ _ _ _ _
                refine aw_region ?_
                refine sr_x rfl (wtd_none rfl) rfl (Rd.x (x_move rfl)) ?_
                refine sr_x rfl (wtd_none rfl) rfl (Rd.x (x_add' rfl rfl (i64w (by omega) (by omega)))) ?_
                refine sr_x rfl (wtd_none rfl) rfl (Rd.x (x_assign rfl)) ?_
                refine sr_nil ?_
                show ∃ s', _ ∧ _ ∧ _ ∧ _
                exact ⟨k + 1, ⟨by omega, fun k' x y hx hy h => (Nat.lt_or_eq_of_le (Nat.le_of_lt_succ h)).elim (hnk k' x y hx hy) fun e => by subst e; rw [hxk] at hx; rw [hxi] at hy; cases hx; cases hy; rintro ⟨q1, q2, q3, q4⟩; first | exact com_no hwk hwi hC (by omega) q1 | omega⟩, by omega, (by repeat (first | exact keep_nil | refine keep_cons rfl ?_)), (by repeat (first | exact Sub.refl _ | apply Sub.drop))⟩
              · refine sr_nil ?_
                refine aw_keep (keep_cons (t := 0) rfl (keep_cons (t := 2) rfl (keep_cons (t := 3) rfl (keep_cons (t := 4) rfl (keep_cons (t := 5) rfl (keep_cons (t := 6) rfl (keep_cons (t := 7) rfl (keep_cons (t := 8) rfl (keep_cons (t := 9) rfl (keep_cons (t := 10) rfl (keep_cons (t := 11) rfl (keep_cons (t := 12) rfl (keep_cons (t := 13) rfl (keep_cons (t := 41) rfl (keep_cons (t := 42) rfl (keep_cons (t := 58) rfl (keep_cons (t := 59) rfl (keep_cons (t := 60) rfl (keep_cons (t := 61) rfl (keep_cons (t := 62) rfl (keep_cons (t := 63) rfl (keep_cons (t := 64) rfl (keep_cons (t := 65) rfl (keep_cons (t := 68) rfl (keep_cons (t := 69) rfl (keep_cons (t := 70) rfl (keep_cons (t := 71) rfl keep_nil))))))))))))))))))))))))))) ?_
                refine aw_false rfl ?_
                refine aw_skip ?_
                show AW _ _ _ _ _ _ _
                refine aw_seq_region ?_
                refine sr_x rfl (wtd_none rfl) rfl (Rd.x (x_move rfl)) ?_
                refine sr_x rfl (wtd_none rfl) rfl (Rd.x (x_move rfl)) ?_
                refine sr_skip rfl (wtd_no rfl rfl rfl rfl) rfl ?_
                refine sr_skip rfl (wtd_no rfl rfl rfl rfl) rfl ?_
                refine sr_skip rfl (wtd_no rfl rfl rfl rfl) rfl ?_
                refine sr_x rfl (wtd_none rfl) rfl (Rd.x (x_pick_f rfl rfl rfl)) ?_
                refine sr_x rfl (wtd_none rfl) rfl (Rd.x (x_move rfl)) ?_
                refine sr_skip rfl (wtd_no rfl rfl rfl rfl) rfl ?_
                refine sr_skip rfl (wtd_no rfl rfl rfl rfl) rfl ?_
                refine sr_skip rfl (wtd_no rfl rfl rfl rfl) rfl ?_
                refine sr_x rfl (wtd_none rfl) rfl (Rd.x (x_pick_f rfl rfl rfl)) ?_
                refine sr_x rfl (wtd_none rfl) rfl (Rd.x (x_move rfl)) ?_
                refine sr_skip rfl (wtd_no rfl rfl rfl rfl) rfl ?_
                refine sr_skip rfl (wtd_no rfl rfl rfl rfl) rfl ?_
                refine sr_skip rfl (wtd_no rfl rfl rfl rfl) rfl ?_
                refine sr_x rfl (wtd_none rfl) rfl (Rd.x (x_pick_f rfl rfl rfl)) ?_
                refine sr_nil ?_
                refine aw_keep (keep_cons (t := 0) rfl (keep_cons (t := 2) rfl (keep_cons (t := 3) rfl (keep_cons (t := 4) rfl (keep_cons (t := 5) rfl (keep_cons (t := 6) rfl (keep_cons (t := 7) rfl (keep_cons (t := 8) rfl (keep_cons (t := 9) rfl (keep_cons (t := 10) rfl (keep_cons (t := 11) rfl (keep_cons (t := 12) rfl (keep_cons (t := 13) rfl (keep_cons (t := 41) rfl (keep_cons (t := 42) rfl (keep_cons (t := 58) rfl (keep_cons (t := 59) rfl (keep_cons (t := 60) rfl (keep_cons (t := 61) rfl (keep_cons (t := 62) rfl (keep_cons (t := 63) rfl (keep_cons (t := 64) rfl (keep_cons (t := 65) rfl (keep_cons (t := 68) rfl (keep_cons (t := 69) rfl (keep_cons (t := 70) rfl (keep_cons (t := 71) rfl (keep_cons (t := 74) rfl (keep_cons (t := 75) rfl (keep_cons (t := 76) rfl (keep_cons (t := 77) rfl (keep_cons (t := 78) rfl (keep_cons (t := 79) rfl (keep_cons (t := 80) rfl (keep_cons (t := 81) rfl (keep_cons (t := 82) rfl (keep_cons (t := 83) rfl (keep_cons (t := 84) rfl (keep_cons (t := 85) rfl (keep_cons (t := 86) rfl (keep_cons (t := 87) rfl (keep_cons (t := 88) rfl (keep_cons (t := 89) rfl keep_nil))))))))))))))))))))))))))))))))))))))))))) ?_
                refine aw_false rfl ?_
                refine aw_skip ?_
                show AW _ _ _ _ _ _ _
                refine aw_region ?_
                refine sr_x rfl (wtd_none rfl) rfl (Rd.x (x_move rfl)) ?_
                refine sr_x rfl (wtd_none rfl) rfl (Rd.x (x_add' rfl rfl (i64w (by omega) (by omega)))) ?_
                refine sr_x rfl (wtd_none rfl) rfl (Rd.x (x_assign rfl)) ?_
                refine sr_nil ?_
                show ∃ s', _ ∧ _ ∧ _ ∧ _
                exact ⟨k + 1, ⟨by omega, fun k' x y hx hy h => (Nat.lt_or_eq_of_le (Nat.le_of_lt_succ h)).elim (hnk k' x y hx hy) fun e => by subst e; rw [hxk] at hx; rw [hxi] at hy; cases hx; cases hy; rintro ⟨q1, q2, q3, q4⟩; first | exact com_no hwk hwi hC (by omega) q1 | omega⟩, by omega, (by repeat (first | exact keep_nil | refine keep_cons rfl ?_)), (by repeat (first | exact Sub.refl _ | apply Sub.drop))⟩
        · refine aw_seq ?_
          refine aw_seq_region ?_
          refine sr_x rfl (wtd_none rfl) rfl (Rd.x (x_move rfl)) ?_
          refine sr_cmp rfl (wtd_none rfl) rfl (Rd.x (x_lt rfl rfl)) (fun h39 => ?_) (fun h39 => ?_)
          · refine sr_nil ?_
            refine aw_keep (keep_cons (t := 0) rfl (keep_cons (t := 2) rfl (keep_cons (t := 3) rfl (keep_cons (t := 4) rfl (keep_cons (t := 5) rfl (keep_cons (t := 6) rfl (keep_cons (t := 7) rfl (keep_cons (t := 8) rfl (keep_cons (t := 9) rfl (keep_cons (t := 10) rfl (keep_cons (t := 11) rfl (keep_cons (t := 41) rfl (keep_cons (t := 42) rfl keep_nil))))))))))))) ?_
            refine aw_true rfl ?_
            refine aw_skip ?_
            show AW _ _ _ _ _ _ _
            refine aw_seq ?_
            refine aw_block ?_
            refine aw_region ?_
            refine sr_x rfl (wtd_none rfl) rfl (Rd.x (x_move rfl)) ?_
            refine sr_x rfl (wtd_none rfl) rfl (Rd.x (x_move rfl)) ?_
            refine sr_skip rfl (wtd_no rfl rfl rfl rfl) rfl ?_
            refine sr_skip rfl (wtd_no rfl rfl rfl rfl) rfl ?_
            refine sr_skip rfl (wtd_no rfl rfl rfl rfl) rfl ?_
            refine sr_skip rfl (wtd_no rfl rfl rfl rfl) rfl ?_
            refine sr_skip rfl (wtd_no rfl rfl rfl rfl) rfl ?_
            refine sr_skip rfl (wtd_un rfl rfl rfl) rfl ?_
            refine sr_skip rfl (wtd_un rfl rfl rfl) rfl ?_
            refine sr_skip rfl (wtd_un rfl rfl rfl) rfl ?_
            refine sr_skip rfl (wtd_un rfl rfl rfl) rfl ?_
            refine sr_skip rfl (wtd_no rfl rfl rfl rfl) rfl ?_
            refine sr_x rfl (wtd_none rfl) rfl (Rd.x (x_pick_t rfl rfl rfl)) ?_
            refine sr_x rfl (wtd_none rfl) rfl (Rd.x (x_assign rfl)) ?_
            refine sr_nil ?_
            show AW _ _ _ _ _ _ _
            refine aw_region ?_
            refine sr_x rfl (wtd_none rfl) rfl (Rd.x (x_move rfl)) ?_
            refine sr_x rfl (wtd_none rfl) rfl (Rd.x (x_add' rfl rfl (i64w (by omega) (by omega)))) ?_
            refine sr_x rfl (wtd_none rfl) rfl (Rd.x (x_assign rfl)) ?_
            refine sr_nil ?_
            show ∃ s', _ ∧ _ ∧ _ ∧ _
            first | exact ⟨(n + 1, true), ⟨by show n + 1 ≤ 64; omega, com_t hC⟩, by show 64 - (n + 1) < 64 - n; omega, (by repeat (first | exact keep_nil | refine keep_cons rfl ?_)), (by repeat (first | exact Sub.refl _ | apply Sub.drop))⟩ | exact ⟨(n + 1, _), ⟨by show n + 1 ≤ 64; omega, com_ff hC (by assumption)⟩, by show 64 - (n + 1) < 64 - n; omega, (by repeat (first | exact keep_nil | refine keep_cons rfl ?_)), (by repeat (first | exact Sub.refl _ | apply Sub.drop))⟩ | exact ⟨(n + 1, _), ⟨by show n + 1 ≤ 64; omega, com_st hC (by assumption) (by assumption)⟩, by show 64 - (n + 1) < 64 - n; omega, (by repeat (first | exact keep_nil | refine keep_cons rfl ?_)), (by repeat (first | exact Sub.refl _ | apply Sub.drop))⟩
          · refine sr_nil ?_
            refine aw_keep (keep_cons (t := 0) rfl (keep_cons (t := 2) rfl (keep_cons (t := 3) rfl (keep_cons (t := 4) rfl (keep_cons (t := 5) rfl (keep_cons (t := 6) rfl (keep_cons (t := 7) rfl (keep_cons (t := 8) rfl (keep_cons (t := 9) rfl (keep_cons (t := 10) rfl (keep_cons (t := 11) rfl (keep_cons (t := 41) rfl (keep_cons (t := 42) rfl keep_nil))))))))))))) ?_
            refine aw_false rfl ?_
            refine aw_exit ?_
            show AW _ _ _ _ _ _ _
            refine aw_seq_dr ⟨_, 6, 117, [[], [0], [], [2], [0, 1], [0, 1, 2, 3, 4]], [.light, .mem, .light, .mem, .light, .light]⟩ (by kernel_rfl) rfl rfl mix ?_
            refine dr_light rfl rfl (wtd_none rfl) (x_fieldAddr fd28_6 rfl) ?_
            refine dr_mem0 rfl rfl (wtd_none rfl) (x_load ag2 rfl (cells_ext (by repeat (first | exact List.mem_cons_self | apply List.mem_cons_of_mem)) (by repeat (first | exact Ext.all _ | exact Ext.done | apply Ext.take | apply Ext.skip)))) ?_
            refine dr_light rfl rfl (wtd_none rfl) (x_fieldAddr fd28_7 rfl) ?_
            refine dr_mem0 rfl rfl (wtd_none rfl) (x_load ag2 rfl (cells_ext (by repeat (first | exact List.mem_cons_self | apply List.mem_cons_of_mem)) (by repeat (first | exact Ext.all _ | exact Ext.done | apply Ext.take | apply Ext.skip)))) ?_
            refine dr_light rfl rfl (wtd_none rfl) (x_assign rfl) ?_
            refine dr_light rfl rfl (wtd_none rfl) (x_assign rfl) ?_
            refine dr_nil0 ?_
            refine aw_keep (keep_cons (t := 0) rfl (keep_cons (t := 2) rfl (keep_cons (t := 3) rfl (keep_cons (t := 4) rfl (keep_cons (t := 5) rfl (keep_cons (t := 6) rfl (keep_cons (t := 7) rfl (keep_cons (t := 8) rfl (keep_cons (t := 9) rfl (keep_cons (t := 10) rfl (keep_cons (t := 11) rfl (keep_cons (t := 12) rfl (keep_cons (t := 13) rfl (keep_cons (t := 41) rfl (keep_cons (t := 42) rfl (keep_cons (t := 58) rfl (keep_cons (t := 59) rfl (keep_cons (t := 60) rfl (keep_cons (t := 61) rfl keep_nil))))))))))))))))))) ?_
            refine aw_seq ?_
            refine aw_seq_region ?_
            refine sr_x rfl (wtd_none rfl) rfl (Rd.x (x_fieldAddr fd28_6 rfl)) ?_
            refine sr_x rfl (wtd_none rfl) rfl (Rd.x (x_load ag2 rfl (cells_ext (by repeat (first | exact List.mem_cons_self | apply List.mem_cons_of_mem)) (by repeat (first | exact Ext.all _ | exact Ext.done | apply Ext.take | apply Ext.skip))))) ?_
            refine sr_x rfl (wtd_none rfl) rfl (Rd.x (x_move rfl)) ?_
            refine sr_cmp rfl (wtd_none rfl) rfl (Rd.x (x_gt rfl rfl)) (fun h40 => ?_) (fun h40 => ?_)
            · refine sr_nil ?_
              refine aw_keep (keep_cons (t := 0) rfl (keep_cons (t := 2) rfl (keep_cons (t := 3) rfl (keep_cons (t := 4) rfl (keep_cons (t := 5) rfl (keep_cons (t := 6) rfl (keep_cons (t := 7) rfl (keep_cons (t := 8) rfl (keep_cons (t := 9) rfl (keep_cons (t := 10) rfl (keep_cons (t := 11) rfl (keep_cons (t := 12) rfl (keep_cons (t := 13) rfl (keep_cons (t := 41) rfl (keep_cons (t := 42) rfl (keep_cons (t := 58) rfl (keep_cons (t := 59) rfl (keep_cons (t := 60) rfl (keep_cons (t := 61) rfl (keep_cons (t := 62) rfl (keep_cons (t := 63) rfl (keep_cons (t := 64) rfl (keep_cons (t := 65) rfl keep_nil))))))))))))))))))))))) ?_
              refine aw_true rfl ?_
              refine aw_region ?_
              refine sr_x rfl (wtd_none rfl) rfl (Rd.x (x_fieldAddr fd28_6 rfl)) ?_
              refine sr_x rfl (wtd_none rfl) rfl (Rd.x (x_load ag2 rfl (cells_ext (by repeat (first | exact List.mem_cons_self | apply List.mem_cons_of_mem)) (by repeat (first | exact Ext.all _ | exact Ext.done | apply Ext.take | apply Ext.skip))))) ?_
              refine sr_x rfl (wtd_none rfl) rfl (Rd.x (x_assign rfl)) ?_
              refine sr_nil ?_
              show AW _ _ _ _ _ _ _
              refine aw_seq ?_
              refine aw_seq_region ?_
              refine sr_x rfl (wtd_none rfl) rfl (Rd.x (x_fieldAddr fd28_7 rfl)) ?_
              refine sr_x rfl (wtd_none rfl) rfl (Rd.x (x_load ag2 rfl (cells_ext (by repeat (first | exact List.mem_cons_self | apply List.mem_cons_of_mem)) (by repeat (first | exact Ext.all _ | exact Ext.done | apply Ext.take | apply Ext.skip))))) ?_
              refine sr_x rfl (wtd_none rfl) rfl (Rd.x (x_move rfl)) ?_
              refine sr_cmp rfl (wtd_none rfl) rfl (Rd.x (x_lt rfl rfl)) (fun h41 => ?_) (fun h41 => ?_)
              · refine sr_nil ?_
                refine aw_keep (keep_cons (t := 0) rfl (keep_cons (t := 2) rfl (keep_cons (t := 3) rfl (keep_cons (t := 4) rfl (keep_cons (t := 5) rfl (keep_cons (t := 6) rfl (keep_cons (t := 7) rfl (keep_cons (t := 8) rfl (keep_cons (t := 9) rfl (keep_cons (t := 10) rfl (keep_cons (t := 11) rfl (keep_cons (t := 12) rfl (keep_cons (t := 13) rfl (keep_cons (t := 41) rfl (keep_cons (t := 42) rfl (keep_cons (t := 58) rfl (keep_cons (t := 59) rfl (keep_cons (t := 60) rfl (keep_cons (t := 61) rfl (keep_cons (t := 62) rfl (keep_cons (t := 63) rfl (keep_cons (t := 64) rfl (keep_cons (t := 65) rfl (keep_cons (t := 66) rfl (keep_cons (t := 67) rfl (keep_cons (t := 68) rfl (keep_cons (t := 69) rfl (keep_cons (t := 70) rfl (keep_cons (t := 71) rfl keep_nil))))))))))))))))))))))))))))) ?_
                refine aw_true rfl ?_
                refine aw_region ?_
                refine sr_x rfl (wtd_none rfl) rfl (Rd.x (x_fieldAddr fd28_7 rfl)) ?_
                refine sr_x rfl (wtd_none rfl) rfl (Rd.x (x_load ag2 rfl (cells_ext (by repeat (first | exact List.mem_cons_self | apply List.mem_cons_of_mem)) (by repeat (first | exact Ext.all _ | exact Ext.done | apply Ext.take | apply Ext.skip))))) ?_
                refine sr_x rfl (wtd_none rfl) rfl (Rd.x (x_assign rfl)) ?_
                refine sr_nil ?_
                show AW _ _ _ _ _ _ _
                refine aw_seq_region ?_
                refine sr_x rfl (wtd_none rfl) rfl (Rd.x (x_move rfl)) ?_
                refine sr_x rfl (wtd_none rfl) rfl (Rd.x (x_move rfl)) ?_
                refine sr_x rfl (wtd_yes rfl rfl rfl) rfl (Rd.x (x_fieldAddr fd28_6 rfl)) ?_
                refine sr_x rfl (wtd_yes rfl rfl rfl) rfl (Rd.x (x_load ag2 rfl (cells_ext (by repeat (first | exact List.mem_cons_self | apply List.mem_cons_of_mem)) (by repeat (first | exact Ext.all _ | exact Ext.done | apply Ext.take | apply Ext.skip))))) ?_
                refine sr_cmp rfl (wtd_yes rfl rfl rfl) rfl (Rd.x (x_ge rfl rfl)) (fun h42 => ?_) (fun h42 => ?_)
                · refine sr_x rfl (wtd_none rfl) rfl (Rd.x (x_pick_t rfl rfl rfl)) ?_
                  refine sr_x rfl (wtd_none rfl) rfl (Rd.x (x_move rfl)) ?_
                  refine sr_x rfl (wtd_yes rfl rfl rfl) rfl (Rd.x (x_fieldAddr fd28_6 rfl)) ?_
                  refine sr_x rfl (wtd_yes rfl rfl rfl) rfl (Rd.x (x_load ag2 rfl (cells_ext (by repeat (first | exact List.mem_cons_self | apply List.mem_cons_of_mem)) (by repeat (first | exact Ext.all _ | exact Ext.done | apply Ext.take | apply Ext.skip))))) ?_
                  refine sr_cmp rfl (wtd_yes rfl rfl rfl) rfl (Rd.x (x_ge rfl rfl)) (fun h43 => ?_) (fun h43 => ?_)
                  · refine sr_x rfl (wtd_none rfl) rfl (Rd.x (x_pick_t rfl rfl rfl)) ?_
                    refine sr_x rfl (wtd_none rfl) rfl (Rd.x (x_move rfl)) ?_
                    refine sr_x rfl (wtd_yes rfl rfl rfl) rfl (Rd.x (x_move rfl)) ?_
                    refine sr_x rfl (wtd_yes rfl rfl rfl) rfl (Rd.x (x_move rfl)) ?_
                    refine sr_cmp rfl (wtd_yes rfl rfl rfl) rfl (Rd.x (x_lt rfl rfl)) (fun h44 => ?_) (fun h44 => ?_)
                    · refine sr_x rfl (wtd_none rfl) rfl (Rd.x (x_pick_t rfl rfl rfl)) ?_
                      refine sr_nil ?_
                      refine aw_keep (keep_cons (t := 0) rfl (keep_cons (t := 2) rfl (keep_cons (t := 3) rfl (keep_cons (t := 4) rfl (keep_cons (t := 5) rfl (keep_cons (t := 6) rfl (keep_cons (t := 7) rfl (keep_cons (t := 8) rfl (keep_cons (t := 9) rfl (keep_cons (t := 10) rfl (keep_cons (t := 11) rfl (keep_cons (t := 12) rfl (keep_cons (t := 13) rfl (keep_cons (t := 41) rfl (keep_cons (t := 42) rfl (keep_cons (t := 58) rfl (keep_cons (t := 59) rfl (keep_cons (t := 60) rfl (keep_cons (t := 61) rfl (keep_cons (t := 62) rfl (keep_cons (t := 63) rfl (keep_cons (t := 64) rfl (keep_cons (t := 65) rfl (keep_cons (t := 66) rfl (keep_cons (t := 67) rfl (keep_cons (t := 68) rfl (keep_cons (t := 69) rfl (keep_cons (t := 70) rfl (keep_cons (t := 71) rfl (keep_cons (t := 72) rfl (keep_cons (t := 73) rfl (keep_cons (t := 74) rfl (keep_cons (t := 75) rfl (keep_cons (t := 76) rfl (keep_cons (t := 77) rfl (keep_cons (t := 78) rfl (keep_cons (t := 79) rfl (keep_cons (t := 80) rfl (keep_cons (t := 81) rfl (keep_cons (t := 82) rfl (keep_cons (t := 83) rfl (keep_cons (t := 84) rfl (keep_cons (t := 85) rfl (keep_cons (t := 86) rfl (keep_cons (t := 87) rfl (keep_cons (t := 88) rfl (keep_cons (t := 89) rfl keep_nil))))))))))))))))))))))))))))))))))))))))))))))) ?_
                      refine aw_true rfl ?_
                      refine aw_seq_region ?_
                      refine sr_x rfl (wtd_none rfl) rfl (Rd.x (x_move rfl)) ?_
                      refine sr_x rfl (wtd_none rfl) rfl (Rd.x (x_move rfl)) ?_
                      refine sr_cmp rfl (wtd_none rfl) rfl (Rd.x (x_eq rfl rfl)) (fun h45 => ?_) (fun h45 => ?_)
                      · refine sr_x rfl (wtd_none rfl) rfl (Rd.x (x_move rfl)) ?_
                        refine sr_x rfl (wtd_yes rfl rfl rfl) rfl (Rd.x (x_move rfl)) ?_
                        refine sr_x rfl (wtd_yes rfl rfl rfl) rfl (Rd.x (x_move rfl)) ?_
                        refine sr_cmp rfl (wtd_yes rfl rfl rfl) rfl (Rd.x (x_eq rfl rfl)) (fun h46 => ?_) (fun h46 => ?_)
                        · refine sr_x rfl (wtd_none rfl) rfl (Rd.x (x_pick_t rfl rfl rfl)) ?_
                          refine sr_x rfl (wtd_none rfl) rfl (Rd.x (x_move rfl)) ?_
                          refine sr_x rfl (wtd_yes rfl rfl rfl) rfl (Rd.x (x_move rfl)) ?_
                          refine sr_x rfl (wtd_none rfl) rfl (Rd.x (x_pick_t rfl rfl rfl)) ?_
                          refine sr_x rfl (wtd_none rfl) rfl (Rd.x (x_move rfl)) ?_
                          refine sr_d rfl (wtd_yes rfl rfl rfl) rfl (opS_call rfl rfl rfl rfl cl16 (awake30_s _)) ?_
                          rintro _ _ ⟨rfl, rfl⟩
                          refine sr_x rfl (wtd_none rfl) rfl (Rd.x (x_pick_t rfl rfl rfl)) ?_
                          refine sr_x rfl (wtd_none rfl) rfl (Rd.x (x_assign rfl)) ?_
                          refine sr_nil ?_
                          refine aw_keep (keep_cons (t := 0) rfl (keep_cons (t := 2) rfl (keep_cons (t := 3) rfl (keep_cons (t := 4) rfl (keep_cons (t := 5) rfl (keep_cons (t := 6) rfl (keep_cons (t := 7) rfl (keep_cons (t := 8) rfl (keep_cons (t := 9) rfl (keep_cons (t := 10) rfl (keep_cons (t := 11) rfl (keep_cons (t := 12) rfl (keep_cons (t := 13) rfl (keep_cons (t := 41) rfl (keep_cons (t := 42) rfl (keep_cons (t := 58) rfl (keep_cons (t := 59) rfl (keep_cons (t := 60) rfl (keep_cons (t := 61) rfl (keep_cons (t := 62) rfl (keep_cons (t := 63) rfl (keep_cons (t := 64) rfl (keep_cons (t := 65) rfl (keep_cons (t := 66) rfl (keep_cons (t := 67) rfl (keep_cons (t := 68) rfl (keep_cons (t := 69) rfl (keep_cons (t := 70) rfl (keep_cons (t := 71) rfl (keep_cons (t := 72) rfl (keep_cons (t := 73) rfl (keep_cons (t := 74) rfl (keep_cons (t := 75) rfl (keep_cons (t := 76) rfl (keep_cons (t := 77) rfl (keep_cons (t := 78) rfl (keep_cons (t := 79) rfl (keep_cons (t := 80) rfl (keep_cons (t := 81) rfl (keep_cons (t := 82) rfl (keep_cons (t := 83) rfl (keep_cons (t := 84) rfl (keep_cons (t := 85) rfl (keep_cons (t := 86) rfl (keep_cons (t := 87) rfl (keep_cons (t := 88) rfl (keep_cons (t := 89) rfl (keep_cons (t := 90) rfl (keep_cons (t := 91) rfl (keep_cons (t := 92) rfl (keep_cons (t := 93) rfl (keep_cons (t := 94) rfl (keep_cons (t := 95) rfl (keep_cons (t := 96) rfl (keep_cons (t := 97) rfl (keep_cons (t := 98) rfl (keep_cons (t := 99) rfl (keep_cons (t := 100) rfl (keep_cons (t := 101) rfl (keep_cons (t := 102) rfl (keep_cons (t := 103) rfl keep_nil))))))))))))))))))))))))))))))))))))))))))))))))))))))))))))) ?_
                          refine aw_ret ?_
                          show ∃ v H2, ResV _ _ _ _ _ _ v ∧ Sub H2 _ ∧ _
                          exact ⟨_, _, resV rfl (.cons rfl .nil), (by repeat (first | exact Sub.refl _ | apply Sub.drop)), (by first | rfl | (exfalso; have hh : hit xi xk := ⟨com_yes hwk hwi hC (by omega), by omega, by omega, by omega⟩; first | exact hno0 rfl |>.2.2 k i xk xi hxk hxi (by omega) hh | (have := first_uniq (hok rfl) hxk hxi (by omega) hh hno hnk; omega)) | (exfalso; first | (have := hno0 rfl; omega) | exact (hok rfl).1.elim fun x hx => hx.elim fun y hy => hno _ _ x y hy.1 hy.2.1 hy.2.2.1 (by have := (List.getElem?_eq_some_iff.1 hy.2.1).1; omega) hy.2.2.2))⟩
                        · refine sr_x rfl (wtd_none rfl) rfl (Rd.x (x_pick_t rfl rfl rfl)) ?_
                          refine sr_x rfl (wtd_none rfl) rfl (Rd.x (x_move rfl)) ?_
                          refine sr_skip rfl (wtd_no rfl rfl rfl rfl) rfl ?_
                          refine sr_x rfl (wtd_none rfl) rfl (Rd.x (x_pick_f rfl rfl rfl)) ?_
                          refine sr_x rfl (wtd_none rfl) rfl (Rd.x (x_move rfl)) ?_
                          refine sr_skip rfl (wtd_no rfl rfl rfl rfl) rfl ?_
                          refine sr_x rfl (wtd_none rfl) rfl (Rd.x (x_pick_f rfl rfl rfl)) ?_
                          refine sr_x rfl (wtd_none rfl) rfl (Rd.x (x_assign rfl)) ?_
                          refine sr_nil ?_
                          refine aw_keep (keep_cons (t := 0) rfl (keep_cons (t := 2) rfl (keep_cons (t := 3) rfl (keep_cons (t := 4) rfl (keep_cons (t := 5) rfl (keep_cons (t := 6) rfl (keep_cons (t := 7) rfl (keep_cons (t := 8) rfl (keep_cons (t := 9) rfl (keep_cons (t := 10) rfl (keep_cons (t := 11) rfl (keep_cons (t := 12) rfl (keep_cons (t := 13) rfl (keep_cons (t := 41) rfl (keep_cons (t := 42) rfl (keep_cons (t := 58) rfl (keep_cons (t := 59) rfl (keep_cons (t := 60) rfl (keep_cons (t := 61) rfl (keep_cons (t := 62) rfl (keep_cons (t := 63) rfl (keep_cons (t := 64) rfl (keep_cons (t := 65) rfl (keep_cons (t := 66) rfl (keep_cons (t := 67) rfl (keep_cons (t := 68) rfl (keep_cons (t := 69) rfl (keep_cons (t := 70) rfl (keep_cons (t := 71) rfl (keep_cons (t := 72) rfl (keep_cons (t := 73) rfl (keep_cons (t := 74) rfl (keep_cons (t := 75) rfl (keep_cons (t := 76) rfl (keep_cons (t := 77) rfl (keep_cons (t := 78) rfl (keep_cons (t := 79) rfl (keep_cons (t := 80) rfl (keep_cons (t := 81) rfl (keep_cons (t := 82) rfl (keep_cons (t := 83) rfl (keep_cons (t := 84) rfl (keep_cons (t := 85) rfl (keep_cons (t := 86) rfl (keep_cons (t := 87) rfl (keep_cons (t := 88) rfl (keep_cons (t := 89) rfl (keep_cons (t := 90) rfl (keep_cons (t := 91) rfl (keep_cons (t := 92) rfl (keep_cons (t := 93) rfl (keep_cons (t := 94) rfl (keep_cons (t := 95) rfl (keep_cons (t := 96) rfl (keep_cons (t := 97) rfl (keep_cons (t := 98) rfl (keep_cons (t := 99) rfl (keep_cons (t := 100) rfl (keep_cons (t := 101) rfl (keep_cons (t := 102) rfl (keep_cons (t := 103) rfl keep_nil))))))))))))))))))))))))))))))))))))))))))))))))))))))))))))) ?_
                          refine aw_ret ?_
                          show ∃ v H2, ResV _ _ _ _ _ _ v ∧ Sub H2 _ ∧ _
                          exact ⟨_, _, resV rfl (.cons rfl .nil), (by repeat (first | exact Sub.refl _ | apply Sub.drop)), (by first | rfl | (exfalso; have hh : hit xi xk := ⟨com_yes hwk hwi hC (by omega), by omega, by omega, by omega⟩; first | exact hno0 rfl |>.2.2 k i xk xi hxk hxi (by omega) hh | (have := first_uniq (hok rfl) hxk hxi (by omega) hh hno hnk; omega)) | (exfalso; first | (have := hno0 rfl; omega) | exact (hok rfl).1.elim fun x hx => hx.elim fun y hy => hno _ _ x y hy.1 hy.2.1 hy.2.2.1 (by have := (List.getElem?_eq_some_iff.1 hy.2.1).1; omega) hy.2.2.2))⟩
                      · refine sr_x rfl (wtd_none rfl) rfl (Rd.x (x_move rfl)) ?_
                        refine sr_skip rfl (wtd_no rfl rfl rfl rfl) rfl ?_
                        refine sr_skip rfl (wtd_no rfl rfl rfl rfl) rfl ?_
                        refine sr_skip rfl (wtd_no rfl rfl rfl rfl) rfl ?_
                        refine sr_x rfl (wtd_none rfl) rfl (Rd.x (x_pick_f rfl rfl rfl)) ?_
                        refine sr_x rfl (wtd_none rfl) rfl (Rd.x (x_move rfl)) ?_
                        refine sr_skip rfl (wtd_no rfl rfl rfl rfl) rfl ?_
                        refine sr_x rfl (wtd_none rfl) rfl (Rd.x (x_pick_f rfl rfl rfl)) ?_
                        refine sr_x rfl (wtd_none rfl) rfl (Rd.x (x_move rfl)) ?_
                        refine sr_skip rfl (wtd_no rfl rfl rfl rfl) rfl ?_
                        refine sr_x rfl (wtd_none rfl) rfl (Rd.x (x_pick_f rfl rfl rfl)) ?_
                        refine sr_x rfl (wtd_none rfl) rfl (Rd.x (x_assign rfl)) ?_
                        refine sr_nil ?_
                        refine aw_keep (keep_cons (t := 0) rfl (keep_cons (t := 2) rfl (keep_cons (t := 3) rfl (keep_cons (t := 4) rfl (keep_cons (t := 5) rfl (keep_cons (t := 6) rfl (keep_cons (t := 7) rfl (keep_cons (t := 8) rfl (keep_cons (t := 9) rfl (keep_cons (t := 10) rfl (keep_cons (t := 11) rfl (keep_cons (t := 12) rfl (keep_cons (t := 13) rfl (keep_cons (t := 41) rfl (keep_cons (t := 42) rfl (keep_cons (t := 58) rfl (keep_cons (t := 59) rfl (keep_cons (t := 60) rfl (keep_cons (t := 61) rfl (keep_cons (t := 62) rfl (keep_cons (t := 63) rfl (keep_cons (t := 64) rfl (keep_cons (t := 65) rfl (keep_cons (t := 66) rfl (keep_cons (t := 67) rfl (keep_cons (t := 68) rfl (keep_cons (t := 69) rfl (keep_cons (t := 70) rfl (keep_cons (t := 71) rfl (keep_cons (t := 72) rfl (keep_cons (t := 73) rfl (keep_cons (t := 74) rfl (keep_cons (t := 75) rfl (keep_cons (t := 76) rfl (keep_cons (t := 77) rfl (keep_cons (t := 78) rfl (keep_cons (t := 79) rfl (keep_cons (t := 80) rfl (keep_cons (t := 81) rfl (keep_cons (t := 82) rfl (keep_cons (t := 83) rfl (keep_cons (t := 84) rfl (keep_cons (t := 85) rfl (keep_cons (t := 86) rfl (keep_cons (t := 87) rfl (keep_cons (t := 88) rfl (keep_cons (t := 89) rfl (keep_cons (t := 90) rfl (keep_cons (t := 91) rfl (keep_cons (t := 92) rfl (keep_cons (t := 93) rfl (keep_cons (t := 94) rfl (keep_cons (t := 95) rfl (keep_cons (t := 96) rfl (keep_cons (t := 97) rfl (keep_cons (t := 98) rfl (keep_cons (t := 99) rfl (keep_cons (t := 100) rfl (keep_cons (t := 101) rfl (keep_cons (t := 102) rfl (keep_cons (t := 103) rfl keep_nil))))))))))))))))))))))))))))))))))))))))))))))))))))))))))))) ?_
                        refine aw_ret ?_
                        show ∃ v H2, ResV _ _ _ _ _ _ v ∧ Sub H2 _ ∧ _
                        exact ⟨_, _, resV rfl (.cons rfl .nil), (by repeat (first | exact Sub.refl _ | apply Sub.drop)), (by first | rfl | (exfalso; have hh : hit xi xk := ⟨com_yes hwk hwi hC (by omega), by omega, by omega, by omega⟩; first | exact hno0 rfl |>.2.2 k i xk xi hxk hxi (by omega) hh | (have := first_uniq (hok rfl) hxk hxi (by omega) hh hno hnk; omega)) | (exfalso; first | (have := hno0 rfl; omega) | exact (hok rfl).1.elim fun x hx => hx.elim fun y hy => hno _ _ x y hy.1 hy.2.1 hy.2.2.1 (by have := (List.getElem?_eq_some_iff.1 hy.2.1).1; omega) hy.2.2.2))⟩
                    · refine sr_x rfl (wtd_none rfl) rfl (Rd.x (x_pick_t rfl rfl rfl)) ?_
                      refine sr_nil ?_
                      refine aw_keep (keep_cons (t := 0) rfl (keep_cons (t := 2) rfl (keep_cons (t := 3) rfl (keep_cons (t := 4) rfl (keep_cons (t := 5) rfl (keep_cons (t := 6) rfl (keep_cons (t := 7) rfl (keep_cons (t := 8) rfl (keep_cons (t := 9) rfl (keep_cons (t := 10) rfl (keep_cons (t := 11) rfl (keep_cons (t := 12) rfl (keep_cons (t := 13) rfl (keep_cons (t := 41) rfl (keep_cons (t := 42) rfl (keep_cons (t := 58) rfl (keep_cons (t := 59) rfl (keep_cons (t := 60) rfl (keep_cons (t := 61) rfl (keep_cons (t := 62) rfl (keep_cons (t := 63) rfl (keep_cons (t := 64) rfl (keep_cons (t := 65) rfl (keep_cons (t := 66) rfl (keep_cons (t := 67) rfl (keep_cons (t := 68) rfl (keep_cons (t := 69) rfl (keep_cons (t := 70) rfl (keep_cons (t := 71) rfl (keep_cons (t := 72) rfl (keep_cons (t := 73) rfl (keep_cons (t := 74) rfl (keep_cons (t := 75) rfl (keep_cons (t := 76) rfl (keep_cons (t := 77) rfl (keep_cons (t := 78) rfl (keep_cons (t := 79) rfl (keep_cons (t := 80) rfl (keep_cons (t := 81) rfl (keep_cons (t := 82) rfl (keep_cons (t := 83) rfl (keep_cons (t := 84) rfl (keep_cons (t := 85) rfl (keep_cons (t := 86) rfl (keep_cons (t := 87) rfl (keep_cons (t := 88) rfl (keep_cons (t := 89) rfl keep_nil))))))))))))))))))))))))))))))))))))))))))))))) ?_
                      refine aw_false rfl ?_
                      refine aw_skip ?_
                      show AW _ _ _ _ _ _ _
                      refine aw_region ?_
                      refine sr_x rfl (wtd_none rfl) rfl (Rd.x (x_move rfl)) ?_
                      refine sr_x rfl (wtd_none rfl) rfl (Rd.x (x_add' rfl rfl (i64w (by omega) (by omega)))) ?_
                      refine sr_x rfl (wtd_none rfl) rfl (Rd.x (x_assign rfl)) ?_
                      refine sr_nil ?_
                      show ∃ s', _ ∧ _ ∧ _ ∧ _
                      exact ⟨k + 1, ⟨by omega, fun k' x y hx hy h => (Nat.lt_or_eq_of_le (Nat.le_of_lt_succ h)).elim (hnk k' x y hx hy) fun e => by subst e; rw [hxk] at hx; rw [hxi] at hy; cases hx; cases hy; rintro ⟨q1, q2, q3, q4⟩; first | exact com_no hwk hwi hC (by omega) q1 | omega⟩, by omega, (by repeat (first | exact keep_nil | refine keep_cons rfl ?_)), (by repeat (first | exact Sub.refl _ | apply Sub.drop))⟩
                  · refine sr_x rfl (wtd_none rfl) rfl (Rd.x (x_pick_t rfl rfl rfl)) ?_
                    refine sr_x rfl (wtd_none rfl) rfl (Rd.x (x_move rfl)) ?_
                    refine sr_skip rfl (wtd_no rfl rfl rfl rfl) rfl ?_
                    refine sr_skip rfl (wtd_no rfl rfl rfl rfl) rfl ?_
                    refine sr_skip rfl (wtd_no rfl rfl rfl rfl) rfl ?_
                    refine sr_x rfl (wtd_none rfl) rfl (Rd.x (x_pick_f rfl rfl rfl)) ?_
                    refine sr_nil ?_
                    refine aw_keep (keep_cons (t := 0) rfl (keep_cons (t := 2) rfl (keep_cons (t := 3) rfl (keep_cons (t := 4) rfl (keep_cons (t := 5) rfl (keep_cons (t := 6) rfl (keep_cons (t := 7) rfl (keep_cons (t := 8) rfl (keep_cons (t := 9) rfl (keep_cons (t := 10) rfl (keep_cons (t := 11) rfl (keep_cons (t := 12) rfl (keep_cons (t := 13) rfl (keep_cons (t := 41) rfl (keep_cons (t := 42) rfl (keep_cons (t := 58) rfl (keep_cons (t := 59) rfl (keep_cons (t := 60) rfl (keep_cons (t := 61) rfl (keep_cons (t := 62) rfl (keep_cons (t := 63) rfl (keep_cons (t := 64) rfl (keep_cons (t := 65) rfl (keep_cons (t := 66) rfl (keep_cons (t := 67) rfl (keep_cons (t := 68) rfl (keep_cons (t := 69) rfl (keep_cons (t := 70) rfl (keep_cons (t := 71) rfl (keep_cons (t := 72) rfl (keep_cons (t := 73) rfl (keep_cons (t := 74) rfl (keep_cons (t := 75) rfl (keep_cons (t := 76) rfl (keep_cons (t := 77) rfl (keep_cons (t := 78) rfl (keep_cons (t := 79) rfl (keep_cons (t := 80) rfl (keep_cons (t := 81) rfl (keep_cons (t := 82) rfl (keep_cons (t := 83) rfl (keep_cons (t := 84) rfl (keep_cons (t := 85) rfl (keep_cons (t := 86) rfl (keep_cons (t := 87) rfl (keep_cons (t := 88) rfl (keep_cons (t := 89) rfl keep_nil))))))))))))))))))))))))))))))))))))))))))))))) ?_
                    refine aw_false rfl ?_
                    refine aw_skip ?_
                    show AW _ _ _ _ _ _ _
                    refine aw_region ?_
                    refine sr_x rfl (wtd_none rfl) rfl (Rd.x (x_move rfl)) ?_
                    refine sr_x rfl (wtd_none rfl) rfl (Rd.x (x_add' rfl rfl (i64w (by omega) (by omega)))) ?_
                    refine sr_x rfl (wtd_none rfl) rfl (Rd.x (x_assign rfl)) ?_
                    refine sr_nil ?_
                    show ∃ s', _ ∧ _ ∧ _ ∧ _
                    exact ⟨k + 1, ⟨by omega, fun k' x y hx hy h => (Nat.lt_or_eq_of_le (Nat.le_of_lt_succ h)).elim (hnk k' x y hx hy) fun e => by subst e; rw [hxk] at hx; rw [hxi] at hy; cases hx; cases hy; rintro ⟨q1, q2, q3, q4⟩; first | exact com_no hwk hwi hC (by omega) q1 | omega⟩, by omega, (by repeat (first | exact keep_nil | refine keep_cons rfl ?_)), (by repeat (first | exact Sub.refl _ | apply Sub.drop))⟩
                · refine sr_x rfl (wtd_none rfl) rfl (Rd.x (x_pick_t rfl rfl rfl)) ?_
                  refine sr_x rfl (wtd_none rfl) rfl (Rd.x (x_move rfl)) ?_
                  refine sr_skip rfl (wtd_no rfl rfl rfl rfl) rfl ?_
                  refine sr_skip rfl (wtd_no rfl rfl rfl rfl) rfl ?_
                  refine sr_skip rfl (wtd_no rfl rfl rfl rfl) rfl ?_
                  refine sr_x rfl (wtd_none rfl) rfl (Rd.x (x_pick_f rfl rfl rfl)) ?_
                  refine sr_x rfl (wtd_none rfl) rfl (Rd.x (x_move rfl)) ?_
                  refine sr_skip rfl (wtd_no rfl rfl rfl rfl) rfl ?_
                  refine sr_skip rfl (wtd_no rfl rfl rfl rfl) rfl ?_
                  refine sr_skip rfl (wtd_no rfl rfl rfl rfl) rfl ?_
                  refine sr_x rfl (wtd_none rfl) rfl (Rd.x (x_pick_f rfl rfl rfl)) ?_
                  refine sr_nil ?_
                  refine aw_keep (keep_cons (t := 0) rfl (keep_cons (t := 2) rfl (keep_cons (t := 3) rfl (keep_cons (t := 4) rfl (keep_cons (t := 5) rfl (keep_cons (t := 6) rfl (keep_cons (t := 7) rfl (keep_cons (t := 8) rfl (keep_cons (t := 9) rfl (keep_cons (t := 10) rfl (keep_cons (t := 11) rfl (keep_cons (t := 12) rfl (keep_cons (t := 13) rfl (keep_cons (t := 41) rfl (keep_cons (t := 42) rfl (keep_cons (t := 58) rfl (keep_cons (t := 59) rfl (keep_cons (t := 60) rfl (keep_cons (t := 61) rfl (keep_cons (t := 62) rfl (keep_cons (t := 63) rfl (keep_cons (t := 64) rfl (keep_cons (t := 65) rfl (keep_cons (t := 66) rfl (keep_cons (t := 67) rfl (keep_cons (t := 68) rfl (keep_cons (t := 69) rfl (keep_cons (t := 70) rfl (keep_cons (t := 71) rfl (keep_cons (t := 72) rfl (keep_cons (t := 73) rfl (keep_cons (t := 74) rfl (keep_cons (t := 75) rfl (keep_cons (t := 76) rfl (keep_cons (t := 77) rfl (keep_cons (t := 78) rfl (keep_cons (t := 79) rfl (keep_cons (t := 80) rfl (keep_cons (t := 81) rfl (keep_cons (t := 82) rfl (keep_cons (t := 83) rfl (keep_cons (t := 84) rfl (keep_cons (t := 85) rfl (keep_cons (t := 86) rfl (keep_cons (t := 87) rfl (keep_cons (t := 88) rfl (keep_cons (t := 89) rfl keep_nil))))))))))))))))))))))))))))))))))))))))))))))) ?_
                  refine aw_false rfl ?_
                  refine aw_skip ?_
                  show AW _ _ _ _ _ _ _
                  refine aw_region ?_
                  refine sr_x rfl (wtd_none rfl) rfl (Rd.x (x_move rfl)) ?_
                  refine sr_x rfl (wtd_none rfl) rfl (Rd.x (x_add' rfl rfl (i64w (by omega) (by omega)))) ?_
                  refine sr_x rfl (wtd_none rfl) rfl (Rd.x (x_assign rfl)) ?_
                  refine sr_nil ?_
                  show ∃ s', _ ∧ _ ∧ _ ∧ _
                  exact ⟨k + 1, ⟨by omega, fun k' x y hx hy h => (Nat.lt_or_eq_of_le (Nat.le_of_lt_succ h)).elim (hnk k' x y hx hy) fun e => by subst e; rw [hxk] at hx; rw [hxi] at hy; cases hx; cases hy; rintro ⟨q1, q2, q3, q4⟩; first | exact com_no hwk hwi hC (by omega) q1 | omega⟩, by omega, (by repeat (first | exact keep_nil | refine keep_cons rfl ?_)), (by repeat (first | exact Sub.refl _ | apply Sub.drop))⟩
              · refine sr_nil ?_
                refine aw_keep (keep_cons (t := 0) rfl (keep_cons (t := 2) rfl (keep_cons (t := 3) rfl (keep_cons (t := 4) rfl (keep_cons (t := 5) rfl (keep_cons (t := 6) rfl (keep_cons (t := 7) rfl (keep_cons (t := 8) rfl (keep_cons (t := 9) rfl (keep_cons (t := 10) rfl (keep_cons (t := 11) rfl (keep_cons (t := 12) rfl (keep_cons (t := 13) rfl (keep_cons (t := 41) rfl (keep_cons (t := 42) rfl (keep_cons (t := 58) rfl (keep_cons (t := 59) rfl (keep_cons (t := 60) rfl (keep_cons (t := 61) rfl (keep_cons (t := 62) rfl (keep_cons (t := 63) rfl (keep_cons (t := 64) rfl (keep_cons (t := 65) rfl (keep_cons (t := 66) rfl (keep_cons (t := 67) rfl (keep_cons (t := 68) rfl (keep_cons (t := 69) rfl (keep_cons (t := 70) rfl (keep_cons (t := 71) rfl keep_nil))))))))))))))))))))))))))))) ?_
                refine aw_false rfl ?_
                refine aw_skip ?_
                show AW _ _ _ _ _ _ _
                refine aw_seq_region ?_
                refine sr_x rfl (wtd_none rfl) rfl (Rd.x (x_move rfl)) ?_
                refine sr_x rfl (wtd_none rfl) rfl (Rd.x (x_move rfl)) ?_
                refine sr_x rfl (wtd_yes rfl rfl rfl) rfl (Rd.x (x_fieldAddr fd28_6 rfl)) ?_
                refine sr_x rfl (wtd_yes rfl rfl rfl) rfl (Rd.x (x_load ag2 rfl (cells_ext (by repeat (first | exact List.mem_cons_self | apply List.mem_cons_of_mem)) (by repeat (first | exact Ext.all _ | exact Ext.done | apply Ext.take | apply Ext.skip))))) ?_
                refine sr_cmp rfl (wtd_yes rfl rfl rfl) rfl (Rd.x (x_ge rfl rfl)) (fun h47 => ?_) (fun h47 => ?_)
                · refine sr_x rfl (wtd_none rfl) rfl (Rd.x (x_pick_t rfl rfl rfl)) ?_
                  refine sr_x rfl (wtd_none rfl) rfl (Rd.x (x_move rfl)) ?_
                  refine sr_x rfl (wtd_yes rfl rfl rfl) rfl (Rd.x (x_fieldAddr fd28_6 rfl)) ?_
                  refine sr_x rfl (wtd_yes rfl rfl rfl) rfl (Rd.x (x_load ag2 rfl (cells_ext (by repeat (first | exact List.mem_cons_self | apply List.mem_cons_of_mem)) (by repeat (first | exact Ext.all _ | exact Ext.done | apply Ext.take | apply Ext.skip))))) ?_
                  refine sr_cmp rfl (wtd_yes rfl rfl rfl) rfl (Rd.x (x_ge rfl rfl)) (fun h48 => ?_) (fun h48 => ?_)
                  · refine sr_x rfl (wtd_none rfl) rfl (Rd.x (x_pick_t rfl rfl rfl)) ?_
                    refine sr_x rfl (wtd_none rfl) rfl (Rd.x (x_move rfl)) ?_
                    refine sr_x rfl (wtd_yes rfl rfl rfl) rfl (Rd.x (x_move rfl)) ?_
                    refine sr_x rfl (wtd_yes rfl rfl rfl) rfl (Rd.x (x_move rfl)) ?_
                    refine sr_cmp rfl (wtd_yes rfl rfl rfl) rfl (Rd.x (x_lt rfl rfl)) (fun h49 => ?_) (fun h49 => ?_)
                    · refine sr_x rfl (wtd_none rfl) rfl (Rd.x (x_pick_t rfl rfl rfl)) ?_
                      refine sr_nil ?_
                      refine aw_keep (keep_cons (t := 0) rfl (keep_cons (t := 2) rfl (keep_cons (t := 3) rfl (keep_cons (t := 4) rfl (keep_cons (t := 5) rfl (keep_cons (t := 6) rfl (keep_cons (t := 7) rfl (keep_cons (t := 8) rfl (keep_cons (t := 9) rfl (keep_cons (t := 10) rfl (keep_cons (t := 11) rfl (keep_cons (t := 12) rfl (keep_cons (t := 13) rfl (keep_cons (t := 41) rfl (keep_cons (t := 42) rfl (keep_cons (t := 58) rfl (keep_cons (t := 59) rfl (keep_cons (t := 60) rfl (keep_cons (t := 61) rfl (keep_cons (t := 62) rfl (keep_cons (t := 63) rfl (keep_cons (t := 64) rfl (keep_cons (t := 65) rfl (keep_cons (t := 66) rfl (keep_cons (t := 67) rfl (keep_cons (t := 68) rfl (keep_cons (t := 69) rfl (keep_cons (t := 70) rfl (keep_cons (t := 71) rfl (keep_cons (t := 74) rfl (keep_cons (t := 75) rfl (keep_cons (t := 76) rfl (keep_cons (t := 77) rfl (keep_cons (t := 78) rfl (keep_cons (t := 79) rfl (keep_cons (t := 80) rfl (keep_cons (t := 81) rfl (keep_cons (t := 82) rfl (keep_cons (t := 83) rfl (keep_cons (t := 84) rfl (keep_cons (t := 85) rfl (keep_cons (t := 86) rfl (keep_cons (t := 87) rfl (keep_cons (t := 88) rfl (keep_cons (t := 89) rfl keep_nil))))))))))))))))))))))))))))))))))))))))))))) ?_
                      refine aw_true rfl ?_
                      refine aw_seq_region ?_
                      refine sr_x rfl (wtd_none rfl) rfl (Rd.x (x_move rfl)) ?_
                      refine sr_x rfl (wtd_none rfl) rfl (Rd.x (x_move rfl)) ?_
                      refine sr_cmp rfl (wtd_none rfl) rfl (Rd.x (x_eq rfl rfl)) (fun h50 => ?_) (fun h50 => ?_)
                      · refine sr_x rfl (wtd_none rfl) rfl (Rd.x (x_move rfl)) ?_
                        refine sr_x rfl (wtd_yes rfl rfl rfl) rfl (Rd.x (x_move rfl)) ?_
                        refine sr_x rfl (wtd_yes rfl rfl rfl) rfl (Rd.x (x_move rfl)) ?_
                        refine sr_cmp rfl (wtd_yes rfl rfl rfl) rfl (Rd.x (x_eq rfl rfl)) (fun h51 => ?_) (fun h51 => ?_)
                        · refine sr_x rfl (wtd_none rfl) rfl (Rd.x (x_pick_t rfl rfl rfl)) ?_
                          refine sr_x rfl (wtd_none rfl) rfl (Rd.x (x_move rfl)) ?_
                          refine sr_x rfl (wtd_yes rfl rfl rfl) rfl (Rd.x (x_move rfl)) ?_
                          refine sr_x rfl (wtd_none rfl) rfl (Rd.x (x_pick_t rfl rfl rfl)) ?_
                          refine sr_x rfl (wtd_none rfl) rfl (Rd.x (x_move rfl)) ?_
                          refine sr_d rfl (wtd_yes rfl rfl rfl) rfl (opS_call rfl rfl rfl rfl cl16 (awake30_s _)) ?_
                          rintro _ _ ⟨rfl, rfl⟩
                          refine sr_x rfl (wtd_none rfl) rfl (Rd.x (x_pick_t rfl rfl rfl)) ?_
                          refine sr_x rfl (wtd_none rfl) rfl (Rd.x (x_assign rfl)) ?_
                          refine sr_nil ?_
                          refine aw_keep (keep_cons (t := 0) rfl (keep_cons (t := 2) rfl (keep_cons (t := 3) rfl (keep_cons (t := 4) rfl (keep_cons (t := 5) rfl (keep_cons (t := 6) rfl (keep_cons (t := 7) rfl (keep_cons (t := 8) rfl (keep_cons (t := 9) rfl (keep_cons (t := 10) rfl (keep_cons (t := 11) rfl (keep_cons (t := 12) rfl (keep_cons (t := 13) rfl (keep_cons (t := 41) rfl (keep_cons (t := 42) rfl (keep_cons (t := 58) rfl (keep_cons (t := 59) rfl (keep_cons (t := 60) rfl (keep_cons (t := 61) rfl (keep_cons (t := 62) rfl (keep_cons (t := 63) rfl (keep_cons (t := 64) rfl (keep_cons (t := 65) rfl (keep_cons (t := 66) rfl (keep_cons (t := 67) rfl (keep_cons (t := 68) rfl (keep_cons (t := 69) rfl (keep_cons (t := 70) rfl (keep_cons (t := 71) rfl (keep_cons (t := 74) rfl (keep_cons (t := 75) rfl (keep_cons (t := 76) rfl (keep_cons (t := 77) rfl (keep_cons (t := 78) rfl (keep_cons (t := 79) rfl (keep_cons (t := 80) rfl (keep_cons (t := 81) rfl (keep_cons (t := 82) rfl (keep_cons (t := 83) rfl (keep_cons (t := 84) rfl (keep_cons (t := 85) rfl (keep_cons (t := 86) rfl (keep_cons (t := 87) rfl (keep_cons (t := 88) rfl (keep_cons (t := 89) rfl (keep_cons (t := 90) rfl (keep_cons (t := 91) rfl (keep_cons (t := 92) rfl (keep_cons (t := 93) rfl (keep_cons (t := 94) rfl (keep_cons (t := 95) rfl (keep_cons (t := 96) rfl (keep_cons (t := 97) rfl (keep_cons (t := 98) rfl (keep_cons (t := 99) rfl (keep_cons (t := 100) rfl (keep_cons (t := 101) rfl (keep_cons (t := 102) rfl (keep_cons (t := 103) rfl keep_nil))))))))))))))))))))))))))))))))))))))))))))))))))))))))))) ?_
                          refine aw_ret ?_
                          show ∃ v H2, ResV _ _ _ _ _ _ v ∧ Sub H2 _ ∧ _
                          exact ⟨_, _, resV rfl (.cons rfl .nil), (by repeat (first | exact Sub.refl _ | apply Sub.drop)), (by first | rfl | (exfalso; have hh : hit xi xk := ⟨com_yes hwk hwi hC (by omega), by omega, by omega, by omega⟩; first | exact hno0 rfl |>.2.2 k i xk xi hxk hxi (by omega) hh | (have := first_uniq (hok rfl) hxk hxi (by omega) hh hno hnk; omega)) | (exfalso; first | (have := hno0 rfl; omega) | exact (hok rfl).1.elim fun x hx => hx.elim fun y hy => hno _ _ x y hy.1 hy.2.1 hy.2.2.1 (by have := (List.getElem?_eq_some_iff.1 hy.2.1).1; omega) hy.2.2.2))⟩
                        · refine sr_x rfl (wtd_none rfl) rfl (Rd.x (x_pick_t rfl rfl rfl)) ?_
                          refine sr_x rfl (wtd_none rfl) rfl (Rd.x (x_move rfl)) ?_
                          refine sr_skip rfl (wtd_no rfl rfl rfl rfl) rfl ?_
                          refine sr_x rfl (wtd_none rfl) rfl (Rd.x (x_pick_f rfl rfl rfl)) ?_
                          refine sr_x rfl (wtd_none rfl) rfl (Rd.x (x_move rfl)) ?_
                          refine sr_skip rfl (wtd_no rfl rfl rfl rfl) rfl ?_
                          refine sr_x rfl (wtd_none rfl) rfl (Rd.x (x_pick_f rfl rfl rfl)) ?_
                          refine sr_x rfl (wtd_none rfl) rfl (Rd.x (x_assign rfl)) ?_
                          refine sr_nil ?_
                          refine aw_keep (keep_cons (t := 0) rfl (keep_cons (t := 2) rfl (keep_cons (t := 3) rfl (keep_cons (t := 4) rfl (keep_cons (t := 5) rfl (keep_cons (t := 6) rfl (keep_cons (t := 7) rfl (keep_cons (t := 8) rfl (keep_cons (t := 9) rfl (keep_cons (t := 10) rfl (keep_cons (t := 11) rfl (keep_cons (t := 12) rfl (keep_cons (t := 13) rfl (keep_cons (t := 41) rfl (keep_cons (t := 42) rfl (keep_cons (t := 58) rfl (keep_cons (t := 59) rfl (keep_cons (t := 60) rfl (keep_cons (t := 61) rfl (keep_cons (t := 62) rfl (keep_cons (t := 63) rfl (keep_cons (t := 64) rfl (keep_cons (t := 65) rfl (keep_cons (t := 66) rfl (keep_cons (t := 67) rfl (keep_cons (t := 68) rfl (keep_cons (t := 69) rfl (keep_cons (t := 70) rfl (keep_cons (t := 71) rfl (keep_cons (t := 74) rfl (keep_cons (t := 75) rfl (keep_cons (t := 76) rfl (keep_cons (t := 77) rfl (keep_cons (t := 78) rfl (keep_cons (t := 79) rfl (keep_cons (t := 80) rfl (keep_cons (t := 81) rfl (keep_cons (t := 82) rfl (keep_cons (t := 83) rfl (keep_cons (t := 84) rfl (keep_cons (t := 85) rfl (keep_cons (t := 86) rfl (keep_cons (t := 87) rfl (keep_cons (t := 88) rfl (keep_cons (t := 89) rfl (keep_cons (t := 90) rfl (keep_cons (t := 91) rfl (keep_cons (t := 92) rfl (keep_cons (t := 93) rfl (keep_cons (t := 94) rfl (keep_cons (t := 95) rfl (keep_cons (t := 96) rfl (keep_cons (t := 97) rfl (keep_cons (t := 98) rfl (keep_cons (t := 99) rfl (keep_cons (t := 100) rfl (keep_cons (t := 101) rfl (keep_cons (t := 102) rfl (keep_cons (t := 103) rfl keep_nil))))))))))))))))))))))))))))))))))))))))))))))))))))))))))) ?_
                          refine aw_ret ?_
                          show ∃ v H2, ResV _ _ _ _ _ _ v ∧ Sub H2 _ ∧ _
                          exact ⟨_, _, resV rfl (.cons rfl .nil), (by repeat (first | exact Sub.refl _ | apply Sub.drop)), (by first | rfl | (exfalso; have hh : hit xi xk := ⟨com_yes hwk hwi hC (by omega), by omega, by omega, by omega⟩; first | exact hno0 rfl |>.2.2 k i xk xi hxk hxi (by omega) hh | (have := first_uniq (hok rfl) hxk hxi (by omega) hh hno hnk; omega)) | (exfalso; first | (have := hno0 rfl; omega) | exact (hok rfl).1.elim fun x hx => hx.elim fun y hy => hno _ _ x y hy.1 hy.2.1 hy.2.2.1 (by have := (List.getElem?_eq_some_iff.1 hy.2.1).1; omega) hy.2.2.2))⟩
                      · refine sr_x rfl (wtd_none rfl) rfl (Rd.x (x_move rfl)) ?_
                        refine sr_skip rfl (wtd_no rfl rfl rfl rfl) rfl ?_
                        refine sr_skip rfl (wtd_no rfl rfl rfl rfl) rfl ?_
                        refine sr_skip rfl (wtd_no rfl rfl rfl rfl) rfl ?_
                        refine sr_x rfl (wtd_none rfl) rfl (Rd.x (x_pick_f rfl rfl rfl)) ?_
                        refine sr_x rfl (wtd_none rfl) rfl (Rd.x (x_move rfl)) ?_
                        refine sr_skip rfl (wtd_no rfl rfl rfl rfl) rfl ?_
                        refine sr_x rfl (wtd_none rfl) rfl (Rd.x (x_pick_f rfl rfl rfl)) ?_
                        refine sr_x rfl (wtd_none rfl) rfl (Rd.x (x_move rfl)) ?_
                        refine sr_skip rfl (wtd_no rfl rfl rfl rfl) rfl ?_
                        refine sr_x rfl (wtd_none rfl) rfl (Rd.x (x_pick_f rfl rfl rfl)) ?_
                        refine sr_x rfl (wtd_none rfl) rfl (Rd.x (x_assign rfl)) ?_
                        refine sr_nil ?_
                        refine aw_keep (keep_cons (t := 0) rfl (keep_cons (t := 2) rfl (keep_cons (t := 3) rfl (keep_cons (t := 4) rfl (keep_cons (t := 5) rfl (keep_cons (t := 6) rfl (keep_cons (t := 7) rfl (keep_cons (t := 8) rfl (keep_cons (t := 9) rfl (keep_cons (t := 10) rfl (keep_cons (t := 11) rfl (keep_cons (t := 12) rfl (keep_cons (t := 13) rfl (keep_cons (t := 41) rfl (keep_cons (t := 42) rfl (keep_cons (t := 58) rfl (keep_cons (t := 59) rfl (keep_cons (t := 60) rfl (keep_cons (t := 61) rfl (keep_cons (t := 62) rfl (keep_cons (t := 63) rfl (keep_cons (t := 64) rfl (keep_cons (t := 65) rfl (keep_cons (t := 66) rfl (keep_cons (t := 67) rfl (keep_cons (t := 68) rfl (keep_cons (t := 69) rfl (keep_cons (t := 70) rfl (keep_cons (t := 71) rfl (keep_cons (t := 74) rfl (keep_cons (t := 75) rfl (keep_cons (t := 76) rfl (keep_cons (t := 77) rfl (keep_cons (t := 78) rfl (keep_cons (t := 79) rfl (keep_cons (t := 80) rfl (keep_cons (t := 81) rfl (keep_cons (t := 82) rfl (keep_cons (t := 83) rfl (keep_cons (t := 84) rfl (keep_cons (t := 85) rfl (keep_cons (t := 86) rfl (keep_cons (t := 87) rfl (keep_cons (t := 88) rfl (keep_cons (t := 89) rfl (keep_cons (t := 90) rfl (keep_cons (t := 91) rfl (keep_cons (t := 92) rfl (keep_cons (t := 93) rfl (keep_cons (t := 94) rfl (keep_cons (t := 95) rfl (keep_cons (t := 96) rfl (keep_cons (t := 97) rfl (keep_cons (t := 98) rfl (keep_cons (t := 99) rfl (keep_cons (t := 100) rfl (keep_cons (t := 101) rfl (keep_cons (t := 102) rfl (keep_cons (t := 103) rfl keep_nil))))))))))))))))))))))))))))))))))))))))))))))))))))))))))) ?_
                        refine aw_ret ?_
                        show ∃ v H2, ResV _ _ _ _ _ _ v ∧ Sub H2 _ ∧ _
                        exact ⟨_, _, resV rfl (.cons rfl .nil), (by repeat (first | exact Sub.refl _ | apply Sub.drop)), (by first | rfl | (exfalso; have hh : hit xi xk := ⟨com_yes hwk hwi hC (by omega), by omega, by omega, by omega⟩; first | exact hno0 rfl |>.2.2 k i xk xi hxk hxi (by omega) hh | (have := first_uniq (hok rfl) hxk hxi (by omega) hh hno hnk; omega)) | (exfalso; first | (have := hno0 rfl; omega) | exact (hok rfl).1.elim fun x hx => hx.elim fun y hy => hno _ _ x y hy.1 hy.2.1 hy.2.2.1 (by have := (List.getElem?_eq_some_iff.1 hy.2.1).1; omega) hy.2.2.2))⟩
                    · refine sr_x rfl (wtd_none rfl) rfl (Rd.x (x_pick_t rfl rfl rfl)) ?_
                      refine sr_nil ?_
                      refine aw_keep (keep_cons (t := 0) rfl (keep_cons (t := 2) rfl (keep_cons (t := 3) rfl (keep_cons (t := 4) rfl (keep_cons (t := 5) rfl (keep_cons (t := 6) rfl (keep_cons (t := 7) rfl (keep_cons (t := 8) rfl (keep_cons (t := 9) rfl (keep_cons (t := 10) rfl (keep_cons (t := 11) rfl (keep_cons (t := 12) rfl (keep_cons (t := 13) rfl (keep_cons (t := 41) rfl (keep_cons (t := 42) rfl (keep_cons (t := 58) rfl (keep_cons (t := 59) rfl (keep_cons (t := 60) rfl (keep_cons (t := 61) rfl (keep_cons (t := 62) rfl (keep_cons (t := 63) rfl (keep_cons (t := 64) rfl (keep_cons (t := 65) rfl (keep_cons (t := 66) rfl (keep_cons (t := 67) rfl (keep_cons (t := 68) rfl (keep_cons (t := 69) rfl (keep_cons (t := 70) rfl (keep_cons (t := 71) rfl (keep_cons (t := 74) rfl (keep_cons (t := 75) rfl (keep_cons (t := 76) rfl (keep_cons (t := 77) rfl (keep_cons (t := 78) rfl (keep_cons (t := 79) rfl (keep_cons (t := 80) rfl (keep_cons (t := 81) rfl (keep_cons (t := 82) rfl (keep_cons (t := 83) rfl (keep_cons (t := 84) rfl (keep_cons (t := 85) rfl (keep_cons (t := 86) rfl (keep_cons (t := 87) rfl (keep_cons (t := 88) rfl (keep_cons (t := 89) rfl keep_nil))))))))))))))))))))))))))))))))))))))))))))) ?_
                      refine aw_false rfl ?_
                      refine aw_skip ?_
                      show AW _ _ _ _ _ _ _
                      refine aw_region ?_
                      refine sr_x rfl (wtd_none rfl) rfl (Rd.x (x_move rfl)) ?_
                      refine sr_x rfl (wtd_none rfl) rfl (Rd.x (x_add' rfl rfl (i64w (by omega) (by omega)))) ?_
                      refine sr_x rfl (wtd_none rfl) rfl (Rd.x (x_assign rfl)) ?_
                      refine sr_nil ?_
                      show ∃ s', _ ∧ _ ∧ _ ∧ _
                      exact ⟨k + 1, ⟨by omega, fun k' x y hx hy h => (Nat.lt_or_eq_of_le (Nat.le_of_lt_succ h)).elim (hnk k' x y hx hy) fun e => by subst e; rw [hxk] at hx; rw [hxi] at hy; cases hx; cases hy; rintro ⟨q1, q2, q3, q4⟩; first | exact com_no hwk hwi hC (by omega) q1 | omega⟩, by omega, (by repeat (first | exact keep_nil | refine keep_cons rfl ?_)), (by repeat (first | exact Sub.refl _ | apply Sub.drop))⟩
                  · refine sr_x rfl (wtd_none rfl) rfl (Rd.x (x_pick_t rfl rfl rfl)) ?_
                    refine sr_x rfl (wtd_none rfl) rfl (Rd.x (x_move rfl)) ?_
                    refine sr_skip rfl (wtd_no rfl rfl rfl rfl) rfl ?_
                    refine sr_skip rfl (wtd_no rfl rfl rfl rfl) rfl ?_
                    refine sr_skip rfl (wtd_no rfl rfl rfl rfl) rfl ?_
                    refine sr_x rfl (wtd_none rfl) rfl (Rd.x (x_pick_f rfl rfl rfl)) ?_
                    refine sr_nil ?_
                    refine aw_keep (keep_cons (t := 0) rfl (keep_cons (t := 2) rfl (keep_cons (t := 3) rfl (keep_cons (t := 4) rfl (keep_cons (t := 5) rfl (keep_cons (t := 6) rfl (keep_cons (t := 7) rfl (keep_cons (t := 8) rfl (keep_cons (t := 9) rfl (keep_cons (t := 10) rfl (keep_cons (t := 11) rfl (keep_cons (t := 12) rfl (keep_cons (t := 13) rfl (keep_cons (t := 41) rfl (keep_cons (t := 42) rfl (keep_cons (t := 58) rfl (keep_cons (t := 59) rfl (keep_cons (t := 60) rfl (keep_cons (t := 61) rfl (keep_cons (t := 62) rfl (keep_cons (t := 63) rfl (keep_cons (t := 64) rfl (keep_cons (t := 65) rfl (keep_cons (t := 66) rfl (keep_cons (t := 67) rfl (keep_cons (t := 68) rfl (keep_cons (t := 69) rfl (keep_cons (t := 70) rfl (keep_cons (t := 71) rfl (keep_cons (t := 74) rfl (keep_cons (t := 75) rfl (keep_cons (t := 76) rfl (keep_cons (t := 77) rfl (keep_cons (t := 78) rfl (keep_cons (t := 79) rfl (keep_cons (t := 80) rfl (keep_cons (t := 81) rfl (keep_cons (t := 82) rfl (keep_cons (t := 83) rfl (keep_cons (t := 84) rfl (keep_cons (t := 85) rfl (keep_cons (t := 86) rfl (keep_cons (t := 87) rfl (keep_cons (t := 88) rfl (keep_cons (t := 89) rfl keep_nil))))))))))))))))))))))))))))))))))))))))))))) ?_
                    refine aw_false rfl ?_
                    refine aw_skip ?_
                    show AW _ _ _ _ _ _ _
                    refine aw_region ?_
                    refine sr_x rfl (wtd_none rfl) rfl (Rd.x (x_move rfl)) ?_
                    refine sr_x rfl (wtd_none rfl) rfl (Rd.x (x_add' rfl rfl (i64w (by omega) (by omega)))) ?_
                    refine sr_x rfl (wtd_none rfl) rfl (Rd.x (x_assign rfl)) ?_
                    refine sr_nil ?_
                    show ∃ s', _ ∧ _ ∧ _ ∧ _
                    exact ⟨k + 1, ⟨by omega, fun k' x y hx hy h => (Nat.lt_or_eq_of_le (Nat.le_of_lt_succ h)).elim (hnk k' x y hx hy) fun e => by subst e; rw [hxk] at hx; rw [hxi] at hy; cases hx; cases hy; rintro ⟨q1, q2, q3, q4⟩; first | exact com_no hwk hwi hC (by omega) q1 | omega⟩, by omega, (by repeat (first | exact keep_nil | refine keep_cons rfl ?_)), (by repeat (first | exact Sub.refl _ | apply Sub.drop))⟩
                · refine sr_x rfl (wtd_none rfl) rfl (Rd.x (x_pick_t rfl rfl rfl)) ?_
                  refine sr_x rfl (wtd_none rfl) rfl (Rd.x (x_move rfl)) ?_
                  refine sr_skip rfl (wtd_no rfl rfl rfl rfl) rfl ?_
                  refine sr_skip rfl (wtd_no rfl rfl rfl rfl) rfl ?_
                  refine sr_skip rfl (wtd_no rfl rfl rfl rfl) rfl ?_
                  refine sr_x rfl (wtd_none rfl) rfl (Rd.x (x_pick_f rfl rfl rfl)) ?_
                  refine sr_x rfl (wtd_none rfl) rfl (Rd.x (x_move rfl)) ?_
                  refine sr_skip rfl (wtd_no rfl rfl rfl rfl) rfl ?_
                  refine sr_skip rfl (wtd_no rfl rfl rfl rfl) rfl ?_
                  refine sr_skip rfl (wtd_no rfl rfl rfl rfl) rfl ?_
                  refine sr_x rfl (wtd_none rfl) rfl (Rd.x (x_pick_f rfl rfl rfl)) ?_
                  refine sr_nil ?_
                  refine aw_keep (keep_cons (t := 0) rfl (keep_cons (t := 2) rfl (keep_cons (t := 3) rfl (keep_cons (t := 4) rfl (keep_cons (t := 5) rfl (keep_cons (t := 6) rfl (keep_cons (t := 7) rfl (keep_cons (t := 8) rfl (keep_cons (t := 9) rfl (keep_cons (t := 10) rfl (keep_cons (t := 11) rfl (keep_cons (t := 12) rfl (keep_cons (t := 13) rfl (keep_cons (t := 41) rfl (keep_cons (t := 42) rfl (keep_cons (t := 58) rfl (keep_cons (t := 59) rfl (keep_cons (t := 60) rfl (keep_cons (t := 61) rfl (keep_cons (t := 62) rfl (keep_cons (t := 63) rfl (keep_cons (t := 64) rfl (keep_cons (t := 65) rfl (keep_cons (t := 66) rfl (keep_cons (t := 67) rfl (keep_cons (t := 68) rfl (keep_cons (t := 69) rfl (keep_cons (t := 70) rfl (keep_cons (t := 71) rfl (keep_cons (t := 74) rfl (keep_cons (t := 75) rfl (keep_cons (t := 76) rfl (keep_cons (t := 77) rfl (keep_cons (t := 78) rfl (keep_cons (t := 79) rfl (keep_cons (t := 80) rfl (keep_cons (t := 81) rfl (keep_cons (t := 82) rfl (keep_cons (t := 83) rfl (keep_cons (t := 84) rfl (keep_cons (t := 85) rfl (keep_cons (t := 86) rfl (keep_cons (t := 87) rfl (keep_cons (t := 88) rfl (keep_cons (t := 89) rfl keep_nil))))))))))))))))))))))))))))))))))))))))))))) ?_
                  refine aw_false rfl ?_
                  refine aw_skip ?_
                  show AW _ _ _ _ _ _ _
                  refine aw_region ?_
                  refine sr_x rfl (wtd_none rfl) rfl (Rd.x (x_move rfl)) ?_
                  refine sr_x rfl (wtd_none rfl) rfl (Rd.x (x_add' rfl rfl (i64w (by omega) (by omega)))) ?_
                  refine sr_x rfl (wtd_none rfl) rfl (Rd.x (x_assign rfl)) ?_
                  refine sr_nil ?_
                  show ∃ s', _ ∧ _ ∧ _ ∧ _
                  exact ⟨k + 1, ⟨by omega, fun k' x y hx hy h => (Nat.lt_or_eq_of_le (Nat.le_of_lt_succ h)).elim (hnk k' x y hx hy) fun e => by subst e; rw [hxk] at hx; rw [hxi] at hy; cases hx; cases hy; rintro ⟨q1, q2, q3, q4⟩; first | exact com_no hwk hwi hC (by omega) q1 | omega⟩, by omega, (by repeat (first | exact keep_nil | refine keep_cons rfl ?_)), (by repeat (first | exact Sub.refl _ | apply Sub.drop))⟩
            · refine sr_nil ?_
              refine aw_keep (keep_cons (t := 0) rfl (keep_cons (t := 2) rfl (keep_cons (t := 3) rfl (keep_cons (t := 4) rfl (keep_cons (t := 5) rfl (keep_cons (t := 6) rfl (keep_cons (t := 7) rfl (keep_cons (t := 8) rfl (keep_cons (t := 9) rfl (keep_cons (t := 10) rfl (keep_cons (t := 11) rfl (keep_cons (t := 12) rfl (keep_cons (t := 13) rfl (keep_cons (t := 41) rfl (keep_cons (t := 42) rfl (keep_cons (t := 58) rfl (keep_cons (t := 59) rfl (keep_cons (t := 60) rfl (keep_cons (t := 61) rfl (keep_cons (t := 62) rfl (keep_cons (t := 63) rfl (keep_cons (t := 64) rfl (keep_cons (t := 65) rfl keep_nil))))))))))))))))))))))) ?_
              refine aw_false rfl ?_
              refine aw_skip ?_
              show AW _ _ _ _ _ _ _
              refine aw_seq ?_
              refine aw_seq_region ?_
              refine sr_x rfl (wtd_none rfl) rfl (Rd.x (x_fieldAddr fd28_7 rfl)) ?_
              refine sr_x rfl (wtd_none rfl) rfl (Rd.x (x_load ag2 rfl (cells_ext (by repeat (first | exact List.mem_cons_self | apply List.mem_cons_of_mem)) (by repeat (first | exact Ext.all _ | exact Ext.done | apply Ext.take | apply Ext.skip))))) ?_
              refine sr_x rfl (wtd_none rfl) rfl (Rd.x (x_move rfl)) ?_
              refine sr_cmp rfl (wtd_none rfl) rfl (Rd.x (x_lt rfl rfl)) (fun h52 => ?_) (fun h52 => ?_)
              · refine sr_nil ?_
                refine aw_keep (keep_cons (t := 0) rfl (keep_cons (t := 2) rfl (keep_cons (t := 3) rfl (keep_cons (t := 4) rfl (keep_cons (t := 5) rfl (keep_cons (t := 6) rfl (keep_cons (t := 7) rfl (keep_cons (t := 8) rfl (keep_cons (t := 9) rfl (keep_cons (t := 10) rfl (keep_cons (t := 11) rfl (keep_cons (t := 12) rfl (keep_cons (t := 13) rfl (keep_cons (t := 41) rfl (keep_cons (t := 42) rfl (keep_cons (t := 58) rfl (keep_cons (t := 59) rfl (keep_cons (t := 60) rfl (keep_cons (t := 61) rfl (keep_cons (t := 62) rfl (keep_cons (t := 63) rfl (keep_cons (t := 64) rfl (keep_cons (t := 65) rfl (keep_cons (t := 68) rfl (keep_cons (t := 69) rfl (keep_cons (t := 70) rfl (keep_cons (t := 71) rfl keep_nil))))))))))))))))))))))))))) ?_
                refine aw_true rfl ?_
                refine aw_region ?_
                refine sr_x rfl (wtd_none rfl) rfl (Rd.x (x_fieldAddr fd28_7 rfl)) ?_
                refine sr_x rfl (wtd_none rfl) rfl (Rd.x (x_load ag2 rfl (cells_ext (by repeat (first | exact List.mem_cons_self | apply List.mem_cons_of_mem)) (by repeat (first | exact Ext.all _ | exact Ext.done | apply Ext.take | apply Ext.skip))))) ?_
                refine sr_x rfl (wtd_none rfl) rfl (Rd.x (x_assign rfl)) ?_
                refine sr_nil ?_
                show AW _ _ _ _ _ _ _
                refine aw_seq_region ?_
                refine sr_x rfl (wtd_none rfl) rfl (Rd.x (x_move rfl)) ?_
                refine sr_x rfl (wtd_none rfl) rfl (Rd.x (x_move rfl)) ?_
                refine sr_x rfl (wtd_yes rfl rfl rfl) rfl (Rd.x (x_fieldAddr fd28_6 rfl)) ?_
                refine sr_x rfl (wtd_yes rfl rfl rfl) rfl (Rd.x (x_load ag2 rfl (cells_ext (by repeat (first | exact List.mem_cons_self | apply List.mem_cons_of_mem)) (by repeat (first | exact Ext.all _ | exact Ext.done | apply Ext.take | apply Ext.skip))))) ?_
                refine sr_cmp rfl (wtd_yes rfl rfl rfl) rfl (Rd.x (x_ge rfl rfl)) (fun h53 => ?_) (fun h53 => ?_)
                · refine sr_x rfl (wtd_none rfl) rfl (Rd.x (x_pick_t rfl rfl rfl)) ?_
                  refine sr_x rfl (wtd_none rfl) rfl (Rd.x (x_move rfl)) ?_
                  refine sr_x rfl (wtd_yes rfl rfl rfl) rfl (Rd.x (x_fieldAddr fd28_6 rfl)) ?_
                  refine sr_x rfl (wtd_yes rfl rfl rfl) rfl (Rd.x (x_load ag2 rfl (cells_ext (by repeat (first | exact List.mem_cons_self | apply List.mem_cons_of_mem)) (by repeat (first | exact Ext.all _ | exact Ext.done | apply Ext.take | apply Ext.skip))))) ?_
                  refine sr_cmp rfl (wtd_yes rfl rfl rfl) rfl (Rd.x (x_ge rfl rfl)) (fun h54 => ?_) (fun h54 => ?_)
                  · refine sr_x rfl (wtd_none rfl) rfl (Rd.x (x_pick_t rfl rfl rfl)) ?_
                    refine sr_x rfl (wtd_none rfl) rfl (Rd.x (x_move rfl)) ?_
                    refine sr_x rfl (wtd_yes rfl rfl rfl) rfl (Rd.x (x_move rfl)) ?_
                    refine sr_x rfl (wtd_yes rfl rfl rfl) rfl (Rd.x (x_move rfl)) ?_
                    refine sr_cmp rfl (wtd_yes rfl rfl rfl) rfl (Rd.x (x_lt rfl rfl)) (fun h55 => ?_) (fun h55 => ?_)
                    · refine sr_x rfl (wtd_none rfl) rfl (Rd.x (x_pick_t rfl rfl rfl)) ?_
                      refine sr_nil ?_
                      refine aw_keep (keep_cons (t := 0) rfl (keep_cons (t := 2) rfl (keep_cons (t := 3) rfl (keep_cons (t := 4) rfl (keep_cons (t := 5) rfl (keep_cons (t := 6) rfl (keep_cons (t := 7) rfl (keep_cons (t := 8) rfl (keep_cons (t := 9) rfl (keep_cons (t := 10) rfl (keep_cons (t := 11) rfl (keep_cons (t := 12) rfl (keep_cons (t := 13) rfl (keep_cons (t := 41) rfl (keep_cons (t := 42) rfl (keep_cons (t := 58) rfl (keep_cons (t := 59) rfl (keep_cons (t := 60) rfl (keep_cons (t := 61) rfl (keep_cons (t := 62) rfl (keep_cons (t := 63) rfl (keep_cons (t := 64) rfl (keep_cons (t := 65) rfl (keep_cons (t := 68) rfl (keep_cons (t := 69) rfl (keep_cons (t := 70) rfl (keep_cons (t := 71) rfl (keep_cons (t := 72) rfl (keep_cons (t := 73) rfl (keep_cons (t := 74) rfl (keep_cons (t := 75) rfl (keep_cons (t := 76) rfl (keep_cons (t := 77) rfl (keep_cons (t := 78) rfl (keep_cons (t := 79) rfl (keep_cons (t := 80) rfl (keep_cons (t := 81) rfl (keep_cons (t := 82) rfl (keep_cons (t := 83) rfl (keep_cons (t := 84) rfl (keep_cons (t := 85) rfl (keep_cons (t := 86) rfl (keep_cons (t := 87) rfl (keep_cons (t := 88) rfl (keep_cons (t := 89) rfl keep_nil))))))))))))))))))))))))))))))))))))))))))))) ?_
                      refine aw_true rfl ?_
                      refine aw_seq_region ?_
                      refine sr_x rfl (wtd_none rfl) rfl (Rd.x (x_move rfl)) ?_
                      refine sr_x rfl (wtd_none rfl) rfl (Rd.x (x_move rfl)) ?_
                      refine sr_cmp rfl (wtd_none rfl) rfl (Rd.x (x_eq rfl rfl)) (fun h56 => ?_) (fun h56 => ?_)
                      · refine sr_x rfl (wtd_none rfl) rfl (Rd.x (x_move rfl)) ?_
                        refine sr_x rfl (wtd_yes rfl rfl rfl) rfl (Rd.x (x_move rfl)) ?_
                        refine sr_x rfl (wtd_yes rfl rfl rfl) rfl (Rd.x (x_move rfl)) ?_
                        refine sr_cmp rfl (wtd_yes rfl rfl rfl) rfl (Rd.x (x_eq rfl rfl)) (fun h57 => ?_) (fun h57 => ?_)
                        · refine sr_x rfl (wtd_none rfl) rfl (Rd.x (x_pick_t rfl rfl rfl)) ?_
                          refine sr_x rfl (wtd_none rfl) rfl (Rd.x (x_move rfl)) ?_
                          refine sr_x rfl (wtd_yes rfl rfl rfl) rfl (Rd.x (x_move rfl)) ?_
                          refine sr_x rfl (wtd_none rfl) rfl (Rd.x (x_pick_t rfl rfl rfl)) ?_
                          refine sr_x rfl (wtd_none rfl) rfl (Rd.x (x_move rfl)) ?_
                          refine sr_d rfl (wtd_yes rfl rfl rfl) rfl (opS_call rfl rfl rfl rfl cl16 (awake30_s _)) ?_
                          rintro _ _ ⟨rfl, rfl⟩
                          refine sr_x rfl (wtd_none rfl) rfl (Rd.x (x_pick_t rfl rfl rfl)) ?_
                          refine sr_x rfl (wtd_none rfl) rfl (Rd.x (x_assign rfl)) ?_
                          refine sr_nil ?_
                          refine aw_keep (keep_cons (t := 0) rfl (keep_cons (t := 2) rfl (keep_cons (t := 3) rfl (keep_cons (t := 4) rfl (keep_cons (t := 5) rfl (keep_cons (t := 6) rfl (keep_cons (t := 7) rfl (keep_cons (t := 8) rfl (keep_cons (t := 9) rfl (keep_cons (t := 10) rfl (keep_cons (t := 11) rfl (keep_cons (t := 12) rfl (keep_cons (t := 13) rfl (keep_cons (t := 41) rfl (keep_cons (t := 42) rfl (keep_cons (t := 58) rfl (keep_cons (t := 59) rfl (keep_cons (t := 60) rfl (keep_cons (t := 61) rfl (keep_cons (t := 62) rfl (keep_cons (t := 63) rfl (keep_cons (t := 64) rfl (keep_cons (t := 65) rfl (keep_cons (t := 68) rfl (keep_cons (t := 69) rfl (keep_cons (t := 70) rfl (keep_cons (t := 71) rfl (keep_cons (t := 72) rfl (keep_cons (t := 73) rfl (keep_cons (t := 74) rfl (keep_cons (t := 75) rfl (keep_cons (t := 76) rfl (keep_cons (t := 77) rfl (keep_cons (t := 78) rfl (keep_cons (t := 79) rfl (keep_cons (t := 80) rfl (keep_cons (t := 81) rfl (keep_cons (t := 82) rfl (keep_cons (t := 83) rfl (keep_cons (t := 84) rfl (keep_cons (t := 85) rfl (keep_cons (t := 86) rfl (keep_cons (t := 87) rfl (keep_cons (t := 88) rfl (keep_cons (t := 89) rfl (keep_cons (t := 90) rfl (keep_cons (t := 91) rfl (keep_cons (t := 92) rfl (keep_cons (t := 93) rfl (keep_cons (t := 94) rfl (keep_cons (t := 95) rfl (keep_cons (t := 96) rfl (keep_cons (t := 97) rfl (keep_cons (t := 98) rfl (keep_cons (t := 99) rfl (keep_cons (t := 100) rfl (keep_cons (t := 101) rfl (keep_cons (t := 102) rfl (keep_cons (t := 103) rfl keep_nil))))))))))))))))))))))))))))))))))))))))))))))))))))))))))) ?_
                          refine aw_ret ?_
                          show ∃ v H2, ResV _ _ _ _ _ _ v ∧ Sub H2 _ ∧ _
                          exact ⟨_, _, resV rfl (.cons rfl .nil), (by repeat (first | exact Sub.refl _ | apply Sub.drop)), (by first | rfl | (exfalso; have hh : hit xi xk := ⟨com_yes hwk hwi hC (by omega), by omega, by omega, by omega⟩; first | exact hno0 rfl |>.2.2 k i xk xi hxk hxi (by omega) hh | (have := first_uniq (hok rfl) hxk hxi (by omega) hh hno hnk; omega)) | (exfalso; first | (have := hno0 rfl; omega) | exact (hok rfl).1.elim fun x hx => hx.elim fun y hy => hno _ _ x y hy.1 hy.2.1 hy.2.2.1 (by have := (List.getElem?_eq_some_iff.1 hy.2.1).1; omega) hy.2.2.2))⟩
                        · refine sr_x rfl (wtd_none rfl) rfl (Rd.x (x_pick_t rfl rfl rfl)) ?_
                          refine sr_x rfl (wtd_none rfl) rfl (Rd.x (x_move rfl)) ?_
                          refine sr_skip rfl (wtd_no rfl rfl rfl rfl) rfl ?_
                          refine sr_x rfl (wtd_none rfl) rfl (Rd.x (x_pick_f rfl rfl rfl)) ?_
                          refine sr_x rfl (wtd_none rfl) rfl (Rd.x (x_move rfl)) ?_
                          refine sr_skip rfl (wtd_no rfl rfl rfl rfl) rfl ?_
                          refine sr_x rfl (wtd_none rfl) rfl (Rd.x (x_pick_f rfl rfl rfl)) ?_
                          refine sr_x rfl (wtd_none rfl) rfl (Rd.x (x_assign rfl)) ?_
                          refine sr_nil ?_
                          refine aw_keep (keep_cons (t := 0) rfl (keep_cons (t := 2) rfl (keep_cons (t := 3) rfl (keep_cons (t := 4) rfl (keep_cons (t := 5) rfl (keep_cons (t := 6) rfl (keep_cons (t := 7) rfl (keep_cons (t := 8) rfl (keep_cons (t := 9) rfl (keep_cons (t := 10) rfl (keep_cons (t := 11) rfl (keep_cons (t := 12) rfl (keep_cons (t := 13) rfl (keep_cons (t := 41) rfl (keep_cons (t := 42) rfl (keep_cons (t := 58) rfl (keep_cons (t := 59) rfl (keep_cons (t := 60) rfl (keep_cons (t := 61) rfl (keep_cons (t := 62) rfl (keep_cons (t := 63) rfl (keep_cons (t := 64) rfl (keep_cons (t := 65) rfl (keep_cons (t := 68) rfl (keep_cons (t := 69) rfl (keep_cons (t := 70) rfl (keep_cons (t := 71) rfl (keep_cons (t := 72) rfl (keep_cons (t := 73) rfl (keep_cons (t := 74) rfl (keep_cons (t := 75) rfl (keep_cons (t := 76) rfl (keep_cons (t := 77) rfl (keep_cons (t := 78) rfl (keep_cons (t := 79) rfl (keep_cons (t := 80) rfl (keep_cons (t := 81) rfl (keep_cons (t := 82) rfl (keep_cons (t := 83) rfl (keep_cons (t := 84) rfl (keep_cons (t := 85) rfl (keep_cons (t := 86) rfl (keep_cons (t := 87) rfl (keep_cons (t := 88) rfl (keep_cons (t := 89) rfl (keep_cons (t := 90) rfl (keep_cons (t := 91) rfl (keep_cons (t := 92) rfl (keep_cons (t := 93) rfl (keep_cons (t := 94) rfl (keep_cons (t := 95) rfl (keep_cons (t := 96) rfl (keep_cons (t := 97) rfl (keep_cons (t := 98) rfl (keep_cons (t := 99) rfl (keep_cons (t := 100) rfl (keep_cons (t := 101) rfl (keep_cons (t := 102) rfl (keep_cons (t := 103) rfl keep_nil))))))))))))))))))))))))))))))))))))))))))))))))))))))))))) ?_
                          refine aw_ret ?_
                          show ∃ v H2, ResV _ _ _ _ _ _ v ∧ Sub H2 _ ∧ _
                          exact ⟨_, _, resV rfl (.cons rfl .nil), (by repeat (first | exact Sub.refl _ | apply Sub.drop)), (by first | rfl | (exfalso; have hh : hit xi xk := ⟨com_yes hwk hwi hC (by omega), by omega, by omega, by omega⟩; first | exact hno0 rfl |>.2.2 k i xk xi hxk hxi (by omega) hh | (have := first_uniq (hok rfl) hxk hxi (by omega) hh hno hnk; omega)) | (exfalso; first | (have := hno0 rfl; omega) | exact (hok rfl).1.elim fun x hx => hx.elim fun y hy => hno _ _ x y hy.1 hy.2.1 hy.2.2.1 (by have := (List.getElem?_eq_some_iff.1 hy.2.1).1; omega) hy.2.2.2))⟩
                      · refine sr_x rfl (wtd_none rfl) rfl (Rd.x (x_move rfl)) ?_
                        refine sr_skip rfl (wtd_no rfl rfl rfl rfl) rfl ?_
                        refine sr_skip rfl (wtd_no rfl rfl rfl rfl) rfl ?_
                        refine sr_skip rfl (wtd_no rfl rfl rfl rfl) rfl ?_
                        refine sr_x rfl (wtd_none rfl) rfl (Rd.x (x_pick_f rfl rfl rfl)) ?_
                        refine sr_x rfl (wtd_none rfl) rfl (Rd.x (x_move rfl)) ?_
                        refine sr_skip rfl (wtd_no rfl rfl rfl rfl) rfl ?_
                        refine sr_x rfl (wtd_none rfl) rfl (Rd.x (x_pick_f rfl rfl rfl)) ?_
                        refine sr_x rfl (wtd_none rfl) rfl (Rd.x (x_move rfl)) ?_
                        refine sr_skip rfl (wtd_no rfl rfl rfl rfl) rfl ?_
                        refine sr_x rfl (wtd_none rfl) rfl (Rd.x (x_pick_f rfl rfl rfl)) ?_
                        refine sr_x rfl (wtd_none rfl) rfl (Rd.x (x_assign rfl)) ?_
                        refine sr_nil ?_
                        refine aw_keep (keep_cons (t := 0) rfl (keep_cons (t := 2) rfl (keep_cons (t := 3) rfl (keep_cons (t := 4) rfl (keep_cons (t := 5) rfl (keep_cons (t := 6) rfl (keep_cons (t := 7) rfl (keep_cons (t := 8) rfl (keep_cons (t := 9) rfl (keep_cons (t := 10) rfl (keep_cons (t := 11) rfl (keep_cons (t := 12) rfl (keep_cons (t := 13) rfl (keep_cons (t := 41) rfl (keep_cons (t := 42) rfl (keep_cons (t := 58) rfl (keep_cons (t := 59) rfl (keep_cons (t := 60) rfl (keep_cons (t := 61) rfl (keep_cons (t := 62) rfl (keep_cons (t := 63) rfl (keep_cons (t := 64) rfl (keep_cons (t := 65) rfl (keep_cons (t := 68) rfl (keep_cons (t := 69) rfl (keep_cons (t := 70) rfl (keep_cons (t := 71) rfl (keep_cons (t := 72) rfl (keep_cons (t := 73) rfl (keep_cons (t := 74) rfl (keep_cons (t := 75) rfl (keep_cons (t := 76) rfl (keep_cons (t := 77) rfl (keep_cons (t := 78) rfl (keep_cons (t := 79) rfl (keep_cons (t := 80) rfl (keep_cons (t := 81) rfl (keep_cons (t := 82) rfl (keep_cons (t := 83) rfl (keep_cons (t := 84) rfl (keep_cons (t := 85) rfl (keep_cons (t := 86) rfl (keep_cons (t := 87) rfl (keep_cons (t := 88) rfl (keep_cons (t := 89) rfl (keep_cons (t := 90) rfl (keep_cons (t := 91) rfl (keep_cons (t := 92) rfl (keep_cons (t := 93) rfl (keep_cons (t := 94) rfl (keep_cons (t := 95) rfl (keep_cons (t := 96) rfl (keep_cons (t := 97) rfl (keep_cons (t := 98) rfl (keep_cons (t := 99) rfl (keep_cons (t := 100) rfl (keep_cons (t := 101) rfl (keep_cons (t := 102) rfl (keep_cons (t := 103) rfl keep_nil))))))))))))))))))))))))))))))))))))))))))))))))))))))))))) ?_
                        refine aw_ret ?_
                        show ∃ v H2, ResV _ _ _ _ _ _ v ∧ Sub H2 _ ∧ _
                        exact ⟨_, _, resV rfl (.cons rfl .nil), (by repeat (first | exact Sub.refl _ | apply Sub.drop)), (by first | rfl | (exfalso; have hh : hit xi xk := ⟨com_yes hwk hwi hC (by omega), by omega, by omega, by omega⟩; first | exact hno0 rfl |>.2.2 k i xk xi hxk hxi (by omega) hh | (have := first_uniq (hok rfl) hxk hxi (by omega) hh hno hnk; omega)) | (exfalso; first | (have := hno0 rfl; omega) | exact (hok rfl).1.elim fun x hx => hx.elim fun y hy => hno _ _ x y hy.1 hy.2.1 hy.2.2.1 (by have := (List.getElem?_eq_some_iff.1 hy.2.1).1; omega) hy.2.2.2))⟩
                    · refine sr_x rfl (wtd_none rfl) rfl (Rd.x (x_pick_t rfl rfl rfl)) ?_
                      refine sr_nil ?_
                      refine aw_keep (keep_cons (t := 0) rfl (keep_cons (t := 2) rfl (keep_cons (t := 3) rfl (keep_cons (t := 4) rfl (keep_cons (t := 5) rfl (keep_cons (t := 6) rfl (keep_cons (t := 7) rfl (keep_cons (t := 8) rfl (keep_cons (t := 9) rfl (keep_cons (t := 10) rfl (keep_cons (t := 11) rfl (keep_cons (t := 12) rfl (keep_cons (t := 13) rfl (keep_cons (t := 41) rfl (keep_cons (t := 42) rfl (keep_cons (t := 58) rfl (keep_cons (t := 59) rfl (keep_cons (t := 60) rfl (keep_cons (t := 61) rfl (keep_cons (t := 62) rfl (keep_cons (t := 63) rfl (keep_cons (t := 64) rfl (keep_cons (t := 65) rfl (keep_cons (t := 68) rfl (keep_cons (t := 69) rfl (keep_cons (t := 70) rfl (keep_cons (t := 71) rfl (keep_cons (t := 72) rfl (keep_cons (t := 73) rfl (keep_cons (t := 74) rfl (keep_cons (t := 75) rfl (keep_cons (t := 76) rfl (keep_cons (t := 77) rfl (keep_cons (t := 78) rfl (keep_cons (t := 79) rfl (keep_cons (t := 80) rfl (keep_cons (t := 81) rfl (keep_cons (t := 82) rfl (keep_cons (t := 83) rfl (keep_cons (t := 84) rfl (keep_cons (t := 85) rfl (keep_cons (t := 86) rfl (keep_cons (t := 87) rfl (keep_cons (t := 88) rfl (keep_cons (t := 89) rfl keep_nil))))))))))))))))))))))))))))))))))))))))))))) ?_
                      refine aw_false rfl ?_
                      refine aw_skip ?_
                      show AW _ _ _ _ _ _ _
                      refine aw_region ?_
                      refine sr_x rfl (wtd_none rfl) rfl (Rd.x (x_move rfl)) ?_
                      refine sr_x rfl (wtd_none rfl) rfl (Rd.x (x_add' rfl rfl (i64w (by omega) (by omega)))) ?_
                      refine sr_x rfl (wtd_none rfl) rfl (Rd.x (x_assign rfl)) ?_
                      refine sr_nil ?_
                      show ∃ s', _ ∧ _ ∧ _ ∧ _
                      exact ⟨k + 1, ⟨by omega, fun k' x y hx hy h => (Nat.lt_or_eq_of_le (Nat.le_of_lt_succ h)).elim (hnk k' x y hx hy) fun e => by subst e; rw [hxk] at hx; rw [hxi] at hy; cases hx; cases hy; rintro ⟨q1, q2, q3, q4⟩; first | exact com_no hwk hwi hC (by omega) q1 | omega⟩, by omega, (by repeat (first | exact keep_nil | refine keep_cons rfl ?_)), (by repeat (first | exact Sub.refl _ | apply Sub.drop))⟩
                  · refine sr_x rfl (wtd_none rfl) rfl (Rd.x (x_pick_t rfl rfl rfl)) ?_
                    refine sr_x rfl (wtd_none rfl) rfl (Rd.x (x_move rfl)) ?_
                    refine sr_skip rfl (wtd_no rfl rfl rfl rfl) rfl ?_
                    refine sr_skip rfl (wtd_no rfl rfl rfl rfl) rfl ?_
                    refine sr_skip rfl (wtd_no rfl rfl rfl rfl) rfl ?_
                    refine sr_x rfl (wtd_none rfl) rfl (Rd.x (x_pick_f rfl rfl rfl)) ?_
                    refine sr_nil ?_
                    refine aw_keep (keep_cons (t := 0) rfl (keep_cons (t := 2) rfl (keep_cons (t := 3) rfl (keep_cons (t := 4) rfl (keep_cons (t := 5) rfl (keep_cons (t := 6) rfl (keep_cons (t := 7) rfl (keep_cons (t := 8) rfl (keep_cons (t := 9) rfl (keep_cons (t := 10) rfl (keep_cons (t := 11) rfl (keep_cons (t := 12) rfl (keep_cons (t := 13) rfl (keep_cons (t := 41) rfl (keep_cons (t := 42) rfl (keep_cons (t := 58) rfl (keep_cons (t := 59) rfl (keep_cons (t := 60) rfl (keep_cons (t := 61) rfl (keep_cons (t := 62) rfl (keep_cons (t := 63) rfl (keep_cons (t := 64) rfl (keep_cons (t := 65) rfl (keep_cons (t := 68) rfl (keep_cons (t := 69) rfl (keep_cons (t := 70) rfl (keep_cons (t := 71) rfl (keep_cons (t := 72) rfl (keep_cons (t := 73) rfl (keep_cons (t := 74) rfl (keep_cons (t := 75) rfl (keep_cons (t := 76) rfl (keep_cons (t := 77) rfl (keep_cons (t := 78) rfl (keep_cons (t := 79) rfl (keep_cons (t := 80) rfl (keep_cons (t := 81) rfl (keep_cons (t := 82) rfl (keep_cons (t := 83) rfl (keep_cons (t := 84) rfl (keep_cons (t := 85) rfl (keep_cons (t := 86) rfl (keep_cons (t := 87) rfl (keep_cons (t := 88) rfl (keep_cons (t := 89) rfl keep_nil))))))))))))))))))))))))))))))))))))))))))))) ?_
                    refine aw_false rfl ?_
                    refine aw_skip ?_
                    show AW _ _ _ _ _ _ _
                    refine aw_region ?_
                    refine sr_x rfl (wtd_none rfl) rfl (Rd.x (x_move rfl)) ?_
                    refine sr_x rfl (wtd_none rfl) rfl (Rd.x (x_add' rfl rfl (i64w (by omega) (by omega)))) ?_
                    refine sr_x rfl (wtd_none rfl) rfl (Rd.x (x_assign rfl)) ?_
                    refine sr_nil ?_
                    show ∃ s', _ ∧ _ ∧ _ ∧ _
                    exact ⟨k + 1, ⟨by omega, fun k' x y hx hy h => (Nat.lt_or_eq_of_le (Nat.le_of_lt_succ h)).elim (hnk k' x y hx hy) fun e => by subst e; rw [hxk] at hx; rw [hxi] at hy; cases hx; cases hy; rintro ⟨q1, q2, q3, q4⟩; first | exact com_no hwk hwi hC (by omega) q1 | omega⟩, by omega, (by repeat (first | exact keep_nil | refine keep_cons rfl ?_)), (by repeat (first | exact Sub.refl _ | apply Sub.drop))⟩
                · refine sr_x rfl (wtd_none rfl) rfl (Rd.x (x_pick_t rfl rfl rfl)) ?_
                  refine sr_x rfl (wtd_none rfl) rfl (Rd.x (x_move rfl)) ?_
                  refine sr_skip rfl (wtd_no rfl rfl rfl rfl) rfl ?_
                  refine sr_skip rfl (wtd_no rfl rfl rfl rfl) rfl ?_
                  refine sr_skip rfl (wtd_no rfl rfl rfl rfl) rfl ?_
                  refine sr_x rfl (wtd_none rfl) rfl (Rd.x (x_pick_f rfl rfl rfl)) ?_
                  refine sr_x rfl (wtd_none rfl) rfl (Rd.x (x_move rfl)) ?_
                  refine sr_skip rfl (wtd_no rfl rfl rfl rfl) rfl ?_
                  refine sr_skip rfl (wtd_no rfl rfl rfl rfl) rfl ?_
                  refine sr_skip rfl (wtd_no rfl rfl rfl rfl) rfl ?_
                  refine sr_x rfl (wtd_none rfl) rfl (Rd.x (x_pick_f rfl rfl rfl)) ?_
                  refine sr_nil ?_
                  refine aw_keep (keep_cons (t := 0) rfl (keep_cons (t := 2) rfl (keep_cons (t := 3) rfl (keep_cons (t := 4) rfl (keep_cons (t := 5) rfl (keep_cons (t := 6) rfl (keep_cons (t := 7) rfl (keep_cons (t := 8) rfl (keep_cons (t := 9) rfl (keep_cons (t := 10) rfl (keep_cons (t := 11) rfl (keep_cons (t := 12) rfl (keep_cons (t := 13) rfl (keep_cons (t := 41) rfl (keep_cons (t := 42) rfl (keep_cons (t := 58) rfl (keep_cons (t := 59) rfl (keep_cons (t := 60) rfl (keep_cons (t := 61) rfl (keep_cons (t := 62) rfl (keep_cons (t := 63) rfl (keep_cons (t := 64) rfl (keep_cons (t := 65) rfl (keep_cons (t := 68) rfl (keep_cons (t := 69) rfl (keep_cons (t := 70) rfl (keep_cons (t := 71) rfl (keep_cons (t := 72) rfl (keep_cons (t := 73) rfl (keep_cons (t := 74) rfl (keep_cons (t := 75) rfl (keep_cons (t := 76) rfl (keep_cons (t := 77) rfl (keep_cons (t := 78) rfl (keep_cons (t := 79) rfl (keep_cons (t := 80) rfl (keep_cons (t := 81) rfl (keep_cons (t := 82) rfl (keep_cons (t := 83) rfl (keep_cons (t := 84) rfl (keep_cons (t := 85) rfl (keep_cons (t := 86) rfl (keep_cons (t := 87) rfl (keep_cons (t := 88) rfl (keep_cons (t := 89) rfl keep_nil))))))))))))))))))))))))))))))))))))))))))))) ?_
                  refine aw_false rfl ?_
                  refine aw_skip ?_
                  show AW _ _ _ _ _ _ _
                  refine aw_region ?_
                  refine sr_x rfl (wtd_none rfl) rfl (Rd.x (x_move rfl)) ?_
                  refine sr_x rfl (wtd_none rfl) rfl (Rd.x (x_add' rfl rfl (i64w (by omega) (by omega)))) ?_
                  refine sr_x rfl (wtd_none rfl) rfl (Rd.x (x_assign rfl)) ?_
                  refine sr_nil ?_
                  show ∃ s', _ ∧ _ ∧ _ ∧ _
                  exact ⟨k + 1, ⟨by omega, fun k' x y hx hy h => (Nat.lt_or_eq_of_le (Nat.le_of_lt_succ h)).elim (hnk k' x y hx hy) fun e => by subst e; rw [hxk] at hx; rw [hxi] at hy; cases hx; cases hy; rintro ⟨q1, q2, q3, q4⟩; first | exact com_no hwk hwi hC (by omega) q1 | omega⟩, by omega, (by repeat (first | exact keep_nil | refine keep_cons rfl ?_)), (by repeat (first | exact Sub.refl _ | apply Sub.drop))⟩
              · refine sr_nil ?_
                refine aw_keep (keep_cons (t := 0) rfl (keep_cons (t := 2) rfl (keep_cons (t := 3) rfl (keep_cons (t := 4) rfl (keep_cons (t := 5) rfl (keep_cons (t := 6) rfl (keep_cons (t := 7) rfl (keep_cons (t := 8) rfl (keep_cons (t := 9) rfl (keep_cons (t := 10) rfl (keep_cons (t := 11) rfl (keep_cons (t := 12) rfl (keep_cons (t := 13) rfl (keep_cons (t := 41) rfl (keep_cons (t := 42) rfl (keep_cons (t := 58) rfl (keep_cons (t := 59) rfl (keep_cons (t := 60) rfl (keep_cons (t := 61) rfl (keep_cons (t := 62) rfl (keep_cons (t := 63) rfl (keep_cons (t := 64) rfl (keep_cons (t := 65) rfl (keep_cons (t := 68) rfl (keep_cons (t := 69) rfl (keep_cons (t := 70) rfl (keep_cons (t := 71) rfl keep_nil))))))))))))))))))))))))))) ?_
                refine aw_false rfl ?_
                refine aw_skip ?_
                show AW _ _ _ _ _ _ _
                refine aw_seq_region ?_
                refine sr_x rfl (wtd_none rfl) rfl (Rd.x (x_move rfl)) ?_
                refine sr_x rfl (wtd_none rfl) rfl (Rd.x (x_move rfl)) ?_
                refine sr_x rfl (wtd_yes rfl rfl rfl) rfl (Rd.x (x_fieldAddr fd28_6 rfl)) ?_
                refine sr_x rfl (wtd_yes rfl rfl rfl) rfl (Rd.x (x_load ag2 rfl (cells_ext (by repeat (first | exact List.mem_cons_self | apply List.mem_cons_of_mem)) (by repeat (first | exact Ext.all _ | exact Ext.done | apply Ext.take | apply Ext.skip))))) ?_
                refine sr_cmp rfl (wtd_yes rfl rfl rfl) rfl (Rd.x (x_ge rfl rfl)) (fun h58 => ?_) (fun h58 => ?_)
                · refine sr_x rfl (wtd_none rfl) rfl (Rd.x (x_pick_t rfl rfl rfl)) ?_
                  refine sr_x rfl (wtd_none rfl) rfl (Rd.x (x_move rfl)) ?_
                  refine sr_x rfl (wtd_yes rfl rfl rfl) rfl (Rd.x (x_fieldAddr fd28_6 rfl)) ?_
                  refine sr_x rfl (wtd_yes rfl rfl rfl) rfl (Rd.x (x_load ag2 rfl (cells_ext (by repeat (first | exact List.mem_cons_self | apply List.mem_cons_of_mem)) (by repeat (first | exact Ext.all _ | exact Ext.done | apply Ext.take | apply Ext.skip))))) ?_
                  refine sr_cmp rfl (wtd_yes rfl rfl rfl) rfl (Rd.x (x_ge rfl rfl)) (fun h59 => ?_) (fun h59 => ?_)
                  · refine sr_x rfl (wtd_none rfl) rfl (Rd.x (x_pick_t rfl rfl rfl)) ?_
                    refine sr_x rfl (wtd_none rfl) rfl (Rd.x (x_move rfl)) ?_
                    refine sr_x rfl (wtd_yes rfl rfl rfl) rfl (Rd.x (x_move rfl)) ?_
                    refine sr_x rfl (wtd_yes rfl rfl rfl) rfl (Rd.x (x_move rfl)) ?_
                    refine sr_cmp rfl (wtd_yes rfl rfl rfl) rfl (Rd.x (x_lt rfl rfl)) (fun h60 => ?_) (fun h60 => ?_)
                    · refine sr_x rfl (wtd_none rfl) rfl (Rd.x (x_pick_t rfl rfl rfl)) ?_
                      refine sr_nil ?_
                      refine aw_keep (keep_cons (t := 0) rfl (keep_cons (t := 2) rfl (keep_cons (t := 3) rfl (keep_cons (t := 4) rfl (keep_cons (t := 5) rfl (keep_cons (t := 6) rfl (keep_cons (t := 7) rfl (keep_cons (t := 8) rfl (keep_cons (t := 9) rfl (keep_cons (t := 10) rfl (keep_cons (t := 11) rfl (keep_cons (t := 12) rfl (keep_cons (t := 13) rfl (keep_cons (t := 41) rfl (keep_cons (t := 42) rfl (keep_cons (t := 58) rfl (keep_cons (t := 59) rfl (keep_cons (t := 60) rfl (keep_cons (t := 61) rfl (keep_cons (t := 62) rfl (keep_cons (t := 63) rfl (keep_cons (t := 64) rfl (keep_cons (t := 65) rfl (keep_cons (t := 68) rfl (keep_cons (t := 69) rfl (keep_cons (t := 70) rfl (keep_cons (t := 71) rfl (keep_cons (t := 74) rfl (keep_cons (t := 75) rfl (keep_cons (t := 76) rfl (keep_cons (t := 77) rfl (keep_cons (t := 78) rfl (keep_cons (t := 79) rfl (keep_cons (t := 80) rfl (keep_cons (t := 81) rfl (keep_cons (t := 82) rfl (keep_cons (t := 83) rfl (keep_cons (t := 84) rfl (keep_cons (t := 85) rfl (keep_cons (t := 86) rfl (keep_cons (t := 87) rfl (keep_cons (t := 88) rfl (keep_cons (t := 89) rfl keep_nil))))))))))))))))))))))))))))))))))))))))))) ?_
                      refine aw_true rfl ?_
                      refine aw_seq_region ?_
                      refine sr_x rfl (wtd_none rfl) rfl (Rd.x (x_move rfl)) ?_
                      refine sr_x rfl (wtd_none rfl) rfl (Rd.x (x_move rfl)) ?_
                      refine sr_cmp rfl (wtd_none rfl) rfl (Rd.x (x_eq rfl rfl)) (fun h61 => ?_) (fun h61 => ?_)
                      · refine sr_x rfl (wtd_none rfl) rfl (Rd.x (x_move rfl)) ?_
                        refine sr_x rfl (wtd_yes rfl rfl rfl) rfl (Rd.x (x_move rfl)) ?_
                        refine sr_x rfl (wtd_yes rfl rfl rfl) rfl (Rd.x (x_move rfl)) ?_
                        refine sr_cmp rfl (wtd_yes rfl rfl rfl) rfl (Rd.x (x_eq rfl rfl)) (fun h62 => ?_) (fun h62 => ?_)
                        · refine sr_x rfl (wtd_none rfl) rfl (Rd.x (x_pick_t rfl rfl rfl)) ?_
                          refine sr_x rfl (wtd_none rfl) rfl (Rd.x (x_move rfl)) ?_
                          refine sr_x rfl (wtd_yes rfl rfl rfl) rfl (Rd.x (x_move rfl)) ?_
                          refine sr_x rfl (wtd_none rfl) rfl (Rd.x (x_pick_t rfl rfl rfl)) ?_
                          refine sr_x rfl (wtd_none rfl) rfl (Rd.x (x_move rfl)) ?_
                          refine sr_d rfl (wtd_yes rfl rfl rfl) rfl (opS_call rfl rfl rfl rfl cl16 (awake30_s _)) ?_
                          rintro _ _ ⟨rfl, rfl⟩
                          refine sr_x rfl (wtd_none rfl) rfl (Rd.x (x_pick_t rfl rfl rfl)) ?_
                          refine sr_x rfl (wtd_none rfl) rfl (Rd.x (x_assign rfl)) ?_
                          refine sr_nil ?_
                          refine aw_keep (keep_cons (t := 0) rfl (keep_cons (t := 2) rfl (keep_cons (t := 3) rfl (keep_cons (t := 4) rfl (keep_cons (t := 5) rfl (keep_cons (t := 6) rfl (keep_cons (t := 7) rfl (keep_cons (t := 8) rfl (keep_cons (t := 9) rfl (keep_cons (t := 10) rfl (keep_cons (t := 11) rfl (keep_cons (t := 12) rfl (keep_cons (t := 13) rfl (keep_cons (t := 41) rfl (keep_cons (t := 42) rfl (keep_cons (t := 58) rfl (keep_cons (t := 59) rfl (keep_cons (t := 60) rfl (keep_cons (t := 61) rfl (keep_cons (t := 62) rfl (keep_cons (t := 63) rfl (keep_cons (t := 64) rfl (keep_cons (t := 65) rfl (keep_cons (t := 68) rfl (keep_cons (t := 69) rfl (keep_cons (t := 70) rfl (keep_cons (t := 71) rfl (keep_cons (t := 74) rfl (keep_cons (t := 75) rfl (keep_cons (t := 76) rfl (keep_cons (t := 77) rfl (keep_cons (t := 78) rfl (keep_cons (t := 79) rfl (keep_cons (t := 80) rfl (keep_cons (t := 81) rfl (keep_cons (t := 82) rfl (keep_cons (t := 83) rfl (keep_cons (t := 84) rfl (keep_cons (t := 85) rfl (keep_cons (t := 86) rfl (keep_cons (t := 87) rfl (keep_cons (t := 88) rfl (keep_cons (t := 89) rfl (keep_cons (t := 90) rfl (keep_cons (t := 91) rfl (keep_cons (t := 92) rfl (keep_cons (t := 93) rfl (keep_cons (t := 94) rfl (keep_cons (t := 95) rfl (keep_cons (t := 96) rfl (keep_cons (t := 97) rfl (keep_cons (t := 98) rfl (keep_cons (t := 99) rfl (keep_cons (t := 100) rfl (keep_cons (t := 101) rfl (keep_cons (t := 102) rfl (keep_cons (t := 103) rfl keep_nil))))))))))))))))))))))))))))))))))))))))))))))))))))))))) ?_
                          refine aw_ret ?_
                          show ∃ v H2, ResV _ _ _ _ _ _ v ∧ Sub H2 _ ∧ _
                          exact ⟨_, _, resV rfl (.cons rfl .nil), (by repeat (first | exact Sub.refl _ | apply Sub.drop)), (by first | rfl | (exfalso; have hh : hit xi xk := ⟨com_yes hwk hwi hC (by omega), by omega, by omega, by omega⟩; first | exact hno0 rfl |>.2.2 k i xk xi hxk hxi (by omega) hh | (have := first_uniq (hok rfl) hxk hxi (by omega) hh hno hnk; omega)) | (exfalso; first | (have := hno0 rfl; omega) | exact (hok rfl).1.elim fun x hx => hx.elim fun y hy => hno _ _ x y hy.1 hy.2.1 hy.2.2.1 (by have := (List.getElem?_eq_some_iff.1 hy.2.1).1; omega) hy.2.2.2))⟩
                        · refine sr_x rfl (wtd_none rfl) rfl (Rd.x (x_pick_t rfl rfl rfl)) ?_
                          refine sr_x rfl (wtd_none rfl) rfl (Rd.x (x_move rfl)) ?_
                          refine sr_skip rfl (wtd_no rfl rfl rfl rfl) rfl ?_
                          refine sr_x rfl (wtd_none rfl) rfl (Rd.x (x_pick_f rfl rfl rfl)) ?_
                          refine sr_x rfl (wtd_none rfl) rfl (Rd.x (x_move rfl)) ?_
                          refine sr_skip rfl (wtd_no rfl rfl rfl rfl) rfl ?_
                          refine sr_x rfl (wtd_none rfl) rfl (Rd.x (x_pick_f rfl rfl rfl)) ?_
                          refine sr_x rfl (wtd_none rfl) rfl (Rd.x (x_assign rfl)) ?_
                          refine sr_nil ?_
                          refine aw_keep (keep_cons (t := 0) rfl (keep_cons (t := 2) rfl (keep_cons (t := 3) rfl (keep_cons (t := 4) rfl (keep_cons (t := 5) rfl (keep_cons (t := 6) rfl (keep_cons (t := 7) rfl (keep_cons (t := 8) rfl (keep_cons (t := 9) rfl (keep_cons (t := 10) rfl (keep_cons (t := 11) rfl (keep_cons (t := 12) rfl (keep_cons (t := 13) rfl (keep_cons (t := 41) rfl (keep_cons (t := 42) rfl (keep_cons (t := 58) rfl (keep_cons (t := 59) rfl (keep_cons (t := 60) rfl (keep_cons (t := 61) rfl (keep_cons (t := 62) rfl (keep_cons (t := 63) rfl (keep_cons (t := 64) rfl (keep_cons (t := 65) rfl (keep_cons (t := 68) rfl (keep_cons (t := 69) rfl (keep_cons (t := 70) rfl (keep_cons (t := 71) rfl (keep_cons (t := 74) rfl (keep_cons (t := 75) rfl (keep_cons (t := 76) rfl (keep_cons (t := 77) rfl (keep_cons (t := 78) rfl (keep_cons (t := 79) rfl (keep_cons (t := 80) rfl (keep_cons (t := 81) rfl (keep_cons (t := 82) rfl (keep_cons (t := 83) rfl (keep_cons (t := 84) rfl (keep_cons (t := 85) rfl (keep_cons (t := 86) rfl (keep_cons (t := 87) rfl (keep_cons (t := 88) rfl (keep_cons (t := 89) rfl (keep_cons (t := 90) rfl (keep_cons (t := 91) rfl (keep_cons (t := 92) rfl (keep_cons (t := 93) rfl (keep_cons (t := 94) rfl (keep_cons (t := 95) rfl (keep_cons (t := 96) rfl (keep_cons (t := 97) rfl (keep_cons (t := 98) rfl (keep_cons (t := 99) rfl (keep_cons (t := 100) rfl (keep_cons (t := 101) rfl (keep_cons (t := 102) rfl (keep_cons (t := 103) rfl keep_nil))))))))))))))))))))))))))))))))))))))))))))))))))))))))) ?_
                          refine aw_ret ?_
                          show ∃ v H2, ResV _ _ _ _ _ _ v ∧ Sub H2 _ ∧ _
                          exact ⟨_, _, resV rfl (.cons rfl .nil), (by repeat (first | exact Sub.refl _ | apply Sub.drop)), (by first | rfl | (exfalso; have hh : hit xi xk := ⟨com_yes hwk hwi hC (by omega), by omega, by omega, by omega⟩; first | exact hno0 rfl |>.2.2 k i xk xi hxk hxi (by omega) hh | (have := first_uniq (hok rfl) hxk hxi (by omega) hh hno hnk; omega)) | (exfalso; first | (have := hno0 rfl; omega) | exact (hok rfl).1.elim fun x hx => hx.elim fun y hy => hno _ _ x y hy.1 hy.2.1 hy.2.2.1 (by have := (List.getElem?_eq_some_iff.1 hy.2.1).1; omega) hy.2.2.2))⟩
                      · refine sr_x rfl (wtd_none rfl) rfl (Rd.x (x_move rfl)) ?_
                        refine sr_skip rfl (wtd_no rfl rfl rfl rfl) rfl ?_
                        refine sr_skip rfl (wtd_no rfl rfl rfl rfl) rfl ?_
                        refine sr_skip rfl (wtd_no rfl rfl rfl rfl) rfl ?_
                        refine sr_x rfl (wtd_none rfl) rfl (Rd.x (x_pick_f rfl rfl rfl)) ?_
                        refine sr_x rfl (wtd_none rfl) rfl (Rd.x (x_move rfl)) ?_
                        refine sr_skip rfl (wtd_no rfl rfl rfl rfl) rfl ?_
                        refine sr_x rfl (wtd_none rfl) rfl (Rd.x (x_pick_f rfl rfl rfl)) ?_
                        refine sr_x rfl (wtd_none rfl) rfl (Rd.x (x_move rfl)) ?_
                        refine sr_skip rfl (wtd_no rfl rfl rfl rfl) rfl ?_
                        refine sr_x rfl (wtd_none rfl) rfl (Rd.x (x_pick_f rfl rfl rfl)) ?_
                        refine sr_x rfl (wtd_none rfl) rfl (Rd.x (x_assign rfl)) ?_
                        refine sr_nil ?_
                        refine aw_keep (keep_cons (t := 0) rfl (keep_cons (t := 2) rfl (keep_cons (t := 3) rfl (keep_cons (t := 4) rfl (keep_cons (t := 5) rfl (keep_cons (t := 6) rfl (keep_cons (t := 7) rfl (keep_cons (t := 8) rfl (keep_cons (t := 9) rfl (keep_cons (t := 10) rfl (keep_cons (t := 11) rfl (keep_cons (t := 12) rfl (keep_cons (t := 13) rfl (keep_cons (t := 41) rfl (keep_cons (t := 42) rfl (keep_cons (t := 58) rfl (keep_cons (t := 59) rfl (keep_cons (t := 60) rfl (keep_cons (t := 61) rfl (keep_cons (t := 62) rfl (keep_cons (t := 63) rfl (keep_cons (t := 64) rfl (keep_cons (t := 65) rfl (keep_cons (t := 68) rfl (keep_cons (t := 69) rfl (keep_cons (t := 70) rfl (keep_cons (t := 71) rfl (keep_cons (t := 74) rfl (keep_cons (t := 75) rfl (keep_cons (t := 76) rfl (keep_cons (t := 77) rfl (keep_cons (t := 78) rfl (keep_cons (t := 79) rfl (keep_cons (t := 80) rfl (keep_cons (t := 81) rfl (keep_cons (t := 82) rfl (keep_cons (t := 83) rfl (keep_cons (t := 84) rfl (keep_cons (t := 85) rfl (keep_cons (t := 86) rfl (keep_cons (t := 87) rfl (keep_cons (t := 88) rfl (keep_cons (t := 89) rfl (keep_cons (t := 90) rfl (keep_cons (t := 91) rfl (keep_cons (t := 92) rfl (keep_cons (t := 93) rfl (keep_cons (t := 94) rfl (keep_cons (t := 95) rfl (keep_cons (t := 96) rfl (keep_cons (t := 97) rfl (keep_cons (t := 98) rfl (keep_cons (t := 99) rfl (keep_cons (t := 100) rfl (keep_cons (t := 101) rfl (keep_cons (t := 102) rfl (keep_cons (t := 103) rfl keep_nil))))))))))))))))))))))))))))))))))))))))))))))))))))))))) ?_
                        refine aw_ret ?_
                        show ∃ v H2, ResV _ _ _ _ _ _ v ∧ Sub H2 _ ∧ _
                        exact ⟨_, _, resV rfl (.cons rfl .nil), (by repeat (first | exact Sub.refl _ | apply Sub.drop)), (by first | rfl | (exfalso; have hh : hit xi xk := ⟨com_yes hwk hwi hC (by omega), by omega, by omega, by omega⟩; first | exact hno0 rfl |>.2.2 k i xk xi hxk hxi (by omega) hh | (have := first_uniq (hok rfl) hxk hxi (by omega) hh hno hnk; omega)) | (exfalso; first | (have := hno0 rfl; omega) | exact (hok rfl).1.elim fun x hx => hx.elim fun y hy => hno _ _ x y hy.1 hy.2.1 hy.2.2.1 (by have := (List.getElem?_eq_some_iff.1 hy.2.1).1; omega) hy.2.2.2))⟩
                    · refine sr_x rfl (wtd_none rfl) rfl (Rd.x (x_pick_t rfl rfl rfl)) ?_
                      refine sr_nil ?_
                      refine aw_keep (keep_cons (t := 0) rfl (keep_cons (t := 2) rfl (keep_cons (t := 3) rfl (keep_cons (t := 4) rfl (keep_cons (t := 5) rfl (keep_cons (t := 6) rfl (keep_cons (t := 7) rfl (keep_cons (t := 8) rfl (keep_cons (t := 9) rfl (keep_cons (t := 10) rfl (keep_cons (t := 11) rfl (keep_cons (t := 12) rfl (keep_cons (t := 13) rfl (keep_cons (t := 41) rfl (keep_cons (t := 42) rfl (keep_cons (t := 58) rfl (keep_cons (t := 59) rfl (keep_cons (t := 60) rfl (keep_cons (t := 61) rfl (keep_cons (t := 62) rfl (keep_cons (t := 63) rfl (keep_cons (t := 64) rfl (keep_cons (t := 65) rfl (keep_cons (t := 68) rfl (keep_cons (t := 69) rfl (keep_cons (t := 70) rfl (keep_cons (t := 71) rfl (keep_cons (t := 74) rfl (keep_cons (t := 75) rfl (keep_cons (t := 76) rfl (keep_cons (t := 77) rfl (keep_cons (t := 78) rfl (keep_cons (t := 79) rfl (keep_cons (t := 80) rfl (keep_cons (t := 81) rfl (keep_cons (t := 82) rfl (keep_cons (t := 83) rfl (keep_cons (t := 84) rfl (keep_cons (t := 85) rfl (keep_cons (t := 86) rfl (keep_cons (t := 87) rfl (keep_cons (t := 88) rfl (keep_cons (t := 89) rfl keep_nil))))))))))))))))))))))))))))))))))))))))))) ?_
                      refine aw_false rfl ?_
                      refine aw_skip ?_
                      show AW _ _ _ _ _ _ _
                      refine aw_region ?_
                      refine sr_x rfl (wtd_none rfl) rfl (Rd.x (x_move rfl)) ?_
                      refine sr_x rfl (wtd_none rfl) rfl (Rd.x (x_add' rfl rfl (i64w (by omega) (by omega)))) ?_
                      refine sr_x rfl (wtd_none rfl) rfl (Rd.x (x_assign rfl)) ?_
                      refine sr_nil ?_
                      show ∃ s', _ ∧ _ ∧ _ ∧ _
                      exact ⟨k + 1, ⟨by omega, fun k' x y hx hy h => (Nat.lt_or_eq_of_le (Nat.le_of_lt_succ h)).elim (hnk k' x y hx hy) fun e => by subst e; rw [hxk] at hx; rw [hxi] at hy; cases hx; cases hy; rintro ⟨q1, q2, q3, q4⟩; first | exact com_no hwk hwi hC (by omega) q1 | omega⟩, by omega, (by repeat (first | exact keep_nil | refine keep_cons rfl ?_)), (by repeat (first | exact Sub.refl _ | apply Sub.drop))⟩
                  · refine sr_x rfl (wtd_none rfl) rfl (Rd.x (x_pick_t rfl rfl rfl)) ?_
                    refine sr_x rfl (wtd_none rfl) rfl (Rd.x (x_move rfl)) ?_
                    refine sr_skip rfl (wtd_no rfl rfl rfl rfl) rfl ?_
                    refine sr_skip rfl (wtd_no rfl rfl rfl rfl) rfl ?_
                    refine sr_skip rfl (wtd_no rfl rfl rfl rfl) rfl ?_
                    refine sr_x rfl (wtd_none rfl) rfl (Rd.x (x_pick_f rfl rfl rfl)) ?_
                    refine sr_nil ?_
                    refine aw_keep (keep_cons (t := 0) rfl (keep_cons (t := 2) rfl (keep_cons (t := 3) rfl (keep_cons (t := 4) rfl (keep_cons (t := 5) rfl (keep_cons (t := 6) rfl (keep_cons (t := 7) rfl (keep_cons (t := 8) rfl (keep_cons (t := 9) rfl (keep_cons (t := 10) rfl (keep_cons (t := 11) rfl (keep_cons (t := 12) rfl (keep_cons (t := 13) rfl (keep_cons (t := 41) rfl (keep_cons (t := 42) rfl (keep_cons (t := 58) rfl (keep_cons (t := 59) rfl (keep_cons (t := 60) rfl (keep_cons (t := 61) rfl (keep_cons (t := 62) rfl (keep_cons (t := 63) rfl (keep_cons (t := 64) rfl (keep_cons (t := 65) rfl (keep_cons (t := 68) rfl (keep_cons (t := 69) rfl (keep_cons (t := 70) rfl (keep_cons (t := 71) rfl (keep_cons (t := 74) rfl (keep_cons (t := 75) rfl (keep_cons (t := 76) rfl (keep_cons (t := 77) rfl (keep_cons (t := 78) rfl (keep_cons (t := 79) rfl (keep_cons (t := 80) rfl (keep_cons (t := 81) rfl (keep_cons (t := 82) rfl (keep_cons (t := 83) rfl (keep_cons (t := 84) rfl (keep_cons (t := 85) rfl (keep_cons (t := 86) rfl (keep_cons (t := 87) rfl (keep_cons (t := 88) rfl (keep_cons (t := 89) rfl keep_nil))))))))))))))))))))))))))))))))))))))))))) ?_
                    refine aw_false rfl ?_
                    refine aw_skip ?_
                    show AW _ _ _ _ _ _ _
                    refine aw_region ?_
                    refine sr_x rfl (wtd_none rfl) rfl (Rd.x (x_move rfl)) ?_
                    refine sr_x rfl (wtd_none rfl) rfl (Rd.x (x_add' rfl rfl (i64w (by omega) (by omega)))) ?_
                    refine sr_x rfl (wtd_none rfl) rfl (Rd.x (x_assign rfl)) ?_
                    refine sr_nil ?_
                    show ∃ s', _ ∧ _ ∧ _ ∧ _
                    exact ⟨k + 1, ⟨by omega, fun k' x y hx hy h => (Nat.lt_or_eq_of_le (Nat.le_of_lt_succ h)).elim (hnk k' x y hx hy) fun e => by subst e; rw [hxk] at hx; rw [hxi] at hy; cases hx; cases hy; rintro ⟨q1, q2, q3, q4⟩; first | exact com_no hwk hwi hC (by omega) q1 | omega⟩, by omega, (by repeat (first | exact keep_nil | refine keep_cons rfl ?_)), (by repeat (first | exact Sub.refl _ | apply Sub.drop))⟩
                · refine sr_x rfl (wtd_none rfl) rfl (Rd.x (x_pick_t rfl rfl rfl)) ?_
                  refine sr_x rfl (wtd_none rfl) rfl (Rd.x (x_move rfl)) ?_
                  refine sr_skip rfl (wtd_no rfl rfl rfl rfl) rfl ?_
                  refine sr_skip rfl (wtd_no rfl rfl rfl rfl) rfl ?_
                  refine sr_skip rfl (wtd_no rfl rfl rfl rfl) rfl ?_
                  refine sr_x rfl (wtd_none rfl) rfl (Rd.x (x_pick_f rfl rfl rfl)) ?_
                  refine sr_x rfl (wtd_none rfl) rfl (Rd.x (x_move rfl)) ?_
                  refine sr_skip rfl (wtd_no rfl rfl rfl rfl) rfl ?_
                  refine sr_skip rfl (wtd_no rfl rfl rfl rfl) rfl ?_
                  refine sr_skip rfl (wtd_no rfl rfl rfl rfl) rfl ?_
                  refine sr_x rfl (wtd_none rfl) rfl (Rd.x (x_pick_f rfl rfl rfl)) ?_
                  refine sr_nil ?_
                  refine aw_keep (keep_cons (t := 0) rfl (keep_cons (t := 2) rfl (keep_cons (t := 3) rfl (keep_cons (t := 4) rfl (keep_cons (t := 5) rfl (keep_cons (t := 6) rfl (keep_cons (t := 7) rfl (keep_cons (t := 8) rfl (keep_cons (t := 9) rfl (keep_cons (t := 10) rfl (keep_cons (t := 11) rfl (keep_cons (t := 12) rfl (keep_cons (t := 13) rfl (keep_cons (t := 41) rfl (keep_cons (t := 42) rfl (keep_cons (t := 58) rfl (keep_cons (t := 59) rfl (keep_cons (t := 60) rfl (keep_cons (t := 61) rfl (keep_cons (t := 62) rfl (keep_cons (t := 63) rfl (keep_cons (t := 64) rfl (keep_cons (t := 65) rfl (keep_cons (t := 68) rfl (keep_cons (t := 69) rfl (keep_cons (t := 70) rfl (keep_cons (t := 71) rfl (keep_cons (t := 74) rfl (keep_cons (t := 75) rfl (keep_cons (t := 76) rfl (keep_cons (t := 77) rfl (keep_cons (t := 78) rfl (keep_cons (t := 79) rfl (keep_cons (t := 80) rfl (keep_cons (t := 81) rfl (keep_cons (t := 82) rfl (keep_cons (t := 83) rfl (keep_cons (t := 84) rfl (keep_cons (t := 85) rfl (keep_cons (t := 86) rfl (keep_cons (t := 87) rfl (keep_cons (t := 88) rfl (keep_cons (t := 89) rfl keep_nil))))))))))))))))))))))))))))))))))))))))))) ?_
                  refine aw_false rfl ?_
                  refine aw_skip ?_
                  show AW _ _ _ _ _ _ _
                  refine aw_region ?_
                  refine sr_x rfl (wtd_none rfl) rfl (Rd.x (x_move rfl)) ?_
                  refine sr_x rfl (wtd_none rfl) rfl (Rd.x (x_add' rfl rfl (i64w (by omega) (by omega)))) ?_
                  refine sr_x rfl (wtd_none rfl) rfl (Rd.x (x_assign rfl)) ?_
                  refine sr_nil ?_
                  show ∃ s', _ ∧ _ ∧ _ ∧ _
                  exact ⟨k + 1, ⟨by omega, fun k' x y hx hy h => (Nat.lt_or_eq_of_le (Nat.le_of_lt_succ h)).elim (hnk k' x y hx hy) fun e => by subst e; rw [hxk] at hx; rw [hxi] at hy; cases hx; cases hy; rintro ⟨q1, q2, q3, q4⟩; first | exact com_no hwk hwi hC (by omega) q1 | omega⟩, by omega, (by repeat (first | exact keep_nil | refine keep_cons rfl ?_)), (by repeat (first | exact Sub.refl _ | apply Sub.drop))⟩
      · refine sr_nil ?_
        refine aw_keep (keep_cons (t := 0) rfl (keep_cons (t := 2) rfl (keep_cons (t := 3) rfl (keep_cons (t := 4) rfl (keep_cons (t := 5) rfl (keep_cons (t := 6) rfl (keep_cons (t := 7) rfl (keep_cons (t := 28) rfl (keep_cons (t := 29) rfl (keep_cons (t := 30) rfl keep_nil)))))))))) ?_
        refine aw_false rfl ?_
        refine aw_exit ?_
        show AW _ _ _ _ _ _ _
        refine aw_region ?_
        refine sr_x rfl (wtd_none rfl) rfl (Rd.x (x_move rfl)) ?_
        refine sr_x rfl (wtd_none rfl) rfl (Rd.x (x_add' rfl rfl (i64w (by omega) (by omega)))) ?_
        refine sr_x rfl (wtd_none rfl) rfl (Rd.x (x_assign rfl)) ?_
        refine sr_nil ?_
        show ∃ s', _ ∧ _ ∧ _ ∧ _
        exact ⟨i + 1, ⟨by omega, fun k' i' x y hx hy hk h => (Nat.lt_or_eq_of_le (Nat.le_of_lt_succ h)).elim (hno k' i' x y hx hy hk) fun e => by subst e; exact hnk k' x y hx hy (by omega)⟩, by omega, (by repeat (first | exact keep_nil | refine keep_cons rfl ?_)), (by repeat (first | exact Sub.refl _ | apply Sub.drop))⟩
    · refine sr_nil ?_
      refine aw_keep (keep_cons (t := 0) rfl (keep_cons (t := 2) rfl (keep_cons (t := 3) rfl (keep_cons (t := 4) rfl (keep_cons (t := 5) rfl (keep_cons (t := 6) rfl (keep_cons (t := 22) rfl (keep_cons (t := 23) rfl (keep_cons (t := 24) rfl (keep_cons (t := 25) rfl keep_nil)))))))))) ?_
      refine aw_false rfl ?_
      refine aw_exit ?_
      show AW _ _ _ _ _ _ _
      refine aw_seq_region ?_
      refine sr_x rfl (wtd_none rfl) rfl (Rd.x (x_move rfl)) ?_
      refine sr_cmp rfl (wtd_none rfl) rfl (Rd.x (x_eq rfl rfl)) (fun h63 => ?_) (fun h63 => ?_)
      · refine sr_x rfl (wtd_none rfl) rfl (Rd.x (x_move rfl)) ?_
        refine sr_x rfl (wtd_yes rfl rfl rfl) rfl (Rd.x (x_move rfl)) ?_
        refine sr_cmp rfl (wtd_yes rfl rfl rfl) rfl (Rd.x (x_eq rfl rfl)) (fun h64 => ?_) (fun h64 => ?_)
        · refine sr_x rfl (wtd_none rfl) rfl (Rd.x (x_pick_t rfl rfl rfl)) ?_
          refine sr_x rfl (wtd_none rfl) rfl (Rd.x (x_move rfl)) ?_
          refine sr_x rfl (wtd_yes rfl rfl rfl) rfl (Rd.x (x_move rfl)) ?_
          refine sr_x rfl (wtd_yes rfl rfl rfl) rfl (Rd.x (x_not rfl)) ?_
          refine sr_x rfl (wtd_none rfl) rfl (Rd.x (x_pick_t rfl rfl rfl)) ?_
          refine sr_x rfl (wtd_none rfl) rfl (Rd.x (x_move rfl)) ?_
          refine sr_skip rfl (wtd_no rfl rfl rfl rfl) rfl ?_
          refine sr_x rfl (wtd_none rfl) rfl (Rd.x (x_pick_f rfl rfl rfl)) ?_
          refine sr_x rfl (wtd_none rfl) rfl (Rd.x (x_assign rfl)) ?_
          refine sr_nil ?_
          refine aw_keep (keep_cons (t := 2) rfl keep_nil) ?_
          refine aw_ret ?_
          show ∃ v H2, ResV _ _ _ _ _ _ v ∧ Sub H2 _ ∧ _
          exact ⟨_, _, resV rfl (.cons rfl .nil), (by repeat (first | exact Sub.refl _ | apply Sub.drop)), (by first | rfl | (exfalso; have hh : hit xi xk := ⟨com_yes hwk hwi hC (by omega), by omega, by omega, by omega⟩; first | exact hno0 rfl |>.2.2 k i xk xi hxk hxi (by omega) hh | (have := first_uniq (hok rfl) hxk hxi (by omega) hh hno hnk; omega)) | (exfalso; first | (have := hno0 rfl; omega) | exact (hok rfl).1.elim fun x hx => hx.elim fun y hy => hno _ _ x y hy.1 hy.2.1 hy.2.2.1 (by have := (List.getElem?_eq_some_iff.1 hy.2.1).1; omega) hy.2.2.2))⟩
        · refine sr_x rfl (wtd_none rfl) rfl (Rd.x (x_pick_t rfl rfl rfl)) ?_
          refine sr_x rfl (wtd_none rfl) rfl (Rd.x (x_move rfl)) ?_
          refine sr_skip rfl (wtd_no rfl rfl rfl rfl) rfl ?_
          refine sr_skip rfl (wtd_no rfl rfl rfl rfl) rfl ?_
          refine sr_x rfl (wtd_none rfl) rfl (Rd.x (x_pick_f rfl rfl rfl)) ?_
          refine sr_x rfl (wtd_none rfl) rfl (Rd.x (x_move rfl)) ?_
          refine sr_skip rfl (wtd_no rfl rfl rfl rfl) rfl ?_
          refine sr_x rfl (wtd_none rfl) rfl (Rd.x (x_pick_f rfl rfl rfl)) ?_
          refine sr_x rfl (wtd_none rfl) rfl (Rd.x (x_assign rfl)) ?_
          refine sr_nil ?_
          refine aw_keep (keep_cons (t := 2) rfl keep_nil) ?_
          refine aw_ret ?_
          show ∃ v H2, ResV _ _ _ _ _ _ v ∧ Sub H2 _ ∧ _
          exact ⟨_, _, resV rfl (.cons rfl .nil), (by repeat (first | exact Sub.refl _ | apply Sub.drop)), (by first | rfl | (exfalso; have hh : hit xi xk := ⟨com_yes hwk hwi hC (by omega), by omega, by omega, by omega⟩; first | exact hno0 rfl |>.2.2 k i xk xi hxk hxi (by omega) hh | (have := first_uniq (hok rfl) hxk hxi (by omega) hh hno hnk; omega)) | (exfalso; first | (have := hno0 rfl; omega) | exact (hok rfl).1.elim fun x hx => hx.elim fun y hy => hno _ _ x y hy.1 hy.2.1 hy.2.2.1 (by have := (List.getElem?_eq_some_iff.1 hy.2.1).1; omega) hy.2.2.2))⟩
      · refine sr_x rfl (wtd_none rfl) rfl (Rd.x (x_move rfl)) ?_
        refine sr_skip rfl (wtd_no rfl rfl rfl rfl) rfl ?_
        refine sr_skip rfl (wtd_no rfl rfl rfl rfl) rfl ?_
        refine sr_x rfl (wtd_none rfl) rfl (Rd.x (x_pick_f rfl rfl rfl)) ?_
        refine sr_x rfl (wtd_none rfl) rfl (Rd.x (x_move rfl)) ?_
        refine sr_skip rfl (wtd_no rfl rfl rfl rfl) rfl ?_
        refine sr_skip rfl (wtd_no rfl rfl rfl rfl) rfl ?_
        refine sr_x rfl (wtd_none rfl) rfl (Rd.x (x_pick_f rfl rfl rfl)) ?_
        refine sr_x rfl (wtd_none rfl) rfl (Rd.x (x_move rfl)) ?_
        refine sr_skip rfl (wtd_no rfl rfl rfl rfl) rfl ?_
        refine sr_x rfl (wtd_none rfl) rfl (Rd.x (x_pick_f rfl rfl rfl)) ?_
        refine sr_x rfl (wtd_none rfl) rfl (Rd.x (x_assign rfl)) ?_
        refine sr_nil ?_
        refine aw_keep (keep_cons (t := 2) rfl keep_nil) ?_
        refine aw_ret ?_
        show ∃ v H2, ResV _ _ _ _ _ _ v ∧ Sub H2 _ ∧ _
        exact ⟨_, _, resV rfl (.cons rfl .nil), (by repeat (first | exact Sub.refl _ | apply Sub.drop)), (by first | rfl | (exfalso; have hh : hit xi xk := ⟨com_yes hwk hwi hC (by omega), by omega, by omega, by omega⟩; first | exact hno0 rfl |>.2.2 k i xk xi hxk hxi (by omega) hh | (have := first_uniq (hok rfl) hxk hxi (by omega) hh hno hnk; omega)) | (exfalso; first | (have := hno0 rfl; omega) | exact (hok rfl).1.elim fun x hx => hx.elim fun y hy => hno _ _ x y hy.1 hy.2.1 hy.2.2.1 (by have := (List.getElem?_eq_some_iff.1 hy.2.1).1; omega) hy.2.2.2))⟩
end
namespace GanttClashesRow
open Go.ChangeShapes Go.WideShapes Go.ChangeAt Go.RowKit
theorem own : ownKnob Try.prog.godebug = none := by kernel_rfl
theorem laid : laidOutB Try.prog = true := by kernel_rfl
set_option maxRecDepth 100000 in
theorem lifted (os : Os) (started : os.Started) (H : Type) (enc : TypeId × Value → H) :
    ReturnsInHanded {} Try.checked os 3 .any (Rows.ganttClashesSpec.pre6 enc Try.prog Try.f3 Rows.ganttClashesRow.domain false) (Rows.ganttClashesSpec.post enc Try.prog Try.f3 false true false false) := by
  refine law_lifted (C := Try.checked) (tb := 4) own started (by kernel_rfl) Try.func3 (ChangeSpec.witness6 (enc := enc) (C := Try.checked) false ⟨#[], #[.slice none 0 0], []⟩ 8 (by kernel_rfl) (by kernel_rfl) (by kernel_rfl) (by kernel_rfl)) rfl Try.underlying4 rfl laid (by kernel_rfl) ?_ ?_
  · intro ds h
    match ds, h with
    | [a0], _ => rfl
  · intro W base args ds ps hval hA hlt hsz
    have hA' : DataW.TrodAll enc Try.prog W 0 (fun _ => true) true [22] args ds ps := hA
    clear hA
    obtain ⟨v0, vs0, d0, ds0, p0, q0, rfl, rfl, rfl, h0, r0⟩ := trodAll_cons hA'
    obtain ⟨rfl, rfl, rfl⟩ := trodAll_nil r0
    obtain ⟨a, cap, xs, rfl, hs, hwf⟩ := open_Jobs (hval 0 22 v0 rfl rfl) h0
    exact ganttClashes_s a cap xs (hs _) hwf
theorem over : Rows.ganttClashesRow.holds Try.pinned (OpenSpec.ofChange Rows.ganttClashesSpec) :=
  OpenClaim.holds_of_wide 3 Try.f3 rfl rfl rfl rfl rfl rfl rfl ⟨rfl, rfl, rfl, rfl, rfl⟩ rfl rfl rfl rfl rfl (by kernel_rfl) Try.func3 (by kernel_rfl)
    (of_decide_eq_true (by kernel_rfl)) (by unfold Func.isWrapper; first | (rw [if_pos (by decide +kernel)]; kernel_rfl) | (rw [if_neg (by decide +kernel)]; exact ⟨rfl, rfl⟩))
    (fun os started H enc _ => lifted os started H enc)
theorem proved : Rows.GanttClashesSaid := over
#print axioms proved
end GanttClashesRow
end Go.Proofs.Ytlhmoojffopheaa
